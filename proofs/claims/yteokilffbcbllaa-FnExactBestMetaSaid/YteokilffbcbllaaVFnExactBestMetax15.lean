-- Written by a program of this repo (wip/myprint.py), over the kit's print; functions that the print does not take stand in it by hand-proved contracts.
import Derived.Test.YteokilffbcbllaaVFnExactBestMetax0
import Derived.Test.YteokilffbcbllaaVFnExactBestMetax10
import Derived.Test.YteokilffbcbllaaVFnExactBestMetax11
import Derived.Test.YteokilffbcbllaaVFnExactBestMetax12
import Derived.Test.YteokilffbcbllaaVFnExactBestMetax14
namespace Go.Proofs.Yteokilffbcbllaa.VFnExactBestMeta
open Go.RowKit Go.Proofs.YteokilffbcbllaaW.PrintWords Go.Proofs.YteokilffbcbllaaW.PrintLast Go.Proofs.YteokilffbcbllaaW.PrintMore
attribute [local go_sem] max2_int min2_int max_two min_two max_three min_three max_four min_four   -- for this text's walks alone
attribute [local go_sem high] str_leq str_gtr str_geq str_lss
set_option linter.unusedVariables false
set_option linter.unusedSimpArgs false

/-! ### impl_ReadMeta: function 7 -/
mutual
def impl_ReadMeta.l0 : Nat → ByteArray → ByteArray → Int → Int → ByteArray → Int → Bool → Int → Int → Int → List (S60) → Option (Int × Int × Int × (List (S60)) × Bool)
  | 0, _, _, _, _, _, _, _, _, _, _, _ => none
  | k + 1, x0, x4, x31, x32, x303000, x303001, x303002, x308000, x308001, x308002, x308003 => if x32 < x31 then ((impl_reader_num.f k x303000 x303001 x303002 1000000000).bind fun bt322 => ((impl_reader_num.f k bt322.2.1 bt322.2.2.1 bt322.2.2.2 40).bind fun bt327 => (impl_ReadMeta.l1 k x0 x4 x31 x32 bt327.1 0 bt327.2.1 bt327.2.2.1 bt327.2.2.2 x308000 x308001 x308002 x308003 bt322.1 ([] : List Int)))) else ((impl_MetaText.f k x308000 x308001 x308002 x308003).bind fun bt320 => (if x303002 = true then (some (0, 0, 0, ([] : List (S60)), false)) else (if x303001 = (x4.size : Int) then (if bt320.2 = true then (if bt320.1.toList = x0.toList then (some (x308000, x308001, x308002, x308003, true)) else (some (0, 0, 0, ([] : List (S60)), false))) else (some (0, 0, 0, ([] : List (S60)), false))) else (some (0, 0, 0, ([] : List (S60)), false)))))
def impl_ReadMeta.l1 : Nat → ByteArray → ByteArray → Int → Int → Int → Int → ByteArray → Int → Bool → Int → Int → Int → List (S60) → Int → List Int → Option (Int × Int × Int × (List (S60)) × Bool)
  | 0, _, _, _, _, _, _, _, _, _, _, _, _, _, _, _ => none
  | k + 1, x0, x4, x31, x32, x38, x39, x303000, x303001, x303002, x308000, x308001, x308002, x308003, x327000, x327001 => if x39 < x38 then ((impl_reader_num.f k x303000 x303001 x303002 1000000000).bind fun bt331 => (if x327001.length < 17592186044416 then (impl_ReadMeta.l1 k x0 x4 x31 x32 x38 (wrap64 (x39 + 1)) bt331.2.1 bt331.2.2.1 bt331.2.2.2 x308000 x308001 x308002 x308003 x327000 (x327001 ++ [bt331.1])) else (none))) else (if x308003.length < 4398046511104 then (impl_ReadMeta.l0 k x0 x4 x31 (wrap64 (x32 + 1)) x303000 x303001 x303002 x308000 x308001 x308002 (x308003 ++ [(⟨x327000, x327001⟩ : S60)])) else (none))
end
def impl_ReadMeta.f (k : Nat) (a0 : ByteArray) : Option (Int × Int × Int × (List (S60)) × Bool) := (impl_Unsealed.f k a0).bind fun bt300 => ((impl_reader_num.f k bt300.1 0 (!bt300.2) 1000000000).bind fun bt303 => ((impl_reader_num.f k bt303.2.1 bt303.2.2.1 bt303.2.2.2 1000000000).bind fun bt308 => ((impl_reader_num.f k bt308.2.1 bt308.2.2.1 bt308.2.2.2 1000000000).bind fun bt312 => ((impl_reader_num.f k bt312.2.1 bt312.2.2.1 bt312.2.2.2 20).bind fun bt316 => (impl_ReadMeta.l0 k a0 bt300.1 bt316.1 0 bt316.2.1 bt316.2.2.1 bt316.2.2.2 bt303.1 bt308.1 bt312.1 ([] : List (S60)))))))
theorem impl_ReadMeta.mono_l : ∀ k, (∀ y0 y1 y2 y3 y4 y5 y6 y7 y8 y9 y10, LeO (impl_ReadMeta.l0 k y0 y1 y2 y3 y4 y5 y6 y7 y8 y9 y10) (impl_ReadMeta.l0 (k + 1) y0 y1 y2 y3 y4 y5 y6 y7 y8 y9 y10)) ∧ (∀ y0 y1 y2 y3 y4 y5 y6 y7 y8 y9 y10 y11 y12 y13 y14, LeO (impl_ReadMeta.l1 k y0 y1 y2 y3 y4 y5 y6 y7 y8 y9 y10 y11 y12 y13 y14) (impl_ReadMeta.l1 (k + 1) y0 y1 y2 y3 y4 y5 y6 y7 y8 y9 y10 y11 y12 y13 y14))
  | 0 => ⟨fun _ _ _ _ _ _ _ _ _ _ _ r h => by simp [impl_ReadMeta.l0] at h, fun _ _ _ _ _ _ _ _ _ _ _ _ _ _ _ r h => by simp [impl_ReadMeta.l1] at h⟩
  | k + 1 => by
    obtain ⟨ih0, ih1⟩ := impl_ReadMeta.mono_l k
    refine ⟨?_, ?_⟩
    · intro y0 y1 y2 y3 y4 y5 y6 y7 y8 y9 y10
      unfold impl_ReadMeta.l0
      repeat' first
      | (with_reducible exact ih0 _ _ _ _ _ _ _ _ _ _ _)
      | (with_reducible exact ih1 _ _ _ _ _ _ _ _ _ _ _ _ _ _ _)
      | (with_reducible exact impl_MetaText.mono _ _ _ _ _)
      | (with_reducible exact impl_Unsealed.mono _ _)
      | (with_reducible exact impl_reader_num.mono _ _ _ _ _)
      | (with_reducible exact LeO.refl _)
      | (with_reducible exact LeO.none _)
      | (with_reducible refine LeO.ite ?_ ?_)
      | (with_reducible refine LeO.bind ?_ (fun _ => ?_))
      | exact ih0 _ _ _ _ _ _ _ _ _ _ _
      | exact ih1 _ _ _ _ _ _ _ _ _ _ _ _ _ _ _
      | exact impl_MetaText.mono _ _ _ _ _
      | exact impl_Unsealed.mono _ _
      | exact impl_reader_num.mono _ _ _ _ _
      | exact LeO.none _
      | refine LeO.ite ?_ ?_
      | refine LeO.bind ?_ (fun _ => ?_)
    · intro y0 y1 y2 y3 y4 y5 y6 y7 y8 y9 y10 y11 y12 y13 y14
      unfold impl_ReadMeta.l1
      repeat' first
      | (with_reducible exact ih0 _ _ _ _ _ _ _ _ _ _ _)
      | (with_reducible exact ih1 _ _ _ _ _ _ _ _ _ _ _ _ _ _ _)
      | (with_reducible exact impl_MetaText.mono _ _ _ _ _)
      | (with_reducible exact impl_Unsealed.mono _ _)
      | (with_reducible exact impl_reader_num.mono _ _ _ _ _)
      | (with_reducible exact LeO.refl _)
      | (with_reducible exact LeO.none _)
      | (with_reducible refine LeO.ite ?_ ?_)
      | (with_reducible refine LeO.bind ?_ (fun _ => ?_))
      | exact ih0 _ _ _ _ _ _ _ _ _ _ _
      | exact ih1 _ _ _ _ _ _ _ _ _ _ _ _ _ _ _
      | exact impl_MetaText.mono _ _ _ _ _
      | exact impl_Unsealed.mono _ _
      | exact impl_reader_num.mono _ _ _ _ _
      | exact LeO.none _
      | refine LeO.ite ?_ ?_
      | refine LeO.bind ?_ (fun _ => ?_)
theorem impl_ReadMeta.mono : ∀ a0 k, LeO (impl_ReadMeta.f k a0) (impl_ReadMeta.f (k + 1) a0) := by
  intro a0 k
  obtain ⟨ih0, ih1⟩ := impl_ReadMeta.mono_l k
  unfold impl_ReadMeta.f
  repeat' first
      | (with_reducible exact ih0 _ _ _ _ _ _ _ _ _ _ _)
      | (with_reducible exact ih1 _ _ _ _ _ _ _ _ _ _ _ _ _ _ _)
      | (with_reducible exact impl_MetaText.mono _ _ _ _ _)
      | (with_reducible exact impl_Unsealed.mono _ _)
      | (with_reducible exact impl_reader_num.mono _ _ _ _ _)
      | (with_reducible exact LeO.refl _)
      | (with_reducible exact LeO.none _)
      | (with_reducible refine LeO.ite ?_ ?_)
      | (with_reducible refine LeO.bind ?_ (fun _ => ?_))
      | exact ih0 _ _ _ _ _ _ _ _ _ _ _
      | exact ih1 _ _ _ _ _ _ _ _ _ _ _ _ _ _ _
      | exact impl_MetaText.mono _ _ _ _ _
      | exact impl_Unsealed.mono _ _
      | exact impl_reader_num.mono _ _ _ _ _
      | exact LeO.none _
      | refine LeO.ite ?_ ?_
      | refine LeO.bind ?_ (fun _ => ?_)
def impl_ReadMeta.T11 : Bool × List (List Nat × List Nat) := (true, [([], []), ([0], [0]), ([], []), ([2], [2]), ([3], [3]), ([1, 4, 3], [1, 4]), ([0, 1, 2, 3, 4, 5], []), ([6, 5, 5, 0, 1, 2, 3, 4, 5], [5, 6])])
def impl_ReadMeta.B11 : List Nat := [0, 1, 0, 4, 12, 31, 63, 127]
theorem impl_ReadMeta.tab11 : rtab .any (opsOf Try.f7 11) = impl_ReadMeta.T11 := by kernel_rfl
theorem impl_ReadMeta.bits11 : waitsOk impl_ReadMeta.T11.2 impl_ReadMeta.B11 = true := by kernel_rfl
set_option maxHeartbeats 8000000 in
set_option maxRecDepth 100000 in
theorem impl_ReadMeta.calls (k : Nat) (a0 : ByteArray) (r1 : Int) (r2 : Int) (r3 : Int) (r4 : List (S60)) (r5 : Bool) (w : World) (h : impl_ReadMeta.f k a0 = some (r1, r2, r3, r4, r5)) :
    Calls Try.prog 7 #[.string a0] w fun e w' => ∃ v3_ : Value, e = .returned (.tuple #[.agg #[.int .i64 r1, .int .i64 r2, .int .i64 r3, v3_], .bool r5]) ∧ Kd.S k60 60 w' w.heap.size (fun _ => True) v3_ r4 ∧ Below w.heap.size w w' := by
  have hu24 := Try.underlying24
  have hu63 := Try.underlying63
  have hu60 := Try.underlying60
  have HB := qo (Below.refl w.heap.size w)
  have H : ((impl_Unsealed.f k a0).bind fun bt300 => ((impl_reader_num.f k bt300.1 0 (!bt300.2) 1000000000).bind fun bt303 => ((impl_reader_num.f k bt303.2.1 bt303.2.2.1 bt303.2.2.2 1000000000).bind fun bt308 => ((impl_reader_num.f k bt308.2.1 bt308.2.2.1 bt308.2.2.2 1000000000).bind fun bt312 => ((impl_reader_num.f k bt312.2.1 bt312.2.2.1 bt312.2.2.2 20).bind fun bt316 => (impl_ReadMeta.l0 k a0 bt300.1 bt316.1 0 bt316.2.1 bt316.2.2.1 bt316.2.2.2 bt303.1 bt308.1 bt312.1 ([] : List (S60)))))))) = some (r1, r2, r3, r4, r5) := h
  clear h
  replace H := Option.bind_eq_some_iff.mp H
  obtain ⟨⟨t300, t301⟩, A20, H⟩ := H
  replace H : ((impl_reader_num.f k t300 0 (!t301) 1000000000).bind fun bt303 => ((impl_reader_num.f k bt303.2.1 bt303.2.2.1 bt303.2.2.2 1000000000).bind fun bt308 => ((impl_reader_num.f k bt308.2.1 bt308.2.2.1 bt308.2.2.2 1000000000).bind fun bt312 => ((impl_reader_num.f k bt312.2.1 bt312.2.2.1 bt312.2.2.2 20).bind fun bt316 => (impl_ReadMeta.l0 k a0 t300 bt316.1 0 bt316.2.1 bt316.2.2.1 bt316.2.2.2 bt303.1 bt308.1 bt312.1 ([] : List (S60))))))) = some (r1, r2, r3, r4, r5) := H
  have A2 := qo A20
  clear A20
  replace H := Option.bind_eq_some_iff.mp H
  obtain ⟨⟨t303, t304, t305, t306⟩, A30, H⟩ := H
  replace H : ((impl_reader_num.f k t304 t305 t306 1000000000).bind fun bt308 => ((impl_reader_num.f k bt308.2.1 bt308.2.2.1 bt308.2.2.2 1000000000).bind fun bt312 => ((impl_reader_num.f k bt312.2.1 bt312.2.2.1 bt312.2.2.2 20).bind fun bt316 => (impl_ReadMeta.l0 k a0 t300 bt316.1 0 bt316.2.1 bt316.2.2.1 bt316.2.2.2 t303 bt308.1 bt312.1 ([] : List (S60)))))) = some (r1, r2, r3, r4, r5) := H
  have A3 := qo A30
  clear A30
  replace H := Option.bind_eq_some_iff.mp H
  obtain ⟨⟨t308, t309, t310, t311⟩, A40, H⟩ := H
  replace H : ((impl_reader_num.f k t309 t310 t311 1000000000).bind fun bt312 => ((impl_reader_num.f k bt312.2.1 bt312.2.2.1 bt312.2.2.2 20).bind fun bt316 => (impl_ReadMeta.l0 k a0 t300 bt316.1 0 bt316.2.1 bt316.2.2.1 bt316.2.2.2 t303 t308 bt312.1 ([] : List (S60))))) = some (r1, r2, r3, r4, r5) := H
  have A4 := qo A40
  clear A40
  replace H := Option.bind_eq_some_iff.mp H
  obtain ⟨⟨t312, t313, t314, t315⟩, A50, H⟩ := H
  replace H : ((impl_reader_num.f k t313 t314 t315 20).bind fun bt316 => (impl_ReadMeta.l0 k a0 t300 bt316.1 0 bt316.2.1 bt316.2.2.1 bt316.2.2.2 t303 t308 t312 ([] : List (S60)))) = some (r1, r2, r3, r4, r5) := H
  have A5 := qo A50
  clear A50
  replace H := Option.bind_eq_some_iff.mp H
  obtain ⟨⟨t316, t317, t318, t319⟩, A60, H⟩ := H
  replace H : (impl_ReadMeta.l0 k a0 t300 t316 0 t317 t318 t319 t303 t308 t312 ([] : List (S60))) = some (r1, r2, r3, r4, r5) := H
  have A6 := qo A60
  clear A60
  have H' := qo H
  clear H
  go_enter Try.func7, Try.ntmps7
  go_wp2_with (first | ((with_reducible refine gate_dst (N := 2) rfl ?_); (try (refine gate_guard zae ?_; dsimp only)); refine box_event ?hg (N := 2) ?hd (cs := #[.int .i64 0, .int .i64 0, .int .i64 0, .slice none 0 0]) (t := 24) ?hr ?_; (case hd => rfl); (case hg => rfl); (case hr => first | (go_simp; done) | (go_simp; rfl)); intro gb299 hg w7 hbox hb; have n0_ := qo (qq za hb); have n1_ := qo (hbox); have n2_ := qo ((zcn : w.heap.size ≤ gb299)); have n3_ := qo ((zcn : w.heap.size ≤ gb299)); clear HB; have HB := n0_; have BK299 := n1_; have GW299 := n2_; have GE299 := n3_; clear n0_ n1_ n2_ n3_; clear hb hbox hg) | ((with_reducible refine gate_callee (f := 27) rfl ?_); refine goesL_ (some 13) rfl rfl Try.func27 ze rfl #[.string a0] rfl zcm ?_; (with_reducible refine (impl_Unsealed.calls k a0 t300 t301 _ A2.out).mono ?_); rintro e w8 ⟨rfl, hb⟩; refine ⟨_, rfl, ?_⟩; have n0_ := qo (qr (g := gb299) (o := .cells #[.int .i64 0, .int .i64 0, .int .i64 0, .slice none 0 0] 24 (0, 0)) zv hb); have n1_ := qo (qq za3 hb); clear BK299; clear HB; have BK299 := n0_; have HB := n1_; clear n0_ n1_; (try clear hb); (try clear hb2); (try clear hk); (try clear hi)) | ((with_reducible refine gate_dst (N := 20) rfl ?_); (try (refine gate_guard zae ?_; dsimp only)); refine box_event ?hg (N := 20) ?hd (cs := #[.string t300, .int .i64 0, .bool (!t301)]) (t := 63) ?hr ?_; (case hd => rfl); (case hg => rfl); (case hr => first | (go_simp; done) | (go_simp; rfl)); intro gb302 hg w9 hbox hb; have n0_ := qo (qr (g := gb299) (o := .cells #[.int .i64 0, .int .i64 0, .int .i64 0, .slice none 0 0] 24 (0, 0)) zv hb); have n1_ := qo (qq za3 hb); have n2_ := qo ((show IsS63 w w9 gb302 t300 0 (!t301) from ⟨hbox, (by rw [hg]; exact (qp za3) : w.heap.size ≤ gb302)⟩)); have n3_ := qo ((by rw [hg]; exact (qp za3) : w.heap.size ≤ gb302)); have n4_ := qo ((by rw [hg]; exact (qp za3) : w.heap.size ≤ gb302)); have n5_ := qo ((zcr : gb299 ≠ gb302)); have n6_ := qo ((zcs : gb302 ≠ gb299)); clear BK299; clear HB; have BK299 := n0_; have HB := n1_; have HI302 := n2_; have GW302 := n3_; have GE302 := n4_; have NB299_302 := n5_; have NB302_299 := n6_; clear n0_ n1_ n2_ n3_ n4_ n5_ n6_; clear hb hbox hg) | ((with_reducible refine gate_callee (f := 28) rfl ?_); refine goesL_ (some 22) rfl rfl Try.func28 ze rfl #[.pointer (some ⟨gb302, 0, none⟩), .int .i64 1000000000] rfl zcm ?_; (with_reducible refine (impl_reader_num.calls k gb302 t300 0 (!t301) 1000000000 t303 t304 t305 t306 w _ ?side1 ?side2 A3.out).mono ?_); (case side1 => repeat (first | (with_reducible first | exact HI302.out | apply IsS63.alloc | apply IsS63.drewN | apply IsS63.drew | apply IsS63.set_0 | apply IsS63.set_1 | apply IsS63.set_2 | apply IsS63.far (hne := NB302_299.out)) | apply IsS63.far (hne := NB302_299.out) | exact HI302.out)); (case side2 => repeat (first | (with_reducible first | exact HB.out | apply ql | apply qm | apply qn | refine qt ?_ (IsS63.ge HI302.out) | refine qt ?_ GE299.out) | exact HB.out)); rintro e w10 ⟨rfl, hi, hb, hk⟩; refine ⟨_, rfl, ?_⟩; have n0_ := qo (KeepBut.blk hk (g' := gb299) (o := .cells #[.int .i64 0, .int .i64 0, .int .i64 0, .slice none 0 0] 24 (0, 0)) zv NB299_302.out zbh); have n1_ := qo (hb); have n2_ := qo (hi); clear BK299; clear HB; clear HI302; have BK299 := n0_; have HB := n1_; have HI302 := n2_; clear n0_ n1_ n2_; (try clear hb); (try clear hb2); (try clear hk); (try clear hi)) | ((with_reducible refine gate_dst (N := 7) rfl ?_); (try (refine gate_guard zae ?_; dsimp only)); refine box_event ?hg (N := 7) ?hd (cs := #[.int .i64 0, .int .i64 0, .int .i64 0, .slice none 0 0]) (t := 24) ?hr ?_; (case hd => rfl); (case hg => rfl); (case hr => first | (go_simp; done) | (go_simp; rfl)); intro gb307 hg w11 hbox hb; have n0_ := qo (qr (g := gb299) (o := .cells #[.int .i64 0, .int .i64 0, .int .i64 0, .slice none 0 0] 24 (0, 0)) zv hb); have n1_ := qo (IsS63.below (by repeat (first | (with_reducible first | exact HI302.out | apply IsS63.alloc | apply IsS63.drewN | apply IsS63.drew | apply IsS63.set_0 | apply IsS63.set_1 | apply IsS63.set_2 | apply IsS63.far (hne := NB302_299.out)) | apply IsS63.far (hne := NB302_299.out) | exact HI302.out)) hb); have n2_ := qo (qq zbi hb); have n3_ := qo (hbox); have n4_ := qo ((by rw [hg]; exact (qp zbi) : w.heap.size ≤ gb307)); have n5_ := qo ((by rw [hg]; exact (qp zbi) : w.heap.size ≤ gb307)); have n6_ := qo ((zcr : gb299 ≠ gb307)); have n7_ := qo ((zcs : gb307 ≠ gb299)); have n8_ := qo ((by rw [hg]; exact Nat.ne_of_lt (IsS63.lt (show IsS63 w _ gb302 t304 t305 t306 from by repeat (first | (with_reducible first | exact HI302.out | apply IsS63.alloc | apply IsS63.drewN | apply IsS63.drew | apply IsS63.set_0 | apply IsS63.set_1 | apply IsS63.set_2 | apply IsS63.far (hne := NB302_299.out)) | apply IsS63.far (hne := NB302_299.out) | exact HI302.out))) : gb302 ≠ gb307)); have n9_ := qo ((by rw [hg]; exact Nat.ne_of_gt (IsS63.lt (show IsS63 w _ gb302 t304 t305 t306 from by repeat (first | (with_reducible first | exact HI302.out | apply IsS63.alloc | apply IsS63.drewN | apply IsS63.drew | apply IsS63.set_0 | apply IsS63.set_1 | apply IsS63.set_2 | apply IsS63.far (hne := NB302_299.out)) | apply IsS63.far (hne := NB302_299.out) | exact HI302.out))) : gb307 ≠ gb302)); clear BK299; clear HI302; clear HB; have BK299 := n0_; have HI302 := n1_; have HB := n2_; have BK307 := n3_; have GW307 := n4_; have GE307 := n5_; have NB299_307 := n6_; have NB307_299 := n7_; have NB302_307 := n8_; have NB307_302 := n9_; clear n0_ n1_ n2_ n3_ n4_ n5_ n6_ n7_ n8_ n9_; clear hb hbox hg; have hnb12 := NB307_299.out; have hnc12 := NB299_307.out; have hnb13 := NB307_302.out; have hnc13 := NB302_307.out; have hcz14_0 : w11.cell? ⟨gb307, 0, none⟩ = some (.int .i64 0) := (qs BK307.out 0).trans rfl; have hcz14_1 : w11.cell? ⟨gb307, 1, none⟩ = some (.int .i64 0) := (qs BK307.out 1).trans rfl; have hcz14_2 : w11.cell? ⟨gb307, 2, none⟩ = some (.int .i64 0) := (qs BK307.out 2).trans rfl; have hcz14_3 : w11.cell? ⟨gb307, 3, none⟩ = some (.slice none 0 0) := (qs BK307.out 3).trans rfl; have hfz14_0 := qu BK307.out 0; have hfz14_1 := qu BK307.out 1; have hfz14_2 := qu BK307.out 2; have hfz14_3 := qu BK307.out 3) | ((with_reducible refine gate_callee (f := 28) rfl ?_); refine goesL_ (some 25) rfl rfl Try.func28 ze rfl #[.pointer (some ⟨gb302, 0, none⟩), .int .i64 1000000000] rfl zcm ?_; (with_reducible refine (impl_reader_num.calls k gb302 t304 t305 t306 1000000000 t308 t309 t310 t311 w _ ?side1 ?side2 A4.out).mono ?_); (case side1 => repeat (first | (with_reducible first | exact HI302.out | apply IsS63.alloc | apply IsS63.drewN | apply IsS63.drew | apply IsS63.set_0 | apply IsS63.set_1 | apply IsS63.set_2 | apply IsS63.far (hne := NB302_299.out) | apply IsS63.far (hne := NB302_307.out)) | apply IsS63.far (hne := NB302_299.out) | apply IsS63.far (hne := NB302_307.out) | exact HI302.out)); (case side2 => repeat (first | (with_reducible first | exact HB.out | apply ql | apply qm | apply qn | refine qt ?_ (IsS63.ge HI302.out) | refine qt ?_ GE299.out | refine qt ?_ GE307.out) | exact HB.out)); rintro e w15 ⟨rfl, hi, hb, hk⟩; refine ⟨_, rfl, ?_⟩; have n0_ := qo (KeepBut.blk hk (g' := gb299) (o := .cells #[.int .i64 0, .int .i64 0, .int .i64 0, .slice none 0 0] 24 (0, 0)) (by (with_reducible repeat (first | refine qi ?_ _ | refine qj ?_ | refine qk ?_ _)); refine blk_far ?_ NB299_307.out _; (with_reducible repeat (first | refine qi ?_ _ | refine qj ?_ | refine qk ?_ _)); refine blk_far ?_ NB299_307.out _; (with_reducible repeat (first | refine qi ?_ _ | refine qj ?_ | refine qk ?_ _)); refine blk_far ?_ NB299_307.out _; (with_reducible repeat (first | refine qi ?_ _ | refine qj ?_ | refine qk ?_ _)); refine blk_far ?_ NB299_307.out _; (with_reducible repeat (first | refine qi ?_ _ | refine qj ?_ | refine qk ?_ _)); exact BK299.out) NB299_302.out zbh); have n1_ := qo (KeepBut.blk hk (g' := gb307) (o := .cells #[.int .i64 t303, .int .i64 0, .int .i64 0, .slice none 0 0] 24 (0, 0)) (by (with_reducible repeat (first | refine qi ?_ _ | refine qj ?_ | refine qk ?_ _)); refine blk_put (cs := #[.int .i64 t303, .int .i64 0, .int .i64 0, .slice none 0 0]) ?_ 3 _ rfl; (with_reducible repeat (first | refine qi ?_ _ | refine qj ?_ | refine qk ?_ _)); refine blk_put (cs := #[.int .i64 t303, .int .i64 0, .int .i64 0, .slice none 0 0]) ?_ 2 _ rfl; (with_reducible repeat (first | refine qi ?_ _ | refine qj ?_ | refine qk ?_ _)); refine blk_put (cs := #[.int .i64 t303, .int .i64 0, .int .i64 0, .slice none 0 0]) ?_ 1 _ rfl; (with_reducible repeat (first | refine qi ?_ _ | refine qj ?_ | refine qk ?_ _)); refine blk_put (cs := #[.int .i64 0, .int .i64 0, .int .i64 0, .slice none 0 0]) ?_ 0 _ rfl; (with_reducible repeat (first | refine qi ?_ _ | refine qj ?_ | refine qk ?_ _)); exact BK307.out) NB307_302.out zbh); have n2_ := qo (hb); have n3_ := qo (hi); clear BK299; clear BK307; clear HB; clear HI302; have BK299 := n0_; have BK307 := n1_; have HB := n2_; have HI302 := n3_; clear n0_ n1_ n2_ n3_; (try clear hb); (try clear hb2); (try clear hk); (try clear hi); have hcz16_0 : w15.cell? ⟨gb307, 0, none⟩ = some (.int .i64 t303) := (qs BK307.out 0).trans rfl; have hcz16_1 : w15.cell? ⟨gb307, 1, none⟩ = some (.int .i64 0) := (qs BK307.out 1).trans rfl; have hcz16_2 : w15.cell? ⟨gb307, 2, none⟩ = some (.int .i64 0) := (qs BK307.out 2).trans rfl; have hcz16_3 : w15.cell? ⟨gb307, 3, none⟩ = some (.slice none 0 0) := (qs BK307.out 3).trans rfl; have hfz16_0 := qu BK307.out 0; have hfz16_1 := qu BK307.out 1; have hfz16_2 := qu BK307.out 2; have hfz16_3 := qu BK307.out 3) | ((with_reducible refine gate_callee (f := 28) rfl ?_); refine goesL_ (some 28) rfl rfl Try.func28 ze rfl #[.pointer (some ⟨gb302, 0, none⟩), .int .i64 1000000000] rfl zcm ?_; (with_reducible refine (impl_reader_num.calls k gb302 t309 t310 t311 1000000000 t312 t313 t314 t315 w _ ?side1 ?side2 A5.out).mono ?_); (case side1 => repeat (first | (with_reducible first | exact HI302.out | apply IsS63.alloc | apply IsS63.drewN | apply IsS63.drew | apply IsS63.set_0 | apply IsS63.set_1 | apply IsS63.set_2 | apply IsS63.far (hne := NB302_299.out) | apply IsS63.far (hne := NB302_307.out)) | apply IsS63.far (hne := NB302_299.out) | apply IsS63.far (hne := NB302_307.out) | exact HI302.out)); (case side2 => repeat (first | (with_reducible first | exact HB.out | apply ql | apply qm | apply qn | refine qt ?_ (IsS63.ge HI302.out) | refine qt ?_ GE299.out | refine qt ?_ GE307.out) | exact HB.out)); rintro e w17 ⟨rfl, hi, hb, hk⟩; refine ⟨_, rfl, ?_⟩; have n0_ := qo (KeepBut.blk hk (g' := gb299) (o := .cells #[.int .i64 0, .int .i64 0, .int .i64 0, .slice none 0 0] 24 (0, 0)) zba NB299_302.out zbh); have n1_ := qo (KeepBut.blk hk (g' := gb307) (o := .cells #[.int .i64 t303, .int .i64 t308, .int .i64 0, .slice none 0 0] 24 (0, 0)) (by (with_reducible repeat (first | refine qi ?_ _ | refine qj ?_ | refine qk ?_ _)); refine blk_put (cs := #[.int .i64 t303, .int .i64 0, .int .i64 0, .slice none 0 0]) ?_ 1 _ rfl; (with_reducible repeat (first | refine qi ?_ _ | refine qj ?_ | refine qk ?_ _)); exact BK307.out) NB307_302.out zbh); have n2_ := qo (hb); have n3_ := qo (hi); clear BK299; clear BK307; clear HB; clear HI302; have BK299 := n0_; have BK307 := n1_; have HB := n2_; have HI302 := n3_; clear n0_ n1_ n2_ n3_; (try clear hb); (try clear hb2); (try clear hk); (try clear hi); have hcz18_0 : w17.cell? ⟨gb307, 0, none⟩ = some (.int .i64 t303) := (qs BK307.out 0).trans rfl; have hcz18_1 : w17.cell? ⟨gb307, 1, none⟩ = some (.int .i64 t308) := (qs BK307.out 1).trans rfl; have hcz18_2 : w17.cell? ⟨gb307, 2, none⟩ = some (.int .i64 0) := (qs BK307.out 2).trans rfl; have hcz18_3 : w17.cell? ⟨gb307, 3, none⟩ = some (.slice none 0 0) := (qs BK307.out 3).trans rfl; have hfz18_0 := qu BK307.out 0; have hfz18_1 := qu BK307.out 1; have hfz18_2 := qu BK307.out 2; have hfz18_3 := qu BK307.out 3) | ((with_reducible refine gate_callee (f := 28) rfl ?_); refine goesL_ (some 31) rfl rfl Try.func28 ze rfl #[.pointer (some ⟨gb302, 0, none⟩), .int .i64 20] rfl zcm ?_; (with_reducible refine (impl_reader_num.calls k gb302 t313 t314 t315 20 t316 t317 t318 t319 w _ ?side1 ?side2 A6.out).mono ?_); (case side1 => repeat (first | (with_reducible first | exact HI302.out | apply IsS63.alloc | apply IsS63.drewN | apply IsS63.drew | apply IsS63.set_0 | apply IsS63.set_1 | apply IsS63.set_2 | apply IsS63.far (hne := NB302_299.out) | apply IsS63.far (hne := NB302_307.out)) | apply IsS63.far (hne := NB302_299.out) | apply IsS63.far (hne := NB302_307.out) | exact HI302.out)); (case side2 => repeat (first | (with_reducible first | exact HB.out | apply ql | apply qm | apply qn | refine qt ?_ (IsS63.ge HI302.out) | refine qt ?_ GE299.out | refine qt ?_ GE307.out) | exact HB.out)); rintro e w19 ⟨rfl, hi, hb, hk⟩; refine ⟨_, rfl, ?_⟩; have n0_ := qo (KeepBut.blk hk (g' := gb299) (o := .cells #[.int .i64 0, .int .i64 0, .int .i64 0, .slice none 0 0] 24 (0, 0)) zba NB299_302.out zbh); have n1_ := qo (KeepBut.blk hk (g' := gb307) (o := .cells #[.int .i64 t303, .int .i64 t308, .int .i64 t312, .slice none 0 0] 24 (0, 0)) (by (with_reducible repeat (first | refine qi ?_ _ | refine qj ?_ | refine qk ?_ _)); refine blk_put (cs := #[.int .i64 t303, .int .i64 t308, .int .i64 0, .slice none 0 0]) ?_ 2 _ rfl; (with_reducible repeat (first | refine qi ?_ _ | refine qj ?_ | refine qk ?_ _)); exact BK307.out) NB307_302.out zbh); have n2_ := qo (hb); have n3_ := qo (hi); clear BK299; clear BK307; clear HB; clear HI302; have BK299 := n0_; have BK307 := n1_; have HB := n2_; have HI302 := n3_; clear n0_ n1_ n2_ n3_; (try clear hb); (try clear hb2); (try clear hk); (try clear hi)))
  go_loopg [32] k (fun kq v32 w' => ∃ (x32_1 : Int) (x303000_1 : ByteArray) (x303001_1 : Int) (x303002_1 : Bool) (x308003_1 : List (S60)) (u308003 : Value), v32 = .int .i64 x32_1 ∧ Aside0 (impl_ReadMeta.l0 kq a0 t300 t316 x32_1 x303000_1 x303001_1 x303002_1 t303 t308 t312 x308003_1 = some (r1, r2, r3, r4, r5)) ∧ Aside0 (kq ≤ k) ∧ Aside0 (Kd.S k60 60 w' w.heap.size (fun _ => True) u308003 x308003_1) ∧ Aside0 (w'.heap[gb299]? = some (.cells #[.int .i64 0, .int .i64 0, .int .i64 0, (.slice none 0 0)] 24 (0, 0))) ∧ Aside0 (w'.heap[gb307]? = some (.cells #[.int .i64 t303, .int .i64 t308, .int .i64 t312, u308003] 24 (0, 0))) ∧ Aside0 (IsS63 w w' gb302 x303000_1 x303001_1 x303002_1) ∧ Aside0 (Below w.heap.size w w'))
  case atStart => exact ⟨(0), (t317), (t318), (t319), (([] : List (S60))), (.slice none 0 0), zc, H', ⟨Nat.le_refl _⟩, ⟨zam⟩, ⟨zv⟩, ⟨zab⟩, ⟨zw⟩, ⟨zk⟩⟩
  case round =>
    clear H'
    (try clear c1); (try clear c2); (try clear p2); (try clear c7); (try clear c12); (try clear c13); (try clear hcz14_0); (try clear hcz14_1); (try clear hcz14_2); (try clear hcz14_3); (try clear hcz16_0); (try clear hcz16_1); (try clear hcz16_2); (try clear hcz16_3); (try clear hcz18_0); (try clear hcz18_1); (try clear hcz18_2); (try clear hcz18_3); (try clear hfz14_0); (try clear hfz14_1); (try clear hfz14_2); (try clear hfz14_3); (try clear hfz16_0); (try clear hfz16_1); (try clear hfz16_2); (try clear hfz16_3); (try clear hfz18_0); (try clear hfz18_1); (try clear hfz18_2); (try clear hfz18_3)
    obtain ⟨x32_1, x303000_1, x303001_1, x303002_1, x308003_1, u308003, rfl, HA, HK1, HO_308003, BK299, BK307, HI302, HB⟩ := hrel
    cases gk with
    | zero => exact absurd HA.out (by simp [impl_ReadMeta.l0])
    | succ k1 =>
      have H := HA.out
      clear HA
      simp only [impl_ReadMeta.l0] at H
      by_cases c20 : x32_1 < t316
      · rw [if_pos c20] at H
        have c20b0 : decide (x32_1 < t316) = true := decide_eq_true c20
        clear c20
        replace H := Option.bind_eq_some_iff.mp H
        obtain ⟨⟨t322, t323, t324, t325⟩, A210, H⟩ := H
        replace H : ((impl_reader_num.f k1 t323 t324 t325 40).bind fun bt327 => (impl_ReadMeta.l1 k1 a0 t300 t316 x32_1 bt327.1 0 bt327.2.1 bt327.2.2.1 bt327.2.2.2 t303 t308 t312 x308003_1 t322 ([] : List Int))) = some (r1, r2, r3, r4, r5) := H
        have A21 := qo A210
        clear A210
        replace H := Option.bind_eq_some_iff.mp H
        obtain ⟨⟨t327, t328, t329, t330⟩, A220, H⟩ := H
        replace H : (impl_ReadMeta.l1 k1 a0 t300 t316 x32_1 t327 0 t328 t329 t330 t303 t308 t312 x308003_1 t322 ([] : List Int)) = some (r1, r2, r3, r4, r5) := H
        have A22 := qo A220
        clear A220
        have H' := qo H
        clear H
        go_wp2_with (first | ((with_reducible refine gate_callee (f := 28) rfl ?_); refine goesL_ (some 35) rfl rfl Try.func28 ze rfl #[.pointer (some ⟨gb302, 0, none⟩), .int .i64 1000000000] rfl zcm ?_; (with_reducible refine (impl_reader_num.calls k1 gb302 x303000_1 x303001_1 x303002_1 1000000000 t322 t323 t324 t325 w _ ?side1 ?side2 A21.out).mono ?_); (case side1 => repeat (first | (with_reducible first | exact HI302.out | apply IsS63.alloc | apply IsS63.drewN | apply IsS63.drew | apply IsS63.set_0 | apply IsS63.set_1 | apply IsS63.set_2 | apply IsS63.far (hne := NB302_299.out) | apply IsS63.far (hne := NB302_307.out)) | apply IsS63.far (hne := NB302_299.out) | apply IsS63.far (hne := NB302_307.out) | exact HI302.out)); (case side2 => repeat (first | (with_reducible first | exact HB.out | apply ql | apply qm | apply qn | refine qt ?_ (IsS63.ge HI302.out) | refine qt ?_ GE299.out | refine qt ?_ GE307.out) | exact HB.out)); rintro e w23 ⟨rfl, hi, hb, hk⟩; refine ⟨_, rfl, ?_⟩; have n0_ := qo (Kd.S_mono (Kd.S_keep (IsS63.apartS (show IsS63 w _ gb302 x303000_1 x303001_1 x303002_1 from by repeat (first | (with_reducible first | exact HI302.out | apply IsS63.alloc | apply IsS63.drewN | apply IsS63.drew | apply IsS63.set_0 | apply IsS63.set_1 | apply IsS63.set_2 | apply IsS63.far (hne := NB302_299.out) | apply IsS63.far (hne := NB302_307.out)) | apply IsS63.far (hne := NB302_299.out) | apply IsS63.far (hne := NB302_307.out) | exact HI302.out)) za1 za7) hk (fun _ h => h.2)) (fun _ h => h.1)); have n1_ := qo (KeepBut.blk hk (g' := gb299) (o := .cells #[.int .i64 0, .int .i64 0, .int .i64 0, .slice none 0 0] 24 (0, 0)) zv NB299_302.out zbh); have n2_ := qo (KeepBut.blk hk (g' := gb307) (o := .cells #[.int .i64 t303, .int .i64 t308, .int .i64 t312, u308003] 24 (0, 0)) zab NB307_302.out zbh); have n3_ := qo (hb); have n4_ := qo (hi); clear HO_308003; clear BK299; clear BK307; clear HB; clear HI302; have HO_308003 := n0_; have BK299 := n1_; have BK307 := n2_; have HB := n3_; have HI302 := n4_; clear n0_ n1_ n2_ n3_ n4_; (try clear hb); (try clear hb2); (try clear hk); (try clear hi)) | ((with_reducible refine gate_dst (N := 8) rfl ?_); (try (refine gate_guard zae ?_; dsimp only)); refine box_event ?hg (N := 8) ?hd (cs := #[.int .i64 0, .slice none 0 0]) (t := 60) ?hr ?_; (case hd => rfl); (case hg => rfl); (case hr => first | (go_simp; done) | (go_simp; rfl)); intro gb326 hg w24 hbox hb; have n0_ := qo (Kd.S_below (Kd.S_elderB za1 gb326 (Nat.le_of_eq hg.symm)) hb); have n1_ := qo (qr (g := gb299) (o := .cells #[.int .i64 0, .int .i64 0, .int .i64 0, .slice none 0 0] 24 (0, 0)) zv hb); have n2_ := qo (qr (g := gb307) (o := .cells #[.int .i64 t303, .int .i64 t308, .int .i64 t312, u308003] 24 (0, 0)) zab hb); have n3_ := qo (IsS63.below zw hb); have n4_ := qo (qq zk hb); have n5_ := qo (hbox); have n6_ := qo ((by rw [hg]; exact (qp zk) : w.heap.size ≤ gb326)); have n7_ := qo ((by rw [hg]; exact (qp zk) : w.heap.size ≤ gb326)); have n8_ := qo ((zcr : gb299 ≠ gb326)); have n9_ := qo ((zcs : gb326 ≠ gb299)); have n10_ := qo ((by rw [hg]; exact Nat.ne_of_lt (blk_lt (g := gb307) (o := .cells #[.int .i64 t303, .int .i64 t308, .int .i64 t312, u308003] 24 (0, 0)) zab) : gb307 ≠ gb326)); have n11_ := qo ((by rw [hg]; exact Nat.ne_of_gt (blk_lt (g := gb307) (o := .cells #[.int .i64 t303, .int .i64 t308, .int .i64 t312, u308003] 24 (0, 0)) zab) : gb326 ≠ gb307)); have n12_ := qo ((by rw [hg]; exact Nat.ne_of_lt (IsS63.lt (show IsS63 w _ gb302 t323 t324 t325 from by repeat (first | (with_reducible first | exact HI302.out | apply IsS63.alloc | apply IsS63.drewN | apply IsS63.drew | apply IsS63.set_0 | apply IsS63.set_1 | apply IsS63.set_2 | apply IsS63.far (hne := NB302_299.out) | apply IsS63.far (hne := NB302_307.out)) | apply IsS63.far (hne := NB302_299.out) | apply IsS63.far (hne := NB302_307.out) | exact HI302.out))) : gb302 ≠ gb326)); have n13_ := qo ((by rw [hg]; exact Nat.ne_of_gt (IsS63.lt (show IsS63 w _ gb302 t323 t324 t325 from by repeat (first | (with_reducible first | exact HI302.out | apply IsS63.alloc | apply IsS63.drewN | apply IsS63.drew | apply IsS63.set_0 | apply IsS63.set_1 | apply IsS63.set_2 | apply IsS63.far (hne := NB302_299.out) | apply IsS63.far (hne := NB302_307.out)) | apply IsS63.far (hne := NB302_299.out) | apply IsS63.far (hne := NB302_307.out) | exact HI302.out))) : gb326 ≠ gb302)); clear HO_308003; clear BK299; clear BK307; clear HI302; clear HB; have HO_308003 := n0_; have BK299 := n1_; have BK307 := n2_; have HI302 := n3_; have HB := n4_; have BK326 := n5_; have GW326 := n6_; have GE326 := n7_; have NB299_326 := n8_; have NB326_299 := n9_; have NB307_326 := n10_; have NB326_307 := n11_; have NB302_326 := n12_; have NB326_302 := n13_; clear n0_ n1_ n2_ n3_ n4_ n5_ n6_ n7_ n8_ n9_ n10_ n11_ n12_ n13_; clear hb hbox hg; have hnb25 := NB326_299.out; have hnc25 := NB299_326.out; have hnb26 := NB326_307.out; have hnc26 := NB307_326.out; have hnb27 := NB326_302.out; have hnc27 := NB302_326.out; have hcz28_0 : w24.cell? ⟨gb326, 0, none⟩ = some (.int .i64 0) := (qs BK326.out 0).trans rfl; have hcz28_1 : w24.cell? ⟨gb326, 1, none⟩ = some (.slice none 0 0) := (qs BK326.out 1).trans rfl; have hfz28_0 := qu BK326.out 0; have hfz28_1 := qu BK326.out 1) | ((with_reducible refine gate_callee (f := 28) rfl ?_); refine goesL_ (some 38) rfl rfl Try.func28 ze rfl #[.pointer (some ⟨gb302, 0, none⟩), .int .i64 40] rfl zcm ?_; (with_reducible refine (impl_reader_num.calls k1 gb302 t323 t324 t325 40 t327 t328 t329 t330 w _ ?side1 ?side2 A22.out).mono ?_); (case side1 => repeat (first | (with_reducible first | exact HI302.out | apply IsS63.alloc | apply IsS63.drewN | apply IsS63.drew | apply IsS63.set_0 | apply IsS63.set_1 | apply IsS63.set_2 | apply IsS63.far (hne := NB302_299.out) | apply IsS63.far (hne := NB302_307.out) | apply IsS63.far (hne := NB302_326.out)) | apply IsS63.far (hne := NB302_299.out) | apply IsS63.far (hne := NB302_307.out) | apply IsS63.far (hne := NB302_326.out) | exact HI302.out)); (case side2 => repeat (first | (with_reducible first | exact HB.out | apply ql | apply qm | apply qn | refine qt ?_ (IsS63.ge HI302.out) | refine qt ?_ GE299.out | refine qt ?_ GE307.out | refine qt ?_ GE326.out) | exact HB.out)); rintro e w29 ⟨rfl, hi, hb, hk⟩; refine ⟨_, rfl, ?_⟩; have n0_ := qo (Kd.S_mono (Kd.S_keep (IsS63.apartS (show IsS63 w _ gb302 t323 t324 t325 from by repeat (first | (with_reducible first | exact HI302.out | apply IsS63.alloc | apply IsS63.drewN | apply IsS63.drew | apply IsS63.set_0 | apply IsS63.set_1 | apply IsS63.set_2 | apply IsS63.far (hne := NB302_299.out) | apply IsS63.far (hne := NB302_307.out) | apply IsS63.far (hne := NB302_326.out)) | apply IsS63.far (hne := NB302_299.out) | apply IsS63.far (hne := NB302_307.out) | apply IsS63.far (hne := NB302_326.out) | exact HI302.out)) (by (with_reducible repeat (first | apply Kd.S_alloc | apply Kd.S_drewN | apply Kd.S_drew)); exact (Kd.S_mono (Kd.S_far (p := ⟨gb326, 1, none⟩) (Kd.S_far (p := ⟨gb326, 0, none⟩) (Kd.S_mono HO_308003.out (fun k_ hk => (⟨hk, hk.2⟩ : _ ∧ k_ ≠ gb326))) (fun _ hk => hk.2) (.int .i64 t322)) (fun _ hk => hk.2) (.slice none 0 0)) (fun _ h_ => h_.1))) za7) hk (fun _ h => h.2)) (fun _ h => h.1)); have n1_ := qo (KeepBut.blk hk (g' := gb299) (o := .cells #[.int .i64 0, .int .i64 0, .int .i64 0, .slice none 0 0] 24 (0, 0)) (by (with_reducible repeat (first | refine qi ?_ _ | refine qj ?_ | refine qk ?_ _)); refine blk_far ?_ NB299_326.out _; (with_reducible repeat (first | refine qi ?_ _ | refine qj ?_ | refine qk ?_ _)); refine blk_far ?_ NB299_326.out _; (with_reducible repeat (first | refine qi ?_ _ | refine qj ?_ | refine qk ?_ _)); exact BK299.out) NB299_302.out zbh); have n2_ := qo (KeepBut.blk hk (g' := gb307) (o := .cells #[.int .i64 t303, .int .i64 t308, .int .i64 t312, u308003] 24 (0, 0)) (by (with_reducible repeat (first | refine qi ?_ _ | refine qj ?_ | refine qk ?_ _)); refine blk_far ?_ NB307_326.out _; (with_reducible repeat (first | refine qi ?_ _ | refine qj ?_ | refine qk ?_ _)); refine blk_far ?_ NB307_326.out _; (with_reducible repeat (first | refine qi ?_ _ | refine qj ?_ | refine qk ?_ _)); exact BK307.out) NB307_302.out zbh); have n3_ := qo (KeepBut.blk hk (g' := gb326) (o := .cells #[.int .i64 t322, .slice none 0 0] 60 (0, 0)) (by (with_reducible repeat (first | refine qi ?_ _ | refine qj ?_ | refine qk ?_ _)); refine blk_put (cs := #[.int .i64 t322, .slice none 0 0]) ?_ 1 _ rfl; (with_reducible repeat (first | refine qi ?_ _ | refine qj ?_ | refine qk ?_ _)); refine blk_put (cs := #[.int .i64 0, .slice none 0 0]) ?_ 0 _ rfl; (with_reducible repeat (first | refine qi ?_ _ | refine qj ?_ | refine qk ?_ _)); exact BK326.out) NB326_302.out zbh); have n4_ := qo (hb); have n5_ := qo (hi); clear HO_308003; clear BK299; clear BK307; clear BK326; clear HB; clear HI302; have HO_308003 := n0_; have BK299 := n1_; have BK307 := n2_; have BK326 := n3_; have HB := n4_; have HI302 := n5_; clear n0_ n1_ n2_ n3_ n4_ n5_; (try clear hb); (try clear hb2); (try clear hk); (try clear hi)))
        go_loopg [39] k1 (fun kq v39 w' => ∃ (x39_2 : Int) (x303000_2 : ByteArray) (x303001_2 : Int) (x303002_2 : Bool) (x327001_2 : List Int) (u327001 : Value), v39 = .int .i64 x39_2 ∧ Aside0 (impl_ReadMeta.l1 kq a0 t300 t316 x32_1 t327 x39_2 x303000_2 x303001_2 x303002_2 t303 t308 t312 x308003_1 t322 x327001_2 = some (r1, r2, r3, r4, r5)) ∧ Aside0 (kq ≤ k1) ∧ Aside0 (Kd.S k60 60 w' w.heap.size (fun k_ => some k_ ≠ (u327001 : Value).ownBlock ∧ k_ ≠ gb326) u308003 x308003_1) ∧ Aside0 (Kd.R (Kd.int .i64) 3 w' w.heap.size (fun _ => True) u327001 x327001_2) ∧ Aside0 (w'.heap[gb299]? = some (.cells #[.int .i64 0, .int .i64 0, .int .i64 0, (.slice none 0 0)] 24 (0, 0))) ∧ Aside0 (w'.heap[gb307]? = some (.cells #[.int .i64 t303, .int .i64 t308, .int .i64 t312, u308003] 24 (0, 0))) ∧ Aside0 (w'.heap[gb326]? = some (.cells #[.int .i64 t322, u327001] 60 (0, 0))) ∧ Aside0 (IsS63 w w' gb302 x303000_2 x303001_2 x303002_2) ∧ Aside0 (Below w.heap.size w w'))
        case atStart => exact ⟨(0), (t328), (t329), (t330), (([] : List Int)), (.slice none 0 0), zc, H', ⟨Nat.le_refl _⟩, ⟨by (with_reducible repeat (first | apply Kd.S_alloc | apply Kd.S_drewN | apply Kd.S_drew)); exact Kd.S_mono HO_308003.out (fun _ hk => ⟨(by simp [Value.ownBlock]), hk.2⟩)⟩, ⟨by first | exact Kd.R_nil _ _ _ _ _ | exact Kd.N_nil _ _ _ _ _ | exact Kd.V_nil _ _ _ _ _ | exact Kd.Q_nil _ _ _ _ _ | exact Kd.S_nil _ _ _ _ _⟩, ⟨zv⟩, ⟨zab⟩, ⟨zbn⟩, ⟨zz⟩, ⟨z7⟩⟩
        case round =>
          clear H'
          (try clear c1); (try clear c2); (try clear p2); (try clear c7); (try clear c12); (try clear c13); (try clear c20); (try clear c20b0); (try clear c25); (try clear c26); (try clear c27); (try clear c28); (try clear hcz14_0); (try clear hcz14_1); (try clear hcz14_2); (try clear hcz14_3); (try clear hcz16_0); (try clear hcz16_1); (try clear hcz16_2); (try clear hcz16_3); (try clear hcz18_0); (try clear hcz18_1); (try clear hcz18_2); (try clear hcz18_3); (try clear hcz28_0); (try clear hcz28_1); (try clear hfz14_0); (try clear hfz14_1); (try clear hfz14_2); (try clear hfz14_3); (try clear hfz16_0); (try clear hfz16_1); (try clear hfz16_2); (try clear hfz16_3); (try clear hfz18_0); (try clear hfz18_1); (try clear hfz18_2); (try clear hfz18_3); (try clear hfz28_0); (try clear hfz28_1); (try clear p2)
          obtain ⟨x39_2, x303000_2, x303001_2, x303002_2, x327001_2, u327001, rfl, HA, HK2, HO_308003, HO_327001, BK299, BK307, BK326, HI302, HB⟩ := hrel
          cases gk with
          | zero => exact absurd HA.out (by simp [impl_ReadMeta.l1])
          | succ k2 =>
            have H := HA.out
            clear HA
            simp only [impl_ReadMeta.l1] at H
            by_cases c30 : x39_2 < t327
            · rw [if_pos c30] at H
              have c30b0 : decide (x39_2 < t327) = true := decide_eq_true c30
              clear c30
              replace H := Option.bind_eq_some_iff.mp H
              obtain ⟨⟨t331, t332, t333, t334⟩, A310, H⟩ := H
              replace H : (if x327001_2.length < 17592186044416 then (impl_ReadMeta.l1 k2 a0 t300 t316 x32_1 t327 (wrap64 (x39_2 + 1)) t332 t333 t334 t303 t308 t312 x308003_1 t322 (x327001_2 ++ [t331])) else (none)) = some (r1, r2, r3, r4, r5) := H
              have A31 := qo A310
              clear A310
              by_cases c32 : x327001_2.length < 17592186044416
              · rw [if_pos c32] at H
                have LMc32 := qo c32
                clear c32
                obtain ⟨y335, hy335⟩ : ∃ y_ : List Int, y_ = (x327001_2 ++ [t331]) := ⟨_, rfl⟩
                replace H : (impl_ReadMeta.l1 k2 a0 t300 t316 x32_1 t327 (wrap64 (x39_2 + 1)) t332 t333 t334 t303 t308 t312 x308003_1 t322 y335) = some (r1, r2, r3, r4, r5) := by first | (rw [hy335]; with_reducible exact H) | (have H2_ := (Option.bind_some _ _).symm.trans H; rw [hy335]; with_reducible exact H2_) | (have H2_ := (Option.bind_some _ _).symm.trans H; with_reducible exact H2_) | with_reducible exact H | (rw [hy335]; exact H) | exact H
                have Ny335 := qo hy335
                clear hy335
                have H' := qo H
                clear H
                try go_wp2
                have n0_ := qo (Kd.S_drew HO_308003.out)
                have n1_ := qo (Kd.R_drew HO_327001.out)
                have n2_ := qo (qj BK299.out)
                have n3_ := qo (qj BK307.out)
                have n4_ := qo (qj BK326.out)
                have n5_ := qo (IsS63.drew HI302.out)
                have n6_ := qo (qn HB.out)
                clear HO_308003
                clear HO_327001
                clear BK299
                clear BK307
                clear BK326
                clear HI302
                clear HB
                have HO_308003 := n0_
                have HO_327001 := n1_
                have BK299 := n2_
                have BK307 := n3_
                have BK326 := n4_
                have HI302 := n5_
                have HB := n6_
                clear n0_ n1_ n2_ n3_ n4_ n5_ n6_
                refine start_ (n := 8) (S := fun w' => w'.cell? ⟨gb326, 0, none⟩ = some (.int .i64 t322) ∧ w'.cell? ⟨gb326, 1, none⟩ = some (u327001)) (ds := [7]) (bz 8 0) ze rfl rfl ⟨(qs BK326.out 0).trans rfl, (qs BK326.out 1).trans rfl⟩ (fun hHeld => ?_); refine with_tabW impl_ReadMeta.tab11 impl_ReadMeta.bits11 (fun HT_ HW_ => ?_)
                generalize wr.drew = w33 at HO_308003 HO_327001 BK299 BK307 BK326 HI302 HB hHeld ⊢
                refine pure_ (i := 0) (N := some 41) (v := ?_) (a' := ?_) (bz 8 1) rfl rfl (any_of HT_.out ze) (fun _ _ _ h => h) (Or.inl ⟨zae, ?_⟩) ?_ ?_; rotate_left; (intro w'; go_simp; with_reducible rfl); rotate_left; (simp only [Act.put, qa, qb, qc, i64_w, i32_w]; rfl)
                refine pure_ (i := 2) (N := some 43) (v := ?_) (a' := ?_) (bz 8 5) rfl rfl (any_of HT_.out ze) (fun _ _ _ h => h) (Or.inl ⟨zae, ?_⟩) ?_ ?_; rotate_left; (intro w'; go_simp; with_reducible rfl); rotate_left; (simp only [Act.put, qa, qb, qc, i64_w, i32_w]; rfl)
                refine take_ (i := 1) (N := some 42) (v := ?_) (a' := ?_) (bz 8 7) rfl rfl (take_ofW HT_.out HW_.out ze) (fun _ _ _ h => h) (Or.inl ⟨zae, ?_⟩) hHeld ?_ ?_; rotate_left; (rintro w' ⟨s0, s1⟩; go_simp; with_reducible rfl); rotate_left; (simp only [Act.put, qa, qb, qc, i64_w, i32_w]; rfl)
                refine one_ (i := 3) (N := some 44) (bz 8 15) rfl rfl (one_of HT_.out ze) za7 (fun K hK => ?_)
                refine goes_ Try.func28 ze rfl #[.pointer (some ⟨gb302, 0, none⟩), .int .i64 1000000000] zae rfl rfl zcm ?_
                with_reducible refine (impl_reader_num.calls k2 gb302 x303000_2 x303001_2 x303002_2 1000000000 t331 t332 t333 t334 w _ ?side1 ?side2 A31.out).mono ?_
                (case side1 => repeat (first | (with_reducible first | exact HI302.out | apply IsS63.alloc | apply IsS63.drewN | apply IsS63.drew | apply IsS63.set_0 | apply IsS63.set_1 | apply IsS63.set_2 | apply IsS63.far (hne := NB302_299.out) | apply IsS63.far (hne := NB302_307.out) | apply IsS63.far (hne := NB302_326.out)) | apply IsS63.far (hne := NB302_299.out) | apply IsS63.far (hne := NB302_307.out) | apply IsS63.far (hne := NB302_326.out) | exact HI302.out))
                (case side2 => repeat (first | (with_reducible first | exact HB.out | apply ql | apply qm | apply qn | refine qt ?_ (IsS63.ge HI302.out) | refine qt ?_ GE299.out | refine qt ?_ GE307.out | refine qt ?_ GE326.out) | exact HB.out))
                rintro e w34 ⟨rfl, hi, hb, hk⟩
                refine ⟨_, rfl, ?_⟩
                have n0_ := qo (Kd.S_mono (Kd.S_keep (IsS63.apartS (show IsS63 w _ gb302 x303000_2 x303001_2 x303002_2 from by repeat (first | (with_reducible first | exact HI302.out | apply IsS63.alloc | apply IsS63.drewN | apply IsS63.drew | apply IsS63.set_0 | apply IsS63.set_1 | apply IsS63.set_2 | apply IsS63.far (hne := NB302_299.out) | apply IsS63.far (hne := NB302_307.out) | apply IsS63.far (hne := NB302_326.out)) | apply IsS63.far (hne := NB302_299.out) | apply IsS63.far (hne := NB302_307.out) | apply IsS63.far (hne := NB302_326.out) | exact HI302.out)) za1 za7) hk (fun _ h => h.2)) (fun _ h => h.1))
                have n1_ := qo (Kd.R_mono (Kd.R_keep (IsS63.apart (show IsS63 w _ gb302 x303000_2 x303001_2 x303002_2 from by repeat (first | (with_reducible first | exact HI302.out | apply IsS63.alloc | apply IsS63.drewN | apply IsS63.drew | apply IsS63.set_0 | apply IsS63.set_1 | apply IsS63.set_2 | apply IsS63.far (hne := NB302_299.out) | apply IsS63.far (hne := NB302_307.out) | apply IsS63.far (hne := NB302_326.out)) | apply IsS63.far (hne := NB302_299.out) | apply IsS63.far (hne := NB302_307.out) | apply IsS63.far (hne := NB302_326.out) | exact HI302.out)) (by (with_reducible repeat (first | apply Kd.R_alloc | apply Kd.R_drewN | apply Kd.R_drew)); exact HO_327001.out) za7) hk (fun _ h => h.2)) (fun _ h => h.1))
                have n2_ := qo (KeepBut.blk hk (g' := gb299) (o := .cells #[.int .i64 0, .int .i64 0, .int .i64 0, .slice none 0 0] 24 (0, 0)) zv NB299_302.out zbh)
                have n3_ := qo (KeepBut.blk hk (g' := gb307) (o := .cells #[.int .i64 t303, .int .i64 t308, .int .i64 t312, u308003] 24 (0, 0)) zab NB307_302.out zbh)
                have n4_ := qo (KeepBut.blk hk (g' := gb326) (o := .cells #[.int .i64 t322, u327001] 60 (0, 0)) zbn NB326_302.out zbh)
                have n5_ := qo (hb)
                have n6_ := qo (hi)
                clear HO_308003
                clear HO_327001
                clear BK299
                clear BK307
                clear BK326
                clear HB
                clear HI302
                have HO_308003 := n0_
                have HO_327001 := n1_
                have BK299 := n2_
                have BK307 := n3_
                have BK326 := n4_
                have HB := n5_
                have HI302 := n6_
                clear n0_ n1_ n2_ n3_ n4_ n5_ n6_
                (try clear hb)
                (try clear hb2)
                (try clear hk)
                (try clear hi)
                refine hK.out _ _ ⟨(qs BK326.out 0).trans rfl, (qs BK326.out 1).trans rfl⟩ (fun hHeld => ?_)
                clear hK K
                refine norm_ (a' := ?_) ?_ ?_; rotate_left; (show Act.put _ (some 44) _ = _; simp only [Act.put, qa, qb, qc, i64_w, i32_w]; rfl)
                refine one_ (i := 4) (N := some 45) (bz 8 31) rfl rfl (one_of HT_.out ze) za7 (fun K hK => ?_)
                refine value_ (w1 := ?_) (v := ?_) zae rfl ?_ ?_
                rotate_left 2
                · go_simp
                  constructor
                  · rfl
                  · rfl
                refine hK.out _ _ ⟨(qs (qk BK326.out _) 0).trans rfl, (qs (qk BK326.out _) 1).trans rfl⟩ (fun hHeld => ?_)
                clear hK K
                refine norm_ (a' := ?_) ?_ ?_; rotate_left; (show Act.put _ (some 45) _ = _; simp only [Act.put, qa, qb, qc, i64_w, i32_w]; rfl)
                refine one_ (i := 5) (N := some 46) (bz 8 63) rfl rfl (one_of HT_.out ze) za7 (fun K hK => ?_)
                refine Kd.R_append_step (Kd.int .i64) (w0 := w) w.heap.size zae (.tmp 42) (.tmp 45) 58 3 (.int .i64 0) 8 rfl Try.underlying58 info3 rfl za7 zck u327001 x327001_2 t331 [.int .i64 t331] (fun _ => True) (fun _ => False) rfl rfl ?aP (fun _ hk => hk.elim) ?aF ?aO ?aB ?aS ?aL ?_
                (case aP => exact rfl)
                (case aB => exact z7)
                (case aF => exact (fun _ _ => trivial))
                (case aO => exact (by (with_reducible repeat (first | apply Kd.R_alloc | apply Kd.R_drewN | apply Kd.R_drew)); exact HO_327001.out))
                (case aS => exact (qp z7))
                (case aL => have := LMc32.out; omega)
                intro v336 w35 ho hb hg hat
                rw [← Ny335.out] at ho
                have n0_ := qo (Kd.S_after (ok := (fun k_ => k_ ≠ gb326)) (by (with_reducible repeat (first | apply Kd.S_alloc | apply Kd.S_drewN | apply Kd.S_drew)); exact Kd.S_mono HO_308003.out (fun _ hk => ⟨hk.2, hk.1⟩)) hg hat)
                have n1_ := qo (blk_grown (g := gb299) (o := .cells #[.int .i64 0, .int .i64 0, .int .i64 0, .slice none 0 0] 24 (0, 0)) zv hg (Kd.R_ne HO_327001.out BK299.out za7))
                have n2_ := qo (blk_grown (g := gb307) (o := .cells #[.int .i64 t303, .int .i64 t308, .int .i64 t312, u308003] 24 (0, 0)) zab hg (Kd.R_ne HO_327001.out BK307.out za7))
                have n3_ := qo (blk_grown (g := gb326) (o := .cells #[.int .i64 t322, u327001] 60 (0, 0)) zbn hg (Kd.R_ne HO_327001.out BK326.out za7))
                have n4_ := qo (IsS63.grown zz hg (IsS63.own_ne HI302.out HO_327001.out za7))
                have n5_ := qo (hb)
                have n6_ := qo (ho)
                clear HO_308003
                clear BK299
                clear BK307
                clear BK326
                clear HI302
                clear HB
                clear HO_327001
                have HO_308003 := n0_
                have BK299 := n1_
                have BK307 := n2_
                have BK326 := n3_
                have HI302 := n4_
                have HB := n5_
                have HO337 := n6_
                clear n0_ n1_ n2_ n3_ n4_ n5_ n6_
                clear ho hb hg hat
                obtain ⟨Ao36, co36, eo36⟩ := Kd.R_slice HO337.out
                (first | subst eo36 | (injection eo36 with f1_ f2_ f3_; have f4_ := f1_.symm; have f5_ := f3_.symm; clear f1_ f2_ f3_; subst f4_; subst f5_))
                refine hK.out _ _ ⟨(qs BK326.out 0).trans rfl, (qs BK326.out 1).trans rfl⟩ (fun hHeld => ?_)
                clear hK K
                refine norm_ (a' := ?_) ?_ ?_; rotate_left; (show Act.put _ (some 46) _ = _; simp only [Act.put, qa, qb, qc, i64_w, i32_w]; rfl)
                refine pure_ (i := 6) (N := some 47) (v := ?_) (a' := ?_) (bz 8 127) rfl rfl (any_of HT_.out ze) (fun _ _ _ h => h) (Or.inl ⟨zae, ?_⟩) ?_ ?_; rotate_left; (intro w'; go_simp; with_reducible rfl); rotate_left; (simp only [Act.put, qa, qb, qc, i64_w, i32_w]; rfl)
                refine last_ (i := 7) (N := none) (bz 8 255) rfl rfl (one_of HT_.out ze) za7 (fun K hK => ?_)
                have hs37 : w35.cell? ⟨gb326, 1, none⟩ = some (u327001) := (qs BK326.out 1).trans rfl
                have hfs37 := qu BK326.out 1
                have hns37_0 := NB299_326.out
                have hns37_1 := NB307_326.out
                have hms37_0 := NB326_299.out
                have hms37_1 := NB326_307.out
                refine skip_ (w1 := ?_) zae rfl ?_ ?_
                rotate_left
                · go_simp
                  rfl
                refine hK.out _ _ ?_
                clear hK K
                refine done_ (done_of HT_.out ze) ?_
                try go_wp2
                go_roundg k2
                case measure => have := HK1.out; have := HK2.out; omega
                case rel => exact ⟨(wrap64 (x39_2 + 1)), (t332), (t333), (t334), (y335), (.slice Ao36 y335.length co36), zc, H', ⟨zb6⟩, ⟨by (with_reducible repeat (first | apply Kd.S_alloc | apply Kd.S_drewN | apply Kd.S_drew)); exact Kd.S_mono (Kd.S_far (p := ⟨gb326, 1, none⟩) (Kd.S_mono HO_308003.out (fun k_ hk => (⟨hk, hk.1⟩ : _ ∧ k_ ≠ gb326))) (fun _ hk => hk.2) (.slice Ao36 y335.length co36)) (fun _ hk => ⟨hk.1.2, hk.1.1⟩)⟩, ⟨by (with_reducible repeat (first | apply Kd.R_alloc | apply Kd.R_drewN | apply Kd.R_drew)); exact Kd.R_mono (Kd.R_far (p := ⟨gb326, 1, none⟩) (Kd.R_types HO337.out BK326.out za7) (fun _ hk => hk.2) (.slice Ao36 y335.length co36)) (fun _ hk => trivial)⟩, ⟨by (with_reducible repeat (first | refine qi ?_ _ | refine qj ?_ | refine qk ?_ _)); refine blk_far ?_ NB299_326.out _; (with_reducible repeat (first | refine qi ?_ _ | refine qj ?_ | refine qk ?_ _)); exact BK299.out⟩, ⟨by (with_reducible repeat (first | refine qi ?_ _ | refine qj ?_ | refine qk ?_ _)); refine blk_far ?_ NB307_326.out _; (with_reducible repeat (first | refine qi ?_ _ | refine qj ?_ | refine qk ?_ _)); exact BK307.out⟩, ⟨by (with_reducible repeat (first | refine qi ?_ _ | refine qj ?_ | refine qk ?_ _)); refine blk_put (cs := #[.int .i64 t322, u327001]) ?_ 1 _ rfl; (with_reducible repeat (first | refine qi ?_ _ | refine qj ?_ | refine qk ?_ _)); exact BK326.out⟩, ⟨zz⟩, ⟨z7⟩⟩
              · rw [if_neg c32] at H
                exact absurd H zbh
            · rw [if_neg c30] at H
              have c30b0 : decide (x39_2 < t327) = false := decide_eq_false c30
              clear c30
              by_cases c38 : x308003_1.length < 4398046511104
              · rw [if_pos c38] at H
                have LMc38 := qo c38
                clear c38
                obtain ⟨y338, hy338⟩ : ∃ y_ : List (S60), y_ = (x308003_1 ++ [(⟨t322, x327001_2⟩ : S60)]) := ⟨_, rfl⟩
                replace H : (impl_ReadMeta.l0 k2 a0 t300 t316 (wrap64 (x32_1 + 1)) x303000_2 x303001_2 x303002_2 t303 t308 t312 y338) = some (r1, r2, r3, r4, r5) := by first | (rw [hy338]; with_reducible exact H) | (have H2_ := (Option.bind_some _ _).symm.trans H; rw [hy338]; with_reducible exact H2_) | (have H2_ := (Option.bind_some _ _).symm.trans H; with_reducible exact H2_) | with_reducible exact H | (rw [hy338]; exact H) | exact H
                have Ny338 := qo hy338
                clear hy338
                have H' := qo H
                clear H
                have hnb39 := NB307_299.out
                have hnc39 := NB299_307.out
                have hnb40 := NB307_326.out
                have hnc40 := NB326_307.out
                have hnb41 := NB307_302.out
                have hnc41 := NB302_307.out
                have hcz42_0 : wr.cell? ⟨gb307, 0, none⟩ = some (.int .i64 t303) := (qs BK307.out 0).trans rfl
                have hcz42_1 : wr.cell? ⟨gb307, 1, none⟩ = some (.int .i64 t308) := (qs BK307.out 1).trans rfl
                have hcz42_2 : wr.cell? ⟨gb307, 2, none⟩ = some (.int .i64 t312) := (qs BK307.out 2).trans rfl
                have hcz42_3 : wr.cell? ⟨gb307, 3, none⟩ = some (u308003) := (qs BK307.out 3).trans rfl
                have hfz42_0 := qu BK307.out 0
                have hfz42_1 := qu BK307.out 1
                have hfz42_2 := qu BK307.out 2
                have hfz42_3 := qu BK307.out 3
                have hnb43 := NB326_299.out
                have hnc43 := NB299_326.out
                have hnb44 := NB326_302.out
                have hnc44 := NB302_326.out
                have hcz45_0 : wr.cell? ⟨gb326, 0, none⟩ = some (.int .i64 t322) := (qs BK326.out 0).trans rfl
                have hcz45_1 : wr.cell? ⟨gb326, 1, none⟩ = some (u327001) := (qs BK326.out 1).trans rfl
                have hfz45_0 := qu BK326.out 0
                have hfz45_1 := qu BK326.out 1
                obtain ⟨Ao47, co47, eo47⟩ := Kd.R_slice HO_327001.out
                subst eo47
                go_wp2_with (first | ((with_reducible refine gate_builtin (b := .append) (xs := #[.tmp 50, .tmp 52]) rfl ?_); (try (refine gate_guard zae ?_; dsimp only)); at_builtin; refine Kd.S_append k60 (w0 := w) w.heap.size rfl (.tmp 50) (.tmp 52) 22 60 (.agg #[(.int .i64 0), (.slice none 0 0)]) 32 rfl Try.underlying22 info60 rfl za7 zck u308003 x308003_1 (⟨t322, x327001_2⟩ : S60) [.int .i64 t322, .slice Ao47 x327001_2.length co47] (fun k_ => k_ ≠ gb326) (fun k_ => some k_ = (.slice Ao47 x327001_2.length co47 : Value).ownBlock) rfl rfl ?aP (fun k_ hk_ => ((Kd.R_mono (ok' := fun k_ => ((fun k_ => k_ ≠ gb326)) k_ ∧ some k_ ≠ (u308003 : Value).ownBlock) (Kd.R_types (Kd.R_apart' (HO_327001.out) (Kd.S_typed HO_308003.out) za7) BK326.out za7) (fun k_ hk => ⟨hk.2, hk.1.2⟩))).1 k_ hk_.symm) ?aF ?aO ?aB ?aS ?aL ?_; (case aP => exact k60_mkM _ _ _ (⟨t322, x327001_2⟩ : S60) (Kd.R_mono (Kd.R_tight rfl (Kd.R_mono (ok' := fun k_ => ((fun k_ => k_ ≠ gb326)) k_ ∧ some k_ ≠ (u308003 : Value).ownBlock) (Kd.R_types (Kd.R_apart' (HO_327001.out) (Kd.S_typed HO_308003.out) za7) BK326.out za7) (fun k_ hk => ⟨hk.2, hk.1.2⟩))) (fun _ h_ => h_))); (case aB => exact z7); (case aF => exact (fun k_ hk => Kd.freshB (g := gb326) (o := .cells #[.int .i64 t322, .slice Ao47 x327001_2.length co47] 60 (0, 0)) zbn k_ hk)); (case aO => exact (by (with_reducible repeat (first | apply Kd.S_alloc | apply Kd.S_drewN | apply Kd.S_drew)); exact Kd.S_mono HO_308003.out (fun k_ hk => ⟨hk.2, fun e_ => hk.1 e_⟩))); (case aS => exact (qp z7)); (case aL => have := LMc38.out; omega); intro v339 w46 ho hb hg hat; rw [← Ny338.out] at ho; have n0_ := qo (blk_grown (g := gb299) (o := .cells #[.int .i64 0, .int .i64 0, .int .i64 0, .slice none 0 0] 24 (0, 0)) zv hg (Kd.S_ne HO_308003.out BK299.out za7)); have n1_ := qo (blk_grown (g := gb307) (o := .cells #[.int .i64 t303, .int .i64 t308, .int .i64 t312, u308003] 24 (0, 0)) zab hg (Kd.S_ne HO_308003.out BK307.out za7)); have n2_ := qo (blk_grown (g := gb326) (o := .cells #[.int .i64 t322, .slice Ao47 x327001_2.length co47] 60 (0, 0)) zbn hg (Kd.S_away HO_308003.out (fun _ hk => hk.2))); have n3_ := qo (IsS63.grown zz hg (IsS63.own_neS HI302.out HO_308003.out za7)); have n4_ := qo (hb); have n5_ := qo (ho); clear BK299; clear BK307; clear BK326; clear HI302; clear HB; clear HO_308003; clear HO_327001; have BK299 := n0_; have BK307 := n1_; have BK326 := n2_; have HI302 := n3_; have HB := n4_; have HO340 := n5_; clear n0_ n1_ n2_ n3_ n4_ n5_; clear ho hb hg hat; obtain ⟨Ao48, co48, eo48⟩ := Kd.S_slice HO340.out; subst eo48; have hcz49_0 : w46.cell? ⟨gb307, 0, none⟩ = some (.int .i64 t303) := (qs BK307.out 0).trans rfl; have hcz49_1 : w46.cell? ⟨gb307, 1, none⟩ = some (.int .i64 t308) := (qs BK307.out 1).trans rfl; have hcz49_2 : w46.cell? ⟨gb307, 2, none⟩ = some (.int .i64 t312) := (qs BK307.out 2).trans rfl; have hcz49_3 : w46.cell? ⟨gb307, 3, none⟩ = some (u308003) := (qs BK307.out 3).trans rfl; have hfz49_0 := qu BK307.out 0; have hfz49_1 := qu BK307.out 1; have hfz49_2 := qu BK307.out 2; have hfz49_3 := qu BK307.out 3))
                go_roundg k2
                case measure => have := HK1.out; have := HK2.out; omega
                case rel => exact ⟨(wrap64 (x32_1 + 1)), (x303000_2), (x303001_2), (x303002_2), (y338), (.slice Ao48 y338.length co48), zc, H', ⟨zb6⟩, ⟨by (with_reducible repeat (first | apply Kd.S_alloc | apply Kd.S_drewN | apply Kd.S_drew)); exact Kd.S_mono (Kd.S_far (p := ⟨gb307, 3, none⟩) (Kd.S_types HO340.out BK307.out za7) (fun _ hk => hk.2) (.slice Ao48 y338.length co48)) (fun _ hk => trivial)⟩, ⟨zba⟩, ⟨by (with_reducible repeat (first | refine qi ?_ _ | refine qj ?_ | refine qk ?_ _)); refine blk_put (cs := #[.int .i64 t303, .int .i64 t308, .int .i64 t312, u308003]) ?_ 3 _ rfl; (with_reducible repeat (first | refine qi ?_ _ | refine qj ?_ | refine qk ?_ _)); exact BK307.out⟩, ⟨zz⟩, ⟨z7⟩⟩
              · rw [if_neg c38] at H
                exact absurd H zbh
      · rw [if_neg c20] at H
        have c20b0 : decide (x32_1 < t316) = false := decide_eq_false c20
        clear c20
        replace H := Option.bind_eq_some_iff.mp H
        obtain ⟨⟨t320, t321⟩, A500, H⟩ := H
        replace H : (if x303002_1 = true then (some (0, 0, 0, ([] : List (S60)), false)) else (if x303001_1 = (t300.size : Int) then (if t321 = true then (if t320.toList = a0.toList then (some (t303, t308, t312, x308003_1, true)) else (some (0, 0, 0, ([] : List (S60)), false))) else (some (0, 0, 0, ([] : List (S60)), false))) else (some (0, 0, 0, ([] : List (S60)), false)))) = some (r1, r2, r3, r4, r5) := H
        have A50 := qo A500
        clear A500
        by_cases c51 : x303002_1 = true
        · subst c51
          have H1 : (some (0, 0, 0, ([] : List (S60)), false)) = some (r1, r2, r3, r4, r5) := by rw [if_pos rfl] at H; exact H
          clear H
          have H := H1
          clear H1
          simp only [Option.some.injEq, Prod.mk.injEq] at H
          obtain ⟨rfl, rfl, rfl, rfl, rfl⟩ := H
          have hnb52 := NB307_299.out
          have hnc52 := NB299_307.out
          have hnb53 := NB307_302.out
          have hnc53 := NB302_307.out
          have hcz54_0 : wr.cell? ⟨gb307, 0, none⟩ = some (.int .i64 t303) := (qs BK307.out 0).trans rfl
          have hcz54_1 : wr.cell? ⟨gb307, 1, none⟩ = some (.int .i64 t308) := (qs BK307.out 1).trans rfl
          have hcz54_2 : wr.cell? ⟨gb307, 2, none⟩ = some (.int .i64 t312) := (qs BK307.out 2).trans rfl
          have hcz54_3 : wr.cell? ⟨gb307, 3, none⟩ = some (u308003) := (qs BK307.out 3).trans rfl
          have hfz54_0 := qu BK307.out 0
          have hfz54_1 := qu BK307.out 1
          have hfz54_2 := qu BK307.out 2
          have hfz54_3 := qu BK307.out 3
          obtain ⟨Ao55, co55, eo55⟩ := Kd.S_slice HO_308003.out
          subst eo55
          go_wp2_with (first | ((with_reducible refine gate_callee (f := 29) rfl ?_); refine goesL_ (some 58) rfl rfl Try.func29 ze rfl #[.agg #[.int .i64 t303, .int .i64 t308, .int .i64 t312, .slice Ao55 x308003_1.length co55]] rfl zcm ?_; (with_reducible refine (impl_MetaText.calls k1 t303 t308 t312 _ _ x308003_1 t320 t321 _ ?side1 ?side2 A50.out).mono ?_); (case side1 => repeat (first | exact (Kd.S_reads' HO_308003.out).2.2 | (with_reducible refine Kd.C_alloc ?_ _) | (with_reducible refine Kd.C_drewN ?_ _) | (with_reducible refine Kd.C_drew ?_))); (case side2 => exact (Kd.S_reads' HO_308003.out).2.1); rintro e w56 ⟨rfl, hb⟩; refine ⟨_, rfl, ?_⟩; have n0_ := qo (Kd.S_below za1 hb); have n1_ := qo (qr (g := gb299) (o := .cells #[.int .i64 0, .int .i64 0, .int .i64 0, .slice none 0 0] 24 (0, 0)) zv hb); have n2_ := qo (qr (g := gb307) (o := .cells #[.int .i64 t303, .int .i64 t308, .int .i64 t312, .slice Ao55 x308003_1.length co55] 24 (0, 0)) zab hb); have n3_ := qo (IsS63.below zw hb); have n4_ := qo (qq zk hb); clear HO_308003; clear BK299; clear BK307; clear HI302; clear HB; have HO_308003 := n0_; have BK299 := n1_; have BK307 := n2_; have HI302 := n3_; have HB := n4_; clear n0_ n1_ n2_ n3_ n4_; (try clear hb); (try clear hb2); (try clear hk); (try clear hi); obtain ⟨HGz57, hgz57⟩ := HI302.out; have hcz57_0 := cellS63_0 HGz57; have hcz57_1 := cellS63_1 HGz57; have hcz57_2 := cellS63_2 HGz57; have hfz57_0 := qu HGz57 0; have hfz57_1 := qu HGz57 1; have hfz57_2 := qu HGz57 2; clear HGz57 hgz57; have hnb58 := NB299_302.out; have hnc58 := NB302_299.out; have hcz59_0 : w56.cell? ⟨gb299, 0, none⟩ = some (.int .i64 0) := (qs BK299.out 0).trans rfl; have hcz59_1 : w56.cell? ⟨gb299, 1, none⟩ = some (.int .i64 0) := (qs BK299.out 1).trans rfl; have hcz59_2 : w56.cell? ⟨gb299, 2, none⟩ = some (.int .i64 0) := (qs BK299.out 2).trans rfl; have hcz59_3 : w56.cell? ⟨gb299, 3, none⟩ = some (.slice none 0 0) := (qs BK299.out 3).trans rfl; have hfz59_0 := qu BK299.out 0; have hfz59_1 := qu BK299.out 1; have hfz59_2 := qu BK299.out 2; have hfz59_3 := qu BK299.out 3))
          refine bodyPost_ret (results_ct rfl _ _ gb299 24 #[.int .i64 0, .int .i64 0, .int .i64 0, .slice none 0 0] (0, 0) _ rfl zh Try.underlying24 rfl ze) rfl ?_
          exact ⟨_, zd, zam, zk⟩
        · replace c51 := Bool.eq_false_iff.mpr c51
          subst c51
          have H1 : (if x303001_1 = (t300.size : Int) then (if t321 = true then (if t320.toList = a0.toList then (some (t303, t308, t312, x308003_1, true)) else (some (0, 0, 0, ([] : List (S60)), false))) else (some (0, 0, 0, ([] : List (S60)), false))) else (some (0, 0, 0, ([] : List (S60)), false))) = some (r1, r2, r3, r4, r5) := by rw [if_neg (show ¬ (false = true) by decide)] at H; exact H
          clear H
          have H := H1
          clear H1
          by_cases c60 : x303001_1 = (t300.size : Int)
          · rw [if_pos c60] at H
            have c60b0 : (x303001_1 == (t300.size : Int)) = true := beq_iff_eq.mpr c60
            have c60b1 : (x303001_1 != (t300.size : Int)) = false := bne_eq_false_iff_eq.mpr c60
            clear c60
            by_cases c61 : t321 = true
            · subst c61
              have H1 : (if t320.toList = a0.toList then (some (t303, t308, t312, x308003_1, true)) else (some (0, 0, 0, ([] : List (S60)), false))) = some (r1, r2, r3, r4, r5) := by rw [if_pos rfl] at H; exact H
              clear H
              have H := H1
              clear H1
              by_cases c62 : t320.toList = a0.toList
              · rw [if_pos c62] at H
                have c62b0 : (t320.toList == a0.toList) = true := beq_iff_eq.mpr c62
                have c62b1 : (t320.toList != a0.toList) = false := bne_eq_false_iff_eq.mpr c62
                clear c62
                simp only [Option.some.injEq, Prod.mk.injEq] at H
                obtain ⟨rfl, rfl, rfl, rfl, rfl⟩ := H
                have hnb63 := NB307_299.out
                have hnc63 := NB299_307.out
                have hnb64 := NB307_302.out
                have hnc64 := NB302_307.out
                have hcz65_0 : wr.cell? ⟨gb307, 0, none⟩ = some (.int .i64 t303) := (qs BK307.out 0).trans rfl
                have hcz65_1 : wr.cell? ⟨gb307, 1, none⟩ = some (.int .i64 t308) := (qs BK307.out 1).trans rfl
                have hcz65_2 : wr.cell? ⟨gb307, 2, none⟩ = some (.int .i64 t312) := (qs BK307.out 2).trans rfl
                have hcz65_3 : wr.cell? ⟨gb307, 3, none⟩ = some (u308003) := (qs BK307.out 3).trans rfl
                have hfz65_0 := qu BK307.out 0
                have hfz65_1 := qu BK307.out 1
                have hfz65_2 := qu BK307.out 2
                have hfz65_3 := qu BK307.out 3
                obtain ⟨Ao66, co66, eo66⟩ := Kd.S_slice HO_308003.out
                subst eo66
                go_wp2_with (first | ((with_reducible refine gate_callee (f := 29) rfl ?_); refine goesL_ (some 58) rfl rfl Try.func29 ze rfl #[.agg #[.int .i64 t303, .int .i64 t308, .int .i64 t312, .slice Ao66 x308003_1.length co66]] rfl zcm ?_; (with_reducible refine (impl_MetaText.calls k1 t303 t308 t312 _ _ x308003_1 t320 true _ ?side1 ?side2 A50.out).mono ?_); (case side1 => repeat (first | exact (Kd.S_reads' HO_308003.out).2.2 | (with_reducible refine Kd.C_alloc ?_ _) | (with_reducible refine Kd.C_drewN ?_ _) | (with_reducible refine Kd.C_drew ?_))); (case side2 => exact (Kd.S_reads' HO_308003.out).2.1); rintro e w67 ⟨rfl, hb⟩; refine ⟨_, rfl, ?_⟩; have n0_ := qo (Kd.S_below za1 hb); have n1_ := qo (qr (g := gb299) (o := .cells #[.int .i64 0, .int .i64 0, .int .i64 0, .slice none 0 0] 24 (0, 0)) zv hb); have n2_ := qo (qr (g := gb307) (o := .cells #[.int .i64 t303, .int .i64 t308, .int .i64 t312, .slice Ao66 x308003_1.length co66] 24 (0, 0)) zab hb); have n3_ := qo (IsS63.below zw hb); have n4_ := qo (qq zk hb); clear HO_308003; clear BK299; clear BK307; clear HI302; clear HB; have HO_308003 := n0_; have BK299 := n1_; have BK307 := n2_; have HI302 := n3_; have HB := n4_; clear n0_ n1_ n2_ n3_ n4_; (try clear hb); (try clear hb2); (try clear hk); (try clear hi); obtain ⟨HGz68, hgz68⟩ := HI302.out; have hcz68_0 := cellS63_0 HGz68; have hcz68_1 := cellS63_1 HGz68; have hcz68_2 := cellS63_2 HGz68; have hfz68_0 := qu HGz68 0; have hfz68_1 := qu HGz68 1; have hfz68_2 := qu HGz68 2; clear HGz68 hgz68; have hcz69_0 : w67.cell? ⟨gb307, 0, none⟩ = some (.int .i64 t303) := (qs BK307.out 0).trans rfl; have hcz69_1 : w67.cell? ⟨gb307, 1, none⟩ = some (.int .i64 t308) := (qs BK307.out 1).trans rfl; have hcz69_2 : w67.cell? ⟨gb307, 2, none⟩ = some (.int .i64 t312) := (qs BK307.out 2).trans rfl; have hcz69_3 : w67.cell? ⟨gb307, 3, none⟩ = some (.slice Ao66 x308003_1.length co66) := (qs BK307.out 3).trans rfl; have hfz69_0 := qu BK307.out 0; have hfz69_1 := qu BK307.out 1; have hfz69_2 := qu BK307.out 2; have hfz69_3 := qu BK307.out 3; have hnb70 := NB299_302.out; have hnc70 := NB302_299.out; have hcz71_0 : w67.cell? ⟨gb299, 0, none⟩ = some (.int .i64 0) := (qs BK299.out 0).trans rfl; have hcz71_1 : w67.cell? ⟨gb299, 1, none⟩ = some (.int .i64 0) := (qs BK299.out 1).trans rfl; have hcz71_2 : w67.cell? ⟨gb299, 2, none⟩ = some (.int .i64 0) := (qs BK299.out 2).trans rfl; have hcz71_3 : w67.cell? ⟨gb299, 3, none⟩ = some (.slice none 0 0) := (qs BK299.out 3).trans rfl; have hfz71_0 := qu BK299.out 0; have hfz71_1 := qu BK299.out 1; have hfz71_2 := qu BK299.out 2; have hfz71_3 := qu BK299.out 3))
                refine bodyPost_ret (results_ct rfl _ _ gb299 24 #[.int .i64 t303, .int .i64 t308, .int .i64 t312, .slice Ao66 x308003_1.length co66] (0, 0) _ rfl (by (with_reducible repeat (first | refine qi ?_ _ | refine qj ?_ | refine qk ?_ _)); refine blk_put (cs := #[.int .i64 t303, .int .i64 t308, .int .i64 t312, .slice none 0 0]) ?_ 3 _ rfl; (with_reducible repeat (first | refine qi ?_ _ | refine qj ?_ | refine qk ?_ _)); refine blk_put (cs := #[.int .i64 t303, .int .i64 t308, .int .i64 0, .slice none 0 0]) ?_ 2 _ rfl; (with_reducible repeat (first | refine qi ?_ _ | refine qj ?_ | refine qk ?_ _)); refine blk_put (cs := #[.int .i64 t303, .int .i64 0, .int .i64 0, .slice none 0 0]) ?_ 1 _ rfl; (with_reducible repeat (first | refine qi ?_ _ | refine qj ?_ | refine qk ?_ _)); refine blk_put (cs := #[.int .i64 0, .int .i64 0, .int .i64 0, .slice none 0 0]) ?_ 0 _ rfl; (with_reducible repeat (first | refine qi ?_ _ | refine qj ?_ | refine qk ?_ _)); exact BK299.out) Try.underlying24 rfl ze) rfl ?_
                exact ⟨_, zd, by (with_reducible repeat (first | apply Kd.S_alloc | apply Kd.S_drewN | apply Kd.S_drew)); exact Kd.S_mono (Kd.S_far (p := ⟨gb299, 3, none⟩) (Kd.S_far (p := ⟨gb299, 2, none⟩) (Kd.S_far (p := ⟨gb299, 1, none⟩) (Kd.S_far (p := ⟨gb299, 0, none⟩) (Kd.S_types HO_308003.out BK299.out za7) (fun _ hk => hk.2) (.int .i64 t303)) (fun _ hk => hk.2) (.int .i64 t308)) (fun _ hk => hk.2) (.int .i64 t312)) (fun _ hk => hk.2) (.slice Ao66 x308003_1.length co66)) (fun _ hk => trivial), zk⟩
              · rw [if_neg c62] at H
                have c62b0 : (t320.toList == a0.toList) = false := beq_eq_false_iff_ne.mpr c62
                have c62b1 : (t320.toList != a0.toList) = true := bne_iff_ne.mpr c62
                simp only [Option.some.injEq, Prod.mk.injEq] at H
                obtain ⟨rfl, rfl, rfl, rfl, rfl⟩ := H
                have hnb72 := NB307_299.out
                have hnc72 := NB299_307.out
                have hnb73 := NB307_302.out
                have hnc73 := NB302_307.out
                have hcz74_0 : wr.cell? ⟨gb307, 0, none⟩ = some (.int .i64 t303) := (qs BK307.out 0).trans rfl
                have hcz74_1 : wr.cell? ⟨gb307, 1, none⟩ = some (.int .i64 t308) := (qs BK307.out 1).trans rfl
                have hcz74_2 : wr.cell? ⟨gb307, 2, none⟩ = some (.int .i64 t312) := (qs BK307.out 2).trans rfl
                have hcz74_3 : wr.cell? ⟨gb307, 3, none⟩ = some (u308003) := (qs BK307.out 3).trans rfl
                have hfz74_0 := qu BK307.out 0
                have hfz74_1 := qu BK307.out 1
                have hfz74_2 := qu BK307.out 2
                have hfz74_3 := qu BK307.out 3
                obtain ⟨Ao75, co75, eo75⟩ := Kd.S_slice HO_308003.out
                subst eo75
                go_wp2_with (first | ((with_reducible refine gate_callee (f := 29) rfl ?_); refine goesL_ (some 58) rfl rfl Try.func29 ze rfl #[.agg #[.int .i64 t303, .int .i64 t308, .int .i64 t312, .slice Ao75 x308003_1.length co75]] rfl zcm ?_; (with_reducible refine (impl_MetaText.calls k1 t303 t308 t312 _ _ x308003_1 t320 true _ ?side1 ?side2 A50.out).mono ?_); (case side1 => repeat (first | exact (Kd.S_reads' HO_308003.out).2.2 | (with_reducible refine Kd.C_alloc ?_ _) | (with_reducible refine Kd.C_drewN ?_ _) | (with_reducible refine Kd.C_drew ?_))); (case side2 => exact (Kd.S_reads' HO_308003.out).2.1); rintro e w76 ⟨rfl, hb⟩; refine ⟨_, rfl, ?_⟩; have n0_ := qo (Kd.S_below za1 hb); have n1_ := qo (qr (g := gb299) (o := .cells #[.int .i64 0, .int .i64 0, .int .i64 0, .slice none 0 0] 24 (0, 0)) zv hb); have n2_ := qo (qr (g := gb307) (o := .cells #[.int .i64 t303, .int .i64 t308, .int .i64 t312, .slice Ao75 x308003_1.length co75] 24 (0, 0)) zab hb); have n3_ := qo (IsS63.below zw hb); have n4_ := qo (qq zk hb); clear HO_308003; clear BK299; clear BK307; clear HI302; clear HB; have HO_308003 := n0_; have BK299 := n1_; have BK307 := n2_; have HI302 := n3_; have HB := n4_; clear n0_ n1_ n2_ n3_ n4_; (try clear hb); (try clear hb2); (try clear hk); (try clear hi); obtain ⟨HGz77, hgz77⟩ := HI302.out; have hcz77_0 := cellS63_0 HGz77; have hcz77_1 := cellS63_1 HGz77; have hcz77_2 := cellS63_2 HGz77; have hfz77_0 := qu HGz77 0; have hfz77_1 := qu HGz77 1; have hfz77_2 := qu HGz77 2; clear HGz77 hgz77; have hnb78 := NB299_302.out; have hnc78 := NB302_299.out; have hcz79_0 : w76.cell? ⟨gb299, 0, none⟩ = some (.int .i64 0) := (qs BK299.out 0).trans rfl; have hcz79_1 : w76.cell? ⟨gb299, 1, none⟩ = some (.int .i64 0) := (qs BK299.out 1).trans rfl; have hcz79_2 : w76.cell? ⟨gb299, 2, none⟩ = some (.int .i64 0) := (qs BK299.out 2).trans rfl; have hcz79_3 : w76.cell? ⟨gb299, 3, none⟩ = some (.slice none 0 0) := (qs BK299.out 3).trans rfl; have hfz79_0 := qu BK299.out 0; have hfz79_1 := qu BK299.out 1; have hfz79_2 := qu BK299.out 2; have hfz79_3 := qu BK299.out 3))
                refine bodyPost_ret (results_ct rfl _ _ gb299 24 #[.int .i64 0, .int .i64 0, .int .i64 0, .slice none 0 0] (0, 0) _ rfl zh Try.underlying24 rfl ze) rfl ?_
                exact ⟨_, zd, zam, zk⟩
            · replace c61 := Bool.eq_false_iff.mpr c61
              subst c61
              have H1 : (some (0, 0, 0, ([] : List (S60)), false)) = some (r1, r2, r3, r4, r5) := by rw [if_neg (show ¬ (false = true) by decide)] at H; exact H
              clear H
              have H := H1
              clear H1
              simp only [Option.some.injEq, Prod.mk.injEq] at H
              obtain ⟨rfl, rfl, rfl, rfl, rfl⟩ := H
              have hnb80 := NB307_299.out
              have hnc80 := NB299_307.out
              have hnb81 := NB307_302.out
              have hnc81 := NB302_307.out
              have hcz82_0 : wr.cell? ⟨gb307, 0, none⟩ = some (.int .i64 t303) := (qs BK307.out 0).trans rfl
              have hcz82_1 : wr.cell? ⟨gb307, 1, none⟩ = some (.int .i64 t308) := (qs BK307.out 1).trans rfl
              have hcz82_2 : wr.cell? ⟨gb307, 2, none⟩ = some (.int .i64 t312) := (qs BK307.out 2).trans rfl
              have hcz82_3 : wr.cell? ⟨gb307, 3, none⟩ = some (u308003) := (qs BK307.out 3).trans rfl
              have hfz82_0 := qu BK307.out 0
              have hfz82_1 := qu BK307.out 1
              have hfz82_2 := qu BK307.out 2
              have hfz82_3 := qu BK307.out 3
              obtain ⟨Ao83, co83, eo83⟩ := Kd.S_slice HO_308003.out
              subst eo83
              go_wp2_with (first | ((with_reducible refine gate_callee (f := 29) rfl ?_); refine goesL_ (some 58) rfl rfl Try.func29 ze rfl #[.agg #[.int .i64 t303, .int .i64 t308, .int .i64 t312, .slice Ao83 x308003_1.length co83]] rfl zcm ?_; (with_reducible refine (impl_MetaText.calls k1 t303 t308 t312 _ _ x308003_1 t320 false _ ?side1 ?side2 A50.out).mono ?_); (case side1 => repeat (first | exact (Kd.S_reads' HO_308003.out).2.2 | (with_reducible refine Kd.C_alloc ?_ _) | (with_reducible refine Kd.C_drewN ?_ _) | (with_reducible refine Kd.C_drew ?_))); (case side2 => exact (Kd.S_reads' HO_308003.out).2.1); rintro e w84 ⟨rfl, hb⟩; refine ⟨_, rfl, ?_⟩; have n0_ := qo (Kd.S_below za1 hb); have n1_ := qo (qr (g := gb299) (o := .cells #[.int .i64 0, .int .i64 0, .int .i64 0, .slice none 0 0] 24 (0, 0)) zv hb); have n2_ := qo (qr (g := gb307) (o := .cells #[.int .i64 t303, .int .i64 t308, .int .i64 t312, .slice Ao83 x308003_1.length co83] 24 (0, 0)) zab hb); have n3_ := qo (IsS63.below zw hb); have n4_ := qo (qq zk hb); clear HO_308003; clear BK299; clear BK307; clear HI302; clear HB; have HO_308003 := n0_; have BK299 := n1_; have BK307 := n2_; have HI302 := n3_; have HB := n4_; clear n0_ n1_ n2_ n3_ n4_; (try clear hb); (try clear hb2); (try clear hk); (try clear hi); obtain ⟨HGz85, hgz85⟩ := HI302.out; have hcz85_0 := cellS63_0 HGz85; have hcz85_1 := cellS63_1 HGz85; have hcz85_2 := cellS63_2 HGz85; have hfz85_0 := qu HGz85 0; have hfz85_1 := qu HGz85 1; have hfz85_2 := qu HGz85 2; clear HGz85 hgz85; have hnb86 := NB299_302.out; have hnc86 := NB302_299.out; have hcz87_0 : w84.cell? ⟨gb299, 0, none⟩ = some (.int .i64 0) := (qs BK299.out 0).trans rfl; have hcz87_1 : w84.cell? ⟨gb299, 1, none⟩ = some (.int .i64 0) := (qs BK299.out 1).trans rfl; have hcz87_2 : w84.cell? ⟨gb299, 2, none⟩ = some (.int .i64 0) := (qs BK299.out 2).trans rfl; have hcz87_3 : w84.cell? ⟨gb299, 3, none⟩ = some (.slice none 0 0) := (qs BK299.out 3).trans rfl; have hfz87_0 := qu BK299.out 0; have hfz87_1 := qu BK299.out 1; have hfz87_2 := qu BK299.out 2; have hfz87_3 := qu BK299.out 3))
              refine bodyPost_ret (results_ct rfl _ _ gb299 24 #[.int .i64 0, .int .i64 0, .int .i64 0, .slice none 0 0] (0, 0) _ rfl zh Try.underlying24 rfl ze) rfl ?_
              exact ⟨_, zd, zam, zk⟩
          · rw [if_neg c60] at H
            have c60b0 : (x303001_1 == (t300.size : Int)) = false := beq_eq_false_iff_ne.mpr c60
            have c60b1 : (x303001_1 != (t300.size : Int)) = true := bne_iff_ne.mpr c60
            simp only [Option.some.injEq, Prod.mk.injEq] at H
            obtain ⟨rfl, rfl, rfl, rfl, rfl⟩ := H
            have hnb88 := NB307_299.out
            have hnc88 := NB299_307.out
            have hnb89 := NB307_302.out
            have hnc89 := NB302_307.out
            have hcz90_0 : wr.cell? ⟨gb307, 0, none⟩ = some (.int .i64 t303) := (qs BK307.out 0).trans rfl
            have hcz90_1 : wr.cell? ⟨gb307, 1, none⟩ = some (.int .i64 t308) := (qs BK307.out 1).trans rfl
            have hcz90_2 : wr.cell? ⟨gb307, 2, none⟩ = some (.int .i64 t312) := (qs BK307.out 2).trans rfl
            have hcz90_3 : wr.cell? ⟨gb307, 3, none⟩ = some (u308003) := (qs BK307.out 3).trans rfl
            have hfz90_0 := qu BK307.out 0
            have hfz90_1 := qu BK307.out 1
            have hfz90_2 := qu BK307.out 2
            have hfz90_3 := qu BK307.out 3
            obtain ⟨Ao91, co91, eo91⟩ := Kd.S_slice HO_308003.out
            subst eo91
            go_wp2_with (first | ((with_reducible refine gate_callee (f := 29) rfl ?_); refine goesL_ (some 58) rfl rfl Try.func29 ze rfl #[.agg #[.int .i64 t303, .int .i64 t308, .int .i64 t312, .slice Ao91 x308003_1.length co91]] rfl zcm ?_; (with_reducible refine (impl_MetaText.calls k1 t303 t308 t312 _ _ x308003_1 t320 t321 _ ?side1 ?side2 A50.out).mono ?_); (case side1 => repeat (first | exact (Kd.S_reads' HO_308003.out).2.2 | (with_reducible refine Kd.C_alloc ?_ _) | (with_reducible refine Kd.C_drewN ?_ _) | (with_reducible refine Kd.C_drew ?_))); (case side2 => exact (Kd.S_reads' HO_308003.out).2.1); rintro e w92 ⟨rfl, hb⟩; refine ⟨_, rfl, ?_⟩; have n0_ := qo (Kd.S_below za1 hb); have n1_ := qo (qr (g := gb299) (o := .cells #[.int .i64 0, .int .i64 0, .int .i64 0, .slice none 0 0] 24 (0, 0)) zv hb); have n2_ := qo (qr (g := gb307) (o := .cells #[.int .i64 t303, .int .i64 t308, .int .i64 t312, .slice Ao91 x308003_1.length co91] 24 (0, 0)) zab hb); have n3_ := qo (IsS63.below zw hb); have n4_ := qo (qq zk hb); clear HO_308003; clear BK299; clear BK307; clear HI302; clear HB; have HO_308003 := n0_; have BK299 := n1_; have BK307 := n2_; have HI302 := n3_; have HB := n4_; clear n0_ n1_ n2_ n3_ n4_; (try clear hb); (try clear hb2); (try clear hk); (try clear hi); obtain ⟨HGz93, hgz93⟩ := HI302.out; have hcz93_0 := cellS63_0 HGz93; have hcz93_1 := cellS63_1 HGz93; have hcz93_2 := cellS63_2 HGz93; have hfz93_0 := qu HGz93 0; have hfz93_1 := qu HGz93 1; have hfz93_2 := qu HGz93 2; clear HGz93 hgz93; have hnb94 := NB299_302.out; have hnc94 := NB302_299.out; have hcz95_0 : w92.cell? ⟨gb299, 0, none⟩ = some (.int .i64 0) := (qs BK299.out 0).trans rfl; have hcz95_1 : w92.cell? ⟨gb299, 1, none⟩ = some (.int .i64 0) := (qs BK299.out 1).trans rfl; have hcz95_2 : w92.cell? ⟨gb299, 2, none⟩ = some (.int .i64 0) := (qs BK299.out 2).trans rfl; have hcz95_3 : w92.cell? ⟨gb299, 3, none⟩ = some (.slice none 0 0) := (qs BK299.out 3).trans rfl; have hfz95_0 := qu BK299.out 0; have hfz95_1 := qu BK299.out 1; have hfz95_2 := qu BK299.out 2; have hfz95_3 := qu BK299.out 3))
            refine bodyPost_ret (results_ct rfl _ _ gb299 24 #[.int .i64 0, .int .i64 0, .int .i64 0, .slice none 0 0] (0, 0) _ rfl zh Try.underlying24 rfl ze) rfl ?_
            exact ⟨_, zd, zam, zk⟩

/-! ### impl_isPage: function 68 -/
def impl_isPage.f (l0_0 : List ByteArray) (l0_1 : List (S83)) (a1 : Int) : Option (Bool) := (impl_in.f a1 0 (wrap64 ((l0_0.length : Int) - 1))).bind fun t342 => (some t342)
set_option maxHeartbeats 8000000 in
set_option maxRecDepth 100000 in
theorem impl_isPage.calls (A0_0 : Option Addr) (c0_0 : Nat) (l0_0 : List ByteArray) (A0_1 : Option Addr) (c0_1 : Nat) (l0_1 : List (S83)) (a1 : Int) (r : Bool) (w : World) (hr0_0 : Kd.C Kd.string w A0_0 l0_0.length l0_0) (hc0_0 : l0_0.length ≤ c0_0) (hr0_1 : Kd.C k83 w A0_1 l0_1.length l0_1) (hc0_1 : l0_1.length ≤ c0_1) (h : impl_isPage.f l0_0 l0_1 a1 = some r) :
    Calls Try.prog 68 #[.agg #[.slice A0_0 l0_0.length c0_0, .slice A0_1 l0_1.length c0_1], .int .i64 a1] w fun e w' => e = .returned (.bool r) ∧ Below w.heap.size w w' := by
  have hu38 := Try.underlying38
  have HR0_0 := qo hr0_0
  have HC0_0 := qo hc0_0
  clear hr0_0 hc0_0
  have HR0_1 := qo hr0_1
  have HC0_1 := qo hc0_1
  clear hr0_1 hc0_1
  have HB := qo (Below.refl w.heap.size w)
  have H : ((impl_in.f a1 0 (wrap64 ((l0_0.length : Int) - 1))).bind fun t342 => (some t342)) = some r := h
  clear h
  replace H := Option.bind_eq_some_iff.mp H
  obtain ⟨t342, A30, H⟩ := H
  replace H : (some t342) = some r := H
  have A3 := qo A30
  clear A30
  obtain rfl := Option.some.inj H
  go_enter Try.func68, Try.ntmps68
  go_wp2_with (first | ((with_reducible refine gate_dst (N := 2) rfl ?_); refine box_event ?hg (N := 2) ?hd (cs := #[.slice A0_0 l0_0.length c0_0, .slice A0_1 l0_1.length c0_1]) (t := 38) ?hr ?_; (case hd => rfl); (case hg => rfl); (case hr => first | (go_simp; done) | (go_simp; rfl)); intro gb341 hg w4 hbox hb; have n0_ := qo (qq za hb); have n1_ := qo (hbox); have n2_ := qo ((zcn : w.heap.size ≤ gb341)); have n3_ := qo ((zcn : w.heap.size ≤ gb341)); clear HB; have HB := n0_; have BK341 := n1_; have GW341 := n2_; have GE341 := n3_; clear n0_ n1_ n2_ n3_; clear hb hbox hg; have hcz5_0 : w4.cell? ⟨gb341, 0, none⟩ = some (.slice A0_0 l0_0.length c0_0) := (qs BK341.out 0).trans rfl; have hcz5_1 : w4.cell? ⟨gb341, 1, none⟩ = some (.slice A0_1 l0_1.length c0_1) := (qs BK341.out 1).trans rfl; have hfz5_0 := qu BK341.out 0; have hfz5_1 := qu BK341.out 1) | ((with_reducible refine gate_callee (f := 58) rfl ?_); refine goesL_ (some 10) rfl rfl Try.func58 ze rfl #[.int .i64 a1, .int .i64 0, .int .i64 (wrap64 ((l0_0.length : Int) - 1))] rfl zcm ?_; (with_reducible refine (impl_in.calls a1 0 (wrap64 ((l0_0.length : Int) - 1)) t342 _ A3.out).mono ?_); rintro e w' ⟨rfl, ⟨nd, rfl⟩⟩; refine ⟨_, rfl, ?_⟩))
  go_ret
  exact ⟨zd, by repeat (first | (with_reducible first | exact HB.out | apply ql | apply qm | apply qn | refine qt ?_ GE341.out) | exact HB.out)⟩

/-! ### impl_ReadPage: function 38 -/
def impl_ReadPage.l0 : Nat → Int → Int → List ByteArray → List (S83) → Option (ByteArray)
  | 0, _, _, _, _ => none
  | k + 1, x1, x5, x344000, x344001 => if x5 ≥ 0 then (if 0 ≤ x5 then (if x5 < (x344001.length : Int) then (if ((rd_T83 x344001 x5).f0) = x1 then (some ((rd_T83 x344001 x5).f1)) else (impl_ReadPage.l0 k x1 (wrap64 (x5 - 1)) x344000 x344001)) else (none)) else (none)) else (if 0 ≤ x1 then (if x1 < (x344000.length : Int) then (some (rdOf ByteArray.empty x344000 x1)) else (none)) else (none))
def impl_ReadPage.f (k : Nat) (l0_0 : List ByteArray) (l0_1 : List (S83)) (a1 : Int) : Option (ByteArray) := (impl_isPage.f l0_0 l0_1 a1).bind fun t344 => (if t344 = true then (impl_ReadPage.l0 k a1 (wrap64 ((l0_1.length : Int) - 1)) l0_0 l0_1) else (some (⟨#[]⟩ : ByteArray)))
theorem impl_ReadPage.mono_l : ∀ k, (∀ y0 y1 y2 y3, LeO (impl_ReadPage.l0 k y0 y1 y2 y3) (impl_ReadPage.l0 (k + 1) y0 y1 y2 y3))
  | 0 => fun _ _ _ _ r h => by simp [impl_ReadPage.l0] at h
  | k + 1 => by
    have ih0 := impl_ReadPage.mono_l k
    · intro y0 y1 y2 y3
      unfold impl_ReadPage.l0
      repeat' first
      | (with_reducible exact ih0 _ _ _ _)
      | (with_reducible exact LeO.refl _)
      | (with_reducible exact LeO.none _)
      | (with_reducible refine LeO.ite ?_ ?_)
      | (with_reducible refine LeO.bind ?_ (fun _ => ?_))
      | exact ih0 _ _ _ _
      | exact LeO.none _
      | refine LeO.ite ?_ ?_
      | refine LeO.bind ?_ (fun _ => ?_)
theorem impl_ReadPage.mono : ∀ a0 a1 a2 k, LeO (impl_ReadPage.f k a0 a1 a2) (impl_ReadPage.f (k + 1) a0 a1 a2) := by
  intro a0 a1 a2 k
  have ih0 := impl_ReadPage.mono_l k
  unfold impl_ReadPage.f
  repeat' first
      | (with_reducible exact ih0 _ _ _ _)
      | (with_reducible exact LeO.refl _)
      | (with_reducible exact LeO.none _)
      | (with_reducible refine LeO.ite ?_ ?_)
      | (with_reducible refine LeO.bind ?_ (fun _ => ?_))
      | exact ih0 _ _ _ _
      | exact LeO.none _
      | refine LeO.ite ?_ ?_
      | refine LeO.bind ?_ (fun _ => ?_)
set_option maxHeartbeats 8000000 in
set_option maxRecDepth 100000 in
theorem impl_ReadPage.calls (k : Nat) (A0_0 : Option Addr) (c0_0 : Nat) (l0_0 : List ByteArray) (A0_1 : Option Addr) (c0_1 : Nat) (l0_1 : List (S83)) (a1 : Int) (r : ByteArray) (w : World) (hr0_0 : Kd.C Kd.string w A0_0 l0_0.length l0_0) (hc0_0 : l0_0.length ≤ c0_0) (hr0_1 : Kd.C k83 w A0_1 l0_1.length l0_1) (hc0_1 : l0_1.length ≤ c0_1) (h : impl_ReadPage.f k l0_0 l0_1 a1 = some r) :
    Calls Try.prog 38 #[.agg #[.slice A0_0 l0_0.length c0_0, .slice A0_1 l0_1.length c0_1], .int .i64 a1] w fun e w' => e = .returned (.string r) ∧ Below w.heap.size w w' := by
  have hu38 := Try.underlying38
  have HR0_0 := qo hr0_0
  have HC0_0 := qo hc0_0
  clear hr0_0 hc0_0
  have HR0_1 := qo hr0_1
  have HC0_1 := qo hc0_1
  clear hr0_1 hc0_1
  have HB := qo (Below.refl w.heap.size w)
  have H : ((impl_isPage.f l0_0 l0_1 a1).bind fun t344 => (if t344 = true then (impl_ReadPage.l0 k a1 (wrap64 ((l0_1.length : Int) - 1)) l0_0 l0_1) else (some (⟨#[]⟩ : ByteArray)))) = some r := h
  clear h
  replace H := Option.bind_eq_some_iff.mp H
  obtain ⟨t344, A30, H⟩ := H
  replace H : (if t344 = true then (impl_ReadPage.l0 k a1 (wrap64 ((l0_1.length : Int) - 1)) l0_0 l0_1) else (some (⟨#[]⟩ : ByteArray))) = some r := H
  have A3 := qo A30
  clear A30
  by_cases c4 : t344 = true
  · subst c4
    have H1 : (impl_ReadPage.l0 k a1 (wrap64 ((l0_1.length : Int) - 1)) l0_0 l0_1) = some r := by rw [if_pos rfl] at H; exact H
    clear H
    have H := H1
    clear H1
    have H' := qo H
    clear H
    go_enter Try.func38, Try.ntmps38
    go_wp2_with (first | ((with_reducible refine gate_dst (N := 2) rfl ?_); refine box_event ?hg (N := 2) ?hd (cs := #[.slice A0_0 l0_0.length c0_0, .slice A0_1 l0_1.length c0_1]) (t := 38) ?hr ?_; (case hd => rfl); (case hg => rfl); (case hr => first | (go_simp; done) | (go_simp; rfl)); intro gb343 hg w5 hbox hb; have n0_ := qo (qq za hb); have n1_ := qo (hbox); have n2_ := qo ((zcn : w.heap.size ≤ gb343)); have n3_ := qo ((zcn : w.heap.size ≤ gb343)); clear HB; have HB := n0_; have BK343 := n1_; have GW343 := n2_; have GE343 := n3_; clear n0_ n1_ n2_ n3_; clear hb hbox hg; have hcz6_0 : w5.cell? ⟨gb343, 0, none⟩ = some (.slice A0_0 l0_0.length c0_0) := (qs BK343.out 0).trans rfl; have hcz6_1 : w5.cell? ⟨gb343, 1, none⟩ = some (.slice A0_1 l0_1.length c0_1) := (qs BK343.out 1).trans rfl; have hfz6_0 := qu BK343.out 0; have hfz6_1 := qu BK343.out 1) | ((with_reducible refine gate_callee (f := 68) rfl ?_); refine goesL_ (some 8) rfl rfl Try.func68 ze rfl #[.agg #[.slice A0_0 l0_0.length c0_0, .slice A0_1 l0_1.length c0_1], .int .i64 a1] rfl zcm ?_; (with_reducible refine (impl_isPage.calls _ _ l0_0 _ _ l0_1 a1 true _ ?side1 ?side2 ?side3 ?side4 A3.out).mono ?_); (case side1 => repeat (first | exact (Kd.C_below HR0_0.out HB.out) | (with_reducible refine Kd.C_alloc ?_ _) | (with_reducible refine Kd.C_drewN ?_ _) | (with_reducible refine Kd.C_drew ?_))); (case side2 => exact HC0_0.out); (case side3 => repeat (first | exact (Kd.C_below HR0_1.out HB.out) | (with_reducible refine Kd.C_alloc ?_ _) | (with_reducible refine Kd.C_drewN ?_ _) | (with_reducible refine Kd.C_drew ?_))); (case side4 => exact HC0_1.out); rintro e w7 ⟨rfl, hb⟩; refine ⟨_, rfl, ?_⟩; have n0_ := qo (qr (g := gb343) (o := .cells #[.slice A0_0 l0_0.length c0_0, .slice A0_1 l0_1.length c0_1] 38 (0, 0)) zb7 hb); have n1_ := qo (qq zap hb); clear BK343; clear HB; have BK343 := n0_; have HB := n1_; clear n0_ n1_; (try clear hb); (try clear hb2); (try clear hk); (try clear hi); have hcz8_0 : w7.cell? ⟨gb343, 0, none⟩ = some (.slice A0_0 l0_0.length c0_0) := (qs BK343.out 0).trans rfl; have hcz8_1 : w7.cell? ⟨gb343, 1, none⟩ = some (.slice A0_1 l0_1.length c0_1) := (qs BK343.out 1).trans rfl; have hfz8_0 := qu BK343.out 0; have hfz8_1 := qu BK343.out 1))
    go_loopg [5] k (fun kq v5 w' => ∃ (x5_1 : Int), v5 = .int .i64 x5_1 ∧ Aside0 (impl_ReadPage.l0 kq a1 x5_1 l0_0 l0_1 = some r) ∧ Aside0 (kq ≤ k) ∧ Aside0 (w'.heap[gb343]? = some (.cells #[(.slice A0_0 l0_0.length c0_0), (.slice A0_1 l0_1.length c0_1)] 38 (0, 0))) ∧ Aside0 (Below w.heap.size w w'))
    case atStart => exact ⟨(wrap64 ((l0_1.length : Int) - 1)), zc, H', ⟨Nat.le_refl _⟩, ⟨zb7⟩, ⟨zap⟩⟩
    case round =>
      clear H'
      (try clear p2); (try clear c3); (try clear c4); (try clear c6); (try clear p6); (try clear hcz6_0); (try clear hcz6_1); (try clear hcz8_0); (try clear hcz8_1); (try clear hfz6_0); (try clear hfz6_1); (try clear hfz8_0); (try clear hfz8_1)
      obtain ⟨x5_1, rfl, HA, HK1, BK343, HB⟩ := hrel
      cases gk with
      | zero => exact absurd HA.out (by simp [impl_ReadPage.l0])
      | succ k1 =>
        have H := HA.out
        clear HA
        simp only [impl_ReadPage.l0] at H
        by_cases c9 : x5_1 ≥ 0
        · rw [if_pos c9] at H
          have c9b0 : decide (0 ≤ x5_1) = true := decide_eq_true c9
          clear c9
          by_cases c10 : 0 ≤ x5_1
          · rw [if_pos c10] at H
            have c10b0 : decide (0 ≤ x5_1) = true := decide_eq_true c10
            clear c10
            by_cases c11 : x5_1 < (l0_1.length : Int)
            · rw [if_pos c11] at H
              have c11b0 : decide (x5_1 < (l0_1.length : Int)) = true := decide_eq_true c11
              clear c11
              by_cases c12 : ((rd_T83 l0_1 x5_1).f0) = a1
              · rw [if_pos c12] at H
                have c12b0 : (((rd_T83 l0_1 x5_1).f0) == a1) = true := beq_iff_eq.mpr c12
                have c12b1 : (((rd_T83 l0_1 x5_1).f0) != a1) = false := bne_eq_false_iff_eq.mpr c12
                clear c12
                obtain rfl := Option.some.inj H
                have hcz13_0 : wr.cell? ⟨gb343, 0, none⟩ = some (.slice A0_0 l0_0.length c0_0) := (qs BK343.out 0).trans rfl
                have hcz13_1 : wr.cell? ⟨gb343, 1, none⟩ = some (.slice A0_1 l0_1.length c0_1) := (qs BK343.out 1).trans rfl
                have hfz13_0 := qu BK343.out 0
                have hfz13_1 := qu BK343.out 1
                have p345 : 0 ≤ (x5_1 : Int) := of_decide_eq_true zb
                have q345 : x5_1 < (l0_1.length : Int) := of_decide_eq_true zb
                obtain ⟨ad345, e345, hx345_0, hx345_1⟩ := at_T83 HR0_1.out x5_1 p345 q345
                cases e345
                replace hx345_0 := (HB.out.cell (World.block_lt_of_cell? w _ hx345_0)).trans hx345_0
                replace hx345_1 := (HB.out.cell (World.block_lt_of_cell? w _ hx345_1)).trans hx345_1
                replace p345 := eq_true p345
                replace q345 := eq_true q345
                have p346 : 0 ≤ (x5_1 : Int) := of_decide_eq_true zb
                have q346 : x5_1 < (l0_1.length : Int) := of_decide_eq_true zb
                obtain ⟨ad346, e346, hx346_0, hx346_1⟩ := at_T83 HR0_1.out x5_1 p346 q346
                obtain rfl : ad345 = ad346 := (by injection e346)
                replace hx346_0 := (HB.out.cell (World.block_lt_of_cell? w _ hx346_0)).trans hx346_0
                replace hx346_1 := (HB.out.cell (World.block_lt_of_cell? w _ hx346_1)).trans hx346_1
                replace p346 := eq_true p346
                replace q346 := eq_true q346
                go_wp2
                go_ret
                exact ⟨zd, zap⟩
              · rw [if_neg c12] at H
                have c12b0 : (((rd_T83 l0_1 x5_1).f0) == a1) = false := beq_eq_false_iff_ne.mpr c12
                have c12b1 : (((rd_T83 l0_1 x5_1).f0) != a1) = true := bne_iff_ne.mpr c12
                have H' := qo H
                clear H
                have hcz14_0 : wr.cell? ⟨gb343, 0, none⟩ = some (.slice A0_0 l0_0.length c0_0) := (qs BK343.out 0).trans rfl
                have hcz14_1 : wr.cell? ⟨gb343, 1, none⟩ = some (.slice A0_1 l0_1.length c0_1) := (qs BK343.out 1).trans rfl
                have hfz14_0 := qu BK343.out 0
                have hfz14_1 := qu BK343.out 1
                have p345 : 0 ≤ (x5_1 : Int) := of_decide_eq_true zb
                have q345 : x5_1 < (l0_1.length : Int) := of_decide_eq_true zb
                obtain ⟨ad345, e345, hx345_0, hx345_1⟩ := at_T83 HR0_1.out x5_1 p345 q345
                cases e345
                replace hx345_0 := (HB.out.cell (World.block_lt_of_cell? w _ hx345_0)).trans hx345_0
                replace hx345_1 := (HB.out.cell (World.block_lt_of_cell? w _ hx345_1)).trans hx345_1
                replace p345 := eq_true p345
                replace q345 := eq_true q345
                go_wp2
                go_roundg k1
                case measure => have := HK1.out; omega
                case rel => exact ⟨(wrap64 (x5_1 - 1)), zc, H', ⟨zb9⟩, ⟨zb7⟩, ⟨zap⟩⟩
            · rw [if_neg c11] at H
              exact absurd H zbh
          · rw [if_neg c10] at H
            exact absurd H zbh
        · rw [if_neg c9] at H
          have c9b0 : decide (0 ≤ x5_1) = false := decide_eq_false c9
          clear c9
          by_cases c15 : 0 ≤ a1
          · rw [if_pos c15] at H
            have c15b0 : decide (0 ≤ a1) = true := decide_eq_true c15
            clear c15
            by_cases c16 : a1 < (l0_0.length : Int)
            · rw [if_pos c16] at H
              have c16b0 : decide (a1 < (l0_0.length : Int)) = true := decide_eq_true c16
              clear c16
              obtain rfl := Option.some.inj H
              have hcz17_0 : wr.cell? ⟨gb343, 0, none⟩ = some (.slice A0_0 l0_0.length c0_0) := (qs BK343.out 0).trans rfl
              have hcz17_1 : wr.cell? ⟨gb343, 1, none⟩ = some (.slice A0_1 l0_1.length c0_1) := (qs BK343.out 1).trans rfl
              have hfz17_0 := qu BK343.out 0
              have hfz17_1 := qu BK343.out 1
              have p347 : 0 ≤ (a1 : Int) := of_decide_eq_true zb
              have q347 : a1 < (l0_0.length : Int) := of_decide_eq_true zb
              obtain ⟨ad347, e347, hx347_0⟩ := Kd.at_string HR0_0.out a1 p347 q347
              cases e347
              replace hx347_0 := (HB.out.cell (World.block_lt_of_cell? w _ hx347_0)).trans hx347_0
              replace p347 := eq_true p347
              replace q347 := eq_true q347
              go_wp2
              go_ret
              exact ⟨zd, zap⟩
            · rw [if_neg c16] at H
              exact absurd H zbh
          · rw [if_neg c15] at H
            exact absurd H zbh
  · replace c4 := Bool.eq_false_iff.mpr c4
    subst c4
    have H1 : (some (⟨#[]⟩ : ByteArray)) = some r := by rw [if_neg (show ¬ (false = true) by decide)] at H; exact H
    clear H
    have H := H1
    clear H1
    obtain rfl := Option.some.inj H
    go_enter Try.func38, Try.ntmps38
    go_wp2_with (first | ((with_reducible refine gate_dst (N := 2) rfl ?_); refine box_event ?hg (N := 2) ?hd (cs := #[.slice A0_0 l0_0.length c0_0, .slice A0_1 l0_1.length c0_1]) (t := 38) ?hr ?_; (case hd => rfl); (case hg => rfl); (case hr => first | (go_simp; done) | (go_simp; rfl)); intro gb343 hg w18 hbox hb; have n0_ := qo (qq za hb); have n1_ := qo (hbox); have n2_ := qo ((zcn : w.heap.size ≤ gb343)); have n3_ := qo ((zcn : w.heap.size ≤ gb343)); clear HB; have HB := n0_; have BK343 := n1_; have GW343 := n2_; have GE343 := n3_; clear n0_ n1_ n2_ n3_; clear hb hbox hg; have hcz19_0 : w18.cell? ⟨gb343, 0, none⟩ = some (.slice A0_0 l0_0.length c0_0) := (qs BK343.out 0).trans rfl; have hcz19_1 : w18.cell? ⟨gb343, 1, none⟩ = some (.slice A0_1 l0_1.length c0_1) := (qs BK343.out 1).trans rfl; have hfz19_0 := qu BK343.out 0; have hfz19_1 := qu BK343.out 1) | ((with_reducible refine gate_callee (f := 68) rfl ?_); refine goesL_ (some 8) rfl rfl Try.func68 ze rfl #[.agg #[.slice A0_0 l0_0.length c0_0, .slice A0_1 l0_1.length c0_1], .int .i64 a1] rfl zcm ?_; (with_reducible refine (impl_isPage.calls _ _ l0_0 _ _ l0_1 a1 false _ ?side1 ?side2 ?side3 ?side4 A3.out).mono ?_); (case side1 => repeat (first | exact (Kd.C_below HR0_0.out HB.out) | (with_reducible refine Kd.C_alloc ?_ _) | (with_reducible refine Kd.C_drewN ?_ _) | (with_reducible refine Kd.C_drew ?_))); (case side2 => exact HC0_0.out); (case side3 => repeat (first | exact (Kd.C_below HR0_1.out HB.out) | (with_reducible refine Kd.C_alloc ?_ _) | (with_reducible refine Kd.C_drewN ?_ _) | (with_reducible refine Kd.C_drew ?_))); (case side4 => exact HC0_1.out); rintro e w20 ⟨rfl, hb⟩; refine ⟨_, rfl, ?_⟩; have n0_ := qo (qr (g := gb343) (o := .cells #[.slice A0_0 l0_0.length c0_0, .slice A0_1 l0_1.length c0_1] 38 (0, 0)) zb7 hb); have n1_ := qo (qq zap hb); clear BK343; clear HB; have BK343 := n0_; have HB := n1_; clear n0_ n1_; (try clear hb); (try clear hb2); (try clear hk); (try clear hi)))
    go_ret
    exact ⟨zd, zap⟩

/-! ### impl_BestMeta: function 14 -/
def impl_BestMeta.pick (a b : Int × Int × Int × List (S60) × Bool) : Int × Int × Int × List (S60) × Bool := if a.2.2.2.2 = true ∧ (b.2.2.2.2 = false ∨ a.1 ≥ b.1) then (a.1, a.2.1, a.2.2.1, a.2.2.2.1, true) else if b.2.2.2.2 = true then (b.1, b.2.1, b.2.2.1, b.2.2.2.1, true) else (0, 0, 0, [], false)
def impl_BestMeta.f (k : Nat) (l0_0 : List ByteArray) (l0_1 : List (S83)) : Option (Int × Int × Int × List (S60) × Bool) := (impl_ReadPage.f k l0_0 l0_1 0).bind fun t => ((impl_ReadMeta.f k t).bind fun a => ((impl_ReadPage.f k l0_0 l0_1 1).bind fun u => ((impl_ReadMeta.f k u).bind fun b => (some (impl_BestMeta.pick a b)))))
theorem impl_BestMeta.mono : ∀ a0 a1 k, LeO (impl_BestMeta.f k a0 a1) (impl_BestMeta.f (k + 1) a0 a1) := fun a0 a1 k => LeO.bind (impl_ReadPage.mono _ _ _ _) (fun _ => LeO.bind (impl_ReadMeta.mono _ _) (fun _ => LeO.bind (impl_ReadPage.mono _ _ _ _) (fun _ => LeO.bind (impl_ReadMeta.mono _ _) (fun _ => LeO.refl _))))
theorem impl_BestMeta.calls_world {P : Program} {f : FuncId} {args : Array Value} {W : World} {post : Ending → World → Prop} (h : ∀ W', W' = W → Calls P f args W' post) : Calls P f args W post := h W rfl
theorem impl_BestMeta.row {w6 W1 W W' : World} {b : Nat} {v : Value} {xs : List (S60)} (S : Nat → Prop) (h : Kd.S k60 60 w6 W1.heap.size (fun _ => True) v xs) (hb : Below w6.heap.size w6 W) (hk : Kept W W' S) (hS : ∀ k, W1.heap.size ≤ k → k < w6.heap.size → ¬ S k) (hl : b ≤ W1.heap.size) : Kd.S k60 60 W' b (fun _ => True) v xs :=
  Kd.S_mono (Kd.S_lower (Kd.S_step (Kd.S_bound h) (fun k hk_ hlt => (hk.2 k (Nat.lt_of_lt_of_le hlt hb.size) (hS k hk_.2.1 hlt)).trans (hb.block k hlt))) hl) (fun _ _ => trivial)
set_option maxHeartbeats 16000000 in
set_option maxRecDepth 100000 in
theorem impl_BestMeta.calls (k : Nat) (A0_0 : Option Addr) (c0_0 : Nat) (l0_0 : List ByteArray) (A0_1 : Option Addr) (c0_1 : Nat) (l0_1 : List (S83)) (r1 : Int) (r2 : Int) (r3 : Int) (r4 : List (S60)) (r5 : Bool) (w : World) (hr0_0 : Kd.C Kd.string w A0_0 l0_0.length l0_0) (hc0_0 : l0_0.length ≤ c0_0) (hr0_1 : Kd.C k83 w A0_1 l0_1.length l0_1) (hc0_1 : l0_1.length ≤ c0_1) (h : impl_BestMeta.f k l0_0 l0_1 = some (r1, r2, r3, r4, r5)) :
    Calls Try.prog 14 #[.agg #[.slice A0_0 l0_0.length c0_0, .slice A0_1 l0_1.length c0_1]] w fun e w' => ∃ v3_ : Value, e = .returned (.tuple #[.agg #[.int .i64 r1, .int .i64 r2, .int .i64 r3, v3_], .bool r5]) ∧ Kd.S k60 60 w' w.heap.size (fun _ => True) v3_ r4 ∧ Below w.heap.size w w' := by
  obtain ⟨t, e1, h⟩ := Option.bind_eq_some_iff.mp h
  obtain ⟨⟨x1, x2, x3, X4, x5⟩, e2, h⟩ := Option.bind_eq_some_iff.mp h
  obtain ⟨u, e3, h⟩ := Option.bind_eq_some_iff.mp h
  obtain ⟨⟨y1, y2, y3, Y4, y5⟩, e4, h⟩ := Option.bind_eq_some_iff.mp h
  have hp := Option.some.inj h
  unfold impl_BestMeta.pick at hp
  dsimp only at hp
  clear h
  have E1 := qo e1
  have E2 := qo e2
  have E3 := qo e3
  have E4 := qo e4
  have HR0 := qo hr0_0
  have HR1 := qo hr0_1
  have HC0 := qo hc0_0
  have HC1 := qo hc0_1
  have Bw := qo (Below.refl w.heap.size w)
  clear e1 e2 e3 e4 hr0_0 hr0_1 hc0_0 hc0_1
  have hge : (decide (y1 ≤ x1) = true ∧ x1 ≥ y1) ∨ (decide (y1 ≤ x1) = false ∧ ¬ x1 ≥ y1) := by
    by_cases c : y1 ≤ x1
    · exact .inl ⟨decide_eq_true c, c⟩
    · exact .inr ⟨decide_eq_false c, c⟩
  have HP := qo hp
  clear hp
  rcases hge with ⟨hd, hg⟩ | ⟨hd, hg⟩ <;> (have HGE := qo hg; clear hg; cases x5 <;> cases y5)
  all_goals (
    go_enter Try.func14, Try.ntmps14
    go_wp2_with (first | ((with_reducible refine gate_dst (N := 1) rfl ?_); refine box_event ?hg (N := 1) ?hd (cs := #[.slice A0_0 l0_0.length c0_0, .slice A0_1 l0_1.length c0_1]) (t := 38) ?hr ?_; (case hd => rfl); (case hg => rfl); (case hr => first | (go_simp; done) | (go_simp; rfl)); intro g0 hg w1 hbox hb; have Gg0_w := qo (show w.heap.size ≤ g0 from zcq); have nw_ := qo (show Below w.heap.size w w1 from qq zf hb); clear Bw; have Bw := nw_; clear nw_; have Kg0 := qo hbox; clear hbox hg; clear hb; have Bw1 := qo (Below.refl w1.heap.size w1); have hcg0_0 : w1.cell? ⟨g0, 0, none⟩ = some (.slice A0_0 l0_0.length c0_0) := (qs Kg0.out 0).trans rfl; have hcg0_1 : w1.cell? ⟨g0, 1, none⟩ = some (.slice A0_1 l0_1.length c0_1) := (qs Kg0.out 1).trans rfl; have hfg0_0 := qu Kg0.out 0; have hfg0_1 := qu Kg0.out 1; ) | ((with_reducible refine gate_dst (N := 2) rfl ?_); refine box_event ?hg (N := 2) ?hd (cs := #[.int .i64 0, .int .i64 0, .int .i64 0, .slice none 0 0]) (t := 24) ?hr ?_; (case hd => rfl); (case hg => rfl); (case hr => first | (go_simp; done) | (go_simp; rfl)); intro g2 hg w2 hbox hb; have Gg2_w := qo (show w.heap.size ≤ g2 from zcq); have Gg2_w1 := qo (show w1.heap.size ≤ g2 from zcz); have nw_ := qo (show Below w.heap.size w w2 from qq zf hb); have nw1_ := qo (show Below w1.heap.size w1 w2 from qq zt hb); clear Bw; have Bw := nw_; clear nw_; clear Bw1; have Bw1 := nw1_; clear nw1_; have Kg2 := qo hbox; clear hbox hg; (try clear hcg0_0 hfg0_0 hcg0_1 hfg0_1); have k_ := qo (qr Kg0.out hb); clear Kg0; have Kg0 := k_; clear k_; clear hb; have Bw2 := qo (Below.refl w2.heap.size w2); have hcg0_0 : w2.cell? ⟨g0, 0, none⟩ = some (.slice A0_0 l0_0.length c0_0) := (qs Kg0.out 0).trans rfl; have hcg0_1 : w2.cell? ⟨g0, 1, none⟩ = some (.slice A0_1 l0_1.length c0_1) := (qs Kg0.out 1).trans rfl; have hfg0_0 := qu Kg0.out 0; have hfg0_1 := qu Kg0.out 1; have hcg2_0 : w2.cell? ⟨g2, 0, none⟩ = some (.int .i64 0) := (qs Kg2.out 0).trans rfl; have hcg2_1 : w2.cell? ⟨g2, 1, none⟩ = some (.int .i64 0) := (qs Kg2.out 1).trans rfl; have hcg2_2 : w2.cell? ⟨g2, 2, none⟩ = some (.int .i64 0) := (qs Kg2.out 2).trans rfl; have hcg2_3 : w2.cell? ⟨g2, 3, none⟩ = some (.slice none 0 0) := (qs Kg2.out 3).trans rfl; have hfg2_0 := qu Kg2.out 0; have hfg2_1 := qu Kg2.out 1; have hfg2_2 := qu Kg2.out 2; have hfg2_3 := qu Kg2.out 3; have K0 := Kg0; have K2 := Kg2; have L2 := qo (blk_lt Kg2.out); have L0 := qo (blk_lt Kg0.out)) | ((with_reducible refine gate_callee (f := 38) rfl ?_); refine goesL_ (some 10) rfl rfl Try.func38 ze rfl #[.agg #[.slice A0_0 l0_0.length c0_0, .slice A0_1 l0_1.length c0_1], .int .i64 0] rfl zao ?_; refine impl_BestMeta.calls_world ?_; intro W1 hW; have nw_ := qo (show Below w.heap.size w W1 from zcv); have nw2_ := qo (show Below w2.heap.size w2 W1 from zc2); clear Bw; have Bw := nw_; clear nw_; clear Bw2; have Bw2 := nw2_; clear nw2_; clear hW; have C0 := Kd.C_below HR0.out Bw.out; have C1 := Kd.C_below HR1.out Bw.out; (with_reducible refine (impl_ReadPage.calls k A0_0 c0_0 l0_0 A0_1 c0_1 l0_1 0 t W1 C0 HC0.out C1 HC1.out E1.out).mono ?_); rintro e w3 ⟨rfl, hb⟩; refine ⟨_, rfl, ?_⟩; clear C0 C1; have nw_ := qo (show Below w.heap.size w w3 from qq Bw.out hb); have nw2_ := qo (show Below w2.heap.size w2 w3 from qq Bw2.out hb); clear Bw; have Bw := nw_; clear nw_; clear Bw2; have Bw2 := nw2_; clear nw2_; (try clear hcg0_0 hfg0_0 hcg0_1 hfg0_1); (try clear hcg2_0 hfg2_0 hcg2_1 hfg2_1 hcg2_2 hfg2_2 hcg2_3 hfg2_3); clear Kg0 Kg2; have Kg0 := qo (qr K0.out Bw2.out); have Kg2 := qo (qr K2.out Bw2.out); have hcg0_0 : w3.cell? ⟨g0, 0, none⟩ = some (.slice A0_0 l0_0.length c0_0) := (qs Kg0.out 0).trans rfl; have hcg0_1 : w3.cell? ⟨g0, 1, none⟩ = some (.slice A0_1 l0_1.length c0_1) := (qs Kg0.out 1).trans rfl; have hfg0_0 := qu Kg0.out 0; have hfg0_1 := qu Kg0.out 1; have hcg2_0 : w3.cell? ⟨g2, 0, none⟩ = some (.int .i64 0) := (qs Kg2.out 0).trans rfl; have hcg2_1 : w3.cell? ⟨g2, 1, none⟩ = some (.int .i64 0) := (qs Kg2.out 1).trans rfl; have hcg2_2 : w3.cell? ⟨g2, 2, none⟩ = some (.int .i64 0) := (qs Kg2.out 2).trans rfl; have hcg2_3 : w3.cell? ⟨g2, 3, none⟩ = some (.slice none 0 0) := (qs Kg2.out 3).trans rfl; have hfg2_0 := qu Kg2.out 0; have hfg2_1 := qu Kg2.out 1; have hfg2_2 := qu Kg2.out 2; have hfg2_3 := qu Kg2.out 3; clear hb) | ((with_reducible refine gate_callee (f := 7) rfl ?_); refine goesL_ (some 11) rfl rfl Try.func7 ze rfl #[.string t] rfl zao ?_; refine impl_BestMeta.calls_world ?_; intro W2 hW; have nw_ := qo (show Below w.heap.size w W2 from zcv); have nw2_ := qo (show Below w2.heap.size w2 W2 from zc2); clear Bw; have Bw := nw_; clear nw_; clear Bw2; have Bw2 := nw2_; clear nw2_; clear hW; have M2 := qo (Nat.lt_of_lt_of_le L2.out Bw2.out.size); have M0 := qo (Nat.lt_of_lt_of_le L0.out Bw2.out.size); (with_reducible refine (impl_ReadMeta.calls k t x1 x2 x3 X4 _ W2 E2.out).mono ?_); rintro e w4 ⟨v4, rfl, ho, hb⟩; refine ⟨_, rfl, ?_⟩; obtain ⟨Ax, cx, ex⟩ := Kd.S_slice ho; subst ex; have HO1 := qo ho; clear ho; have nw_ := qo (show Below w.heap.size w w4 from qq Bw.out hb); have nw2_ := qo (show Below w2.heap.size w2 w4 from qq Bw2.out hb); clear Bw; have Bw := nw_; clear nw_; clear Bw2; have Bw2 := nw2_; clear nw2_; have Bw4 := qo (Below.refl w4.heap.size w4); have Z12 := qo (Nat.le_refl W2.heap.size); (try clear hcg0_0 hfg0_0 hcg0_1 hfg0_1); (try clear hcg2_0 hfg2_0 hcg2_1 hfg2_1 hcg2_2 hfg2_2 hcg2_3 hfg2_3); clear Kg0 Kg2; have Kg0 := qo (qr K0.out Bw2.out); have Kg2 := qo (qr K2.out Bw2.out); have hcg0_0 : w4.cell? ⟨g0, 0, none⟩ = some (.slice A0_0 l0_0.length c0_0) := (qs Kg0.out 0).trans rfl; have hcg0_1 : w4.cell? ⟨g0, 1, none⟩ = some (.slice A0_1 l0_1.length c0_1) := (qs Kg0.out 1).trans rfl; have hfg0_0 := qu Kg0.out 0; have hfg0_1 := qu Kg0.out 1; have hcg2_0 : w4.cell? ⟨g2, 0, none⟩ = some (.int .i64 0) := (qs Kg2.out 0).trans rfl; have hcg2_1 : w4.cell? ⟨g2, 1, none⟩ = some (.int .i64 0) := (qs Kg2.out 1).trans rfl; have hcg2_2 : w4.cell? ⟨g2, 2, none⟩ = some (.int .i64 0) := (qs Kg2.out 2).trans rfl; have hcg2_3 : w4.cell? ⟨g2, 3, none⟩ = some (.slice none 0 0) := (qs Kg2.out 3).trans rfl; have hfg2_0 := qu Kg2.out 0; have hfg2_1 := qu Kg2.out 1; have hfg2_2 := qu Kg2.out 2; have hfg2_3 := qu Kg2.out 3; clear hb) | ((with_reducible refine gate_dst (N := 4) rfl ?_); refine box_event ?hg (N := 4) ?hd (cs := #[.int .i64 0, .int .i64 0, .int .i64 0, .slice none 0 0]) (t := 24) ?hr ?_; (case hd => rfl); (case hg => rfl); (case hr => first | (go_simp; done) | (go_simp; rfl)); intro ga hg w5 hbox hb; have Gga_w := qo (show w.heap.size ≤ ga from zcq); have Gga_w2 := qo (show w2.heap.size ≤ ga from zc1); have Gga_w4 := qo (show w4.heap.size ≤ ga from zcw); have nw_ := qo (show Below w.heap.size w w5 from qq zf hb); have nw2_ := qo (show Below w2.heap.size w2 w5 from qq zac hb); have nw4_ := qo (show Below w4.heap.size w4 w5 from qq zp hb); clear Bw; have Bw := nw_; clear nw_; clear Bw2; have Bw2 := nw2_; clear nw2_; clear Bw4; have Bw4 := nw4_; clear nw4_; have Kga := qo hbox; clear hbox hg; (try clear hcg0_0 hfg0_0 hcg0_1 hfg0_1); (try clear hcg2_0 hfg2_0 hcg2_1 hfg2_1 hcg2_2 hfg2_2 hcg2_3 hfg2_3); clear Kg0 Kg2; have Kg0 := qo (qr K0.out Bw2.out); have Kg2 := qo (qr K2.out Bw2.out); have hcg0_0 : w5.cell? ⟨g0, 0, none⟩ = some (.slice A0_0 l0_0.length c0_0) := (qs Kg0.out 0).trans rfl; have hcg0_1 : w5.cell? ⟨g0, 1, none⟩ = some (.slice A0_1 l0_1.length c0_1) := (qs Kg0.out 1).trans rfl; have hfg0_0 := qu Kg0.out 0; have hfg0_1 := qu Kg0.out 1; have hcg2_0 : w5.cell? ⟨g2, 0, none⟩ = some (.int .i64 0) := (qs Kg2.out 0).trans rfl; have hcg2_1 : w5.cell? ⟨g2, 1, none⟩ = some (.int .i64 0) := (qs Kg2.out 1).trans rfl; have hcg2_2 : w5.cell? ⟨g2, 2, none⟩ = some (.int .i64 0) := (qs Kg2.out 2).trans rfl; have hcg2_3 : w5.cell? ⟨g2, 3, none⟩ = some (.slice none 0 0) := (qs Kg2.out 3).trans rfl; have hfg2_0 := qu Kg2.out 0; have hfg2_1 := qu Kg2.out 1; have hfg2_2 := qu Kg2.out 2; have hfg2_3 := qu Kg2.out 3; have hcga_0 : w5.cell? ⟨ga, 0, none⟩ = some (.int .i64 0) := (qs Kga.out 0).trans rfl; have hcga_1 : w5.cell? ⟨ga, 1, none⟩ = some (.int .i64 0) := (qs Kga.out 1).trans rfl; have hcga_2 : w5.cell? ⟨ga, 2, none⟩ = some (.int .i64 0) := (qs Kga.out 2).trans rfl; have hcga_3 : w5.cell? ⟨ga, 3, none⟩ = some (.slice none 0 0) := (qs Kga.out 3).trans rfl; have hfga_0 := qu Kga.out 0; have hfga_1 := qu Kga.out 1; have hfga_2 := qu Kga.out 2; have hfga_3 := qu Kga.out 3; have Lw4 := qo (Nat.le_refl 0); have ng0ga : g0 ≠ ga := Nat.ne_of_lt (Nat.lt_of_lt_of_le L0.out Gga_w2.out); have ngag0 : ga ≠ g0 := fun e_ => ng0ga e_.symm; have ng2ga : g2 ≠ ga := Nat.ne_of_lt (Nat.lt_of_lt_of_le L2.out Gga_w2.out); have ngag2 : ga ≠ g2 := fun e_ => ng2ga e_.symm; clear hb) | ((with_reducible refine gate_callee (f := 38) rfl ?_); refine goesL_ (some 16) rfl rfl Try.func38 ze rfl #[.agg #[.slice A0_0 l0_0.length c0_0, .slice A0_1 l0_1.length c0_1], .int .i64 1] rfl zao ?_; refine impl_BestMeta.calls_world ?_; intro W3 hW; have nw_ := qo (show Below w.heap.size w W3 from (by rw [hW]; exact (by repeat (first | (with_reducible first | exact Bw.out | apply qm | apply qn | refine qt ?_ Gga_w.out) | exact Bw.out)))); have nw2_ := qo (show Below w2.heap.size w2 W3 from (by rw [hW]; exact (by repeat (first | (with_reducible first | exact Bw2.out | apply qm | apply qn | refine qt ?_ Gga_w2.out) | exact Bw2.out)))); have nw4_ := qo (show Below w4.heap.size w4 W3 from (by rw [hW]; exact (by repeat (first | (with_reducible first | exact Bw4.out | apply qm | apply qn | refine qt ?_ Gga_w4.out) | exact Bw4.out)))); clear Bw; have Bw := nw_; clear nw_; clear Bw2; have Bw2 := nw2_; clear nw2_; clear Bw4; have Bw4 := nw4_; clear nw4_; have hka := (show W3.heap[ga]? = some (.cells #[.int .i64 x1, .int .i64 x2, .int .i64 x3, .slice Ax X4.length cx] 24 (0, 0)) from (by rw [hW]; exact (blk_set (blk_set (blk_set (blk_set Kga.out 0 (.int .i64 x1)) 1 (.int .i64 x2)) 2 (.int .i64 x3)) 3 (.slice Ax X4.length cx)).trans rfl)); clear Kga; have Kga := qo hka; clear hka; clear hW; have C0 := Kd.C_below HR0.out Bw.out; have C1 := Kd.C_below HR1.out Bw.out; (with_reducible refine (impl_ReadPage.calls k A0_0 c0_0 l0_0 A0_1 c0_1 l0_1 1 u W3 C0 HC0.out C1 HC1.out E3.out).mono ?_); rintro e w6 ⟨rfl, hb⟩; refine ⟨_, rfl, ?_⟩; clear C0 C1; have nw_ := qo (show Below w.heap.size w w6 from qq Bw.out hb); have nw2_ := qo (show Below w2.heap.size w2 w6 from qq Bw2.out hb); have nw4_ := qo (show Below w4.heap.size w4 w6 from qq Bw4.out hb); clear Bw; have Bw := nw_; clear nw_; clear Bw2; have Bw2 := nw2_; clear nw2_; clear Bw4; have Bw4 := nw4_; clear nw4_; have k_ := qo (qr Kga.out hb); clear Kga; have Kga := k_; clear k_; (try clear hcga_0 hfga_0 hcga_1 hfga_1 hcga_2 hfga_2 hcga_3 hfga_3); (try clear hcg0_0 hfg0_0 hcg0_1 hfg0_1); (try clear hcg2_0 hfg2_0 hcg2_1 hfg2_1 hcg2_2 hfg2_2 hcg2_3 hfg2_3); clear Kg0 Kg2; have Kg0 := qo (qr K0.out Bw2.out); have Kg2 := qo (qr K2.out Bw2.out); have hcg0_0 : w6.cell? ⟨g0, 0, none⟩ = some (.slice A0_0 l0_0.length c0_0) := (qs Kg0.out 0).trans rfl; have hcg0_1 : w6.cell? ⟨g0, 1, none⟩ = some (.slice A0_1 l0_1.length c0_1) := (qs Kg0.out 1).trans rfl; have hfg0_0 := qu Kg0.out 0; have hfg0_1 := qu Kg0.out 1; have hcg2_0 : w6.cell? ⟨g2, 0, none⟩ = some (.int .i64 0) := (qs Kg2.out 0).trans rfl; have hcg2_1 : w6.cell? ⟨g2, 1, none⟩ = some (.int .i64 0) := (qs Kg2.out 1).trans rfl; have hcg2_2 : w6.cell? ⟨g2, 2, none⟩ = some (.int .i64 0) := (qs Kg2.out 2).trans rfl; have hcg2_3 : w6.cell? ⟨g2, 3, none⟩ = some (.slice none 0 0) := (qs Kg2.out 3).trans rfl; have hfg2_0 := qu Kg2.out 0; have hfg2_1 := qu Kg2.out 1; have hfg2_2 := qu Kg2.out 2; have hfg2_3 := qu Kg2.out 3; have hcga_0 : w6.cell? ⟨ga, 0, none⟩ = some (.int .i64 x1) := (qs Kga.out 0).trans rfl; have hcga_1 : w6.cell? ⟨ga, 1, none⟩ = some (.int .i64 x2) := (qs Kga.out 1).trans rfl; have hcga_2 : w6.cell? ⟨ga, 2, none⟩ = some (.int .i64 x3) := (qs Kga.out 2).trans rfl; have hcga_3 : w6.cell? ⟨ga, 3, none⟩ = some (.slice Ax X4.length cx) := (qs Kga.out 3).trans rfl; have hfga_0 := qu Kga.out 0; have hfga_1 := qu Kga.out 1; have hfga_2 := qu Kga.out 2; have hfga_3 := qu Kga.out 3; clear hb) | ((with_reducible refine gate_callee (f := 7) rfl ?_); refine goesL_ (some 17) rfl rfl Try.func7 ze rfl #[.string u] rfl zao ?_; refine impl_BestMeta.calls_world ?_; intro W4 hW; have nw_ := qo (show Below w.heap.size w W4 from zcv); have nw2_ := qo (show Below w2.heap.size w2 W4 from zc2); have nw4_ := qo (show Below w4.heap.size w4 W4 from zcy); clear Bw; have Bw := nw_; clear nw_; clear Bw2; have Bw2 := nw2_; clear nw2_; clear Bw4; have Bw4 := nw4_; clear nw4_; have hka := (show W4.heap[ga]? = some (.cells #[.int .i64 x1, .int .i64 x2, .int .i64 x3, .slice Ax X4.length cx] 24 (0, 0)) from (by rw [hW]; exact Kga.out)); clear Kga; have Kga := qo hka; clear hka hW; have La := qo (blk_lt Kga.out); have N4 := qo Bw4.out.size; have N2 := qo Bw2.out.size; (with_reducible refine (impl_ReadMeta.calls k u y1 y2 y3 Y4 _ W4 E4.out).mono ?_); rintro e w7 ⟨v7, rfl, ho, hb⟩; refine ⟨_, rfl, ?_⟩; obtain ⟨Ay, cy, ey⟩ := Kd.S_slice ho; subst ey; have HO2 := qo ho; clear ho; have M4 := qo hb.size; have nw_ := qo (show Below w.heap.size w w7 from qq Bw.out hb); have nw2_ := qo (show Below w2.heap.size w2 w7 from qq Bw2.out hb); have nw4_ := qo (show Below w4.heap.size w4 w7 from qq Bw4.out hb); clear Bw; have Bw := nw_; clear nw_; clear Bw2; have Bw2 := nw2_; clear nw2_; clear Bw4; have Bw4 := nw4_; clear nw4_; have Bw7 := qo (Below.refl w7.heap.size w7); have k_ := qo (qr Kga.out hb); clear Kga; have Kga := k_; clear k_; (try clear hcga_0 hfga_0 hcga_1 hfga_1 hcga_2 hfga_2 hcga_3 hfga_3); (try clear hcg0_0 hfg0_0 hcg0_1 hfg0_1); (try clear hcg2_0 hfg2_0 hcg2_1 hfg2_1 hcg2_2 hfg2_2 hcg2_3 hfg2_3); clear Kg0 Kg2; have Kg0 := qo (qr K0.out Bw2.out); have Kg2 := qo (qr K2.out Bw2.out); have hcg0_0 : w7.cell? ⟨g0, 0, none⟩ = some (.slice A0_0 l0_0.length c0_0) := (qs Kg0.out 0).trans rfl; have hcg0_1 : w7.cell? ⟨g0, 1, none⟩ = some (.slice A0_1 l0_1.length c0_1) := (qs Kg0.out 1).trans rfl; have hfg0_0 := qu Kg0.out 0; have hfg0_1 := qu Kg0.out 1; have hcg2_0 : w7.cell? ⟨g2, 0, none⟩ = some (.int .i64 0) := (qs Kg2.out 0).trans rfl; have hcg2_1 : w7.cell? ⟨g2, 1, none⟩ = some (.int .i64 0) := (qs Kg2.out 1).trans rfl; have hcg2_2 : w7.cell? ⟨g2, 2, none⟩ = some (.int .i64 0) := (qs Kg2.out 2).trans rfl; have hcg2_3 : w7.cell? ⟨g2, 3, none⟩ = some (.slice none 0 0) := (qs Kg2.out 3).trans rfl; have hfg2_0 := qu Kg2.out 0; have hfg2_1 := qu Kg2.out 1; have hfg2_2 := qu Kg2.out 2; have hfg2_3 := qu Kg2.out 3; have hcga_0 : w7.cell? ⟨ga, 0, none⟩ = some (.int .i64 x1) := (qs Kga.out 0).trans rfl; have hcga_1 : w7.cell? ⟨ga, 1, none⟩ = some (.int .i64 x2) := (qs Kga.out 1).trans rfl; have hcga_2 : w7.cell? ⟨ga, 2, none⟩ = some (.int .i64 x3) := (qs Kga.out 2).trans rfl; have hcga_3 : w7.cell? ⟨ga, 3, none⟩ = some (.slice Ax X4.length cx) := (qs Kga.out 3).trans rfl; have hfga_0 := qu Kga.out 0; have hfga_1 := qu Kga.out 1; have hfga_2 := qu Kga.out 2; have hfga_3 := qu Kga.out 3; clear hb) | ((with_reducible refine gate_dst (N := 6) rfl ?_); refine box_event ?hg (N := 6) ?hd (cs := #[.int .i64 0, .int .i64 0, .int .i64 0, .slice none 0 0]) (t := 24) ?hr ?_; (case hd => rfl); (case hg => rfl); (case hr => first | (go_simp; done) | (go_simp; rfl)); intro gb hg w8 hbox hb; have Ggb_w := qo (show w.heap.size ≤ gb from zcq); have Ggb_w2 := qo (show w2.heap.size ≤ gb from zc1); have Ggb_w4 := qo (show w4.heap.size ≤ gb from zcw); have Ggb_w7 := qo (show w7.heap.size ≤ gb from (by rw [hg]; exact (qp zca))); have nw_ := qo (show Below w.heap.size w w8 from qq zf hb); have nw2_ := qo (show Below w2.heap.size w2 w8 from qq zac hb); have nw4_ := qo (show Below w4.heap.size w4 w8 from qq zp hb); have nw7_ := qo (show Below w7.heap.size w7 w8 from qq zca hb); clear Bw; have Bw := nw_; clear nw_; clear Bw2; have Bw2 := nw2_; clear nw2_; clear Bw4; have Bw4 := nw4_; clear nw4_; clear Bw7; have Bw7 := nw7_; clear nw7_; have Kgb := qo hbox; clear hbox hg; have k_ := qo (qr Kga.out hb); clear Kga; have Kga := k_; clear k_; (try clear hcga_0 hfga_0 hcga_1 hfga_1 hcga_2 hfga_2 hcga_3 hfga_3); (try clear hcg0_0 hfg0_0 hcg0_1 hfg0_1); (try clear hcg2_0 hfg2_0 hcg2_1 hfg2_1 hcg2_2 hfg2_2 hcg2_3 hfg2_3); clear Kg0 Kg2; have Kg0 := qo (qr K0.out Bw2.out); have Kg2 := qo (qr K2.out Bw2.out); have hcg0_0 : w8.cell? ⟨g0, 0, none⟩ = some (.slice A0_0 l0_0.length c0_0) := (qs Kg0.out 0).trans rfl; have hcg0_1 : w8.cell? ⟨g0, 1, none⟩ = some (.slice A0_1 l0_1.length c0_1) := (qs Kg0.out 1).trans rfl; have hfg0_0 := qu Kg0.out 0; have hfg0_1 := qu Kg0.out 1; have hcg2_0 : w8.cell? ⟨g2, 0, none⟩ = some (.int .i64 0) := (qs Kg2.out 0).trans rfl; have hcg2_1 : w8.cell? ⟨g2, 1, none⟩ = some (.int .i64 0) := (qs Kg2.out 1).trans rfl; have hcg2_2 : w8.cell? ⟨g2, 2, none⟩ = some (.int .i64 0) := (qs Kg2.out 2).trans rfl; have hcg2_3 : w8.cell? ⟨g2, 3, none⟩ = some (.slice none 0 0) := (qs Kg2.out 3).trans rfl; have hfg2_0 := qu Kg2.out 0; have hfg2_1 := qu Kg2.out 1; have hfg2_2 := qu Kg2.out 2; have hfg2_3 := qu Kg2.out 3; have hcga_0 : w8.cell? ⟨ga, 0, none⟩ = some (.int .i64 x1) := (qs Kga.out 0).trans rfl; have hcga_1 : w8.cell? ⟨ga, 1, none⟩ = some (.int .i64 x2) := (qs Kga.out 1).trans rfl; have hcga_2 : w8.cell? ⟨ga, 2, none⟩ = some (.int .i64 x3) := (qs Kga.out 2).trans rfl; have hcga_3 : w8.cell? ⟨ga, 3, none⟩ = some (.slice Ax X4.length cx) := (qs Kga.out 3).trans rfl; have hfga_0 := qu Kga.out 0; have hfga_1 := qu Kga.out 1; have hfga_2 := qu Kga.out 2; have hfga_3 := qu Kga.out 3; have hcgb_0 : w8.cell? ⟨gb, 0, none⟩ = some (.int .i64 0) := (qs Kgb.out 0).trans rfl; have hcgb_1 : w8.cell? ⟨gb, 1, none⟩ = some (.int .i64 0) := (qs Kgb.out 1).trans rfl; have hcgb_2 : w8.cell? ⟨gb, 2, none⟩ = some (.int .i64 0) := (qs Kgb.out 2).trans rfl; have hcgb_3 : w8.cell? ⟨gb, 3, none⟩ = some (.slice none 0 0) := (qs Kgb.out 3).trans rfl; have hfgb_0 := qu Kgb.out 0; have hfgb_1 := qu Kgb.out 1; have hfgb_2 := qu Kgb.out 2; have hfgb_3 := qu Kgb.out 3; have ng0gb : g0 ≠ gb := Nat.ne_of_lt (Nat.lt_of_lt_of_le L0.out Ggb_w2.out); have ngbg0 : gb ≠ g0 := fun e_ => ng0gb e_.symm; have ng2gb : g2 ≠ gb := Nat.ne_of_lt (Nat.lt_of_lt_of_le L2.out Ggb_w2.out); have ngbg2 : gb ≠ g2 := fun e_ => ng2gb e_.symm; have ngagb : ga ≠ gb := Nat.ne_of_lt (Nat.lt_of_lt_of_le (Nat.lt_of_lt_of_le La.out M4.out) Ggb_w7.out); have ngbga : gb ≠ ga := fun e_ => ngagb e_.symm; clear hb))
    first
    | (have e_ : ((x1, x2, x3, X4, true) : Int × Int × Int × List (S60) × Bool) = (r1, r2, r3, r4, r5) := (if_pos (by first | exact ⟨trivial, .inl trivial⟩ | exact ⟨trivial, .inr HGE.out⟩)).symm.trans HP.out
       simp only [Prod.mk.injEq] at e_
       obtain ⟨rfl, rfl, rfl, rfl, rfl⟩ := e_
       refine bodyPost_ret (results_ct rfl _ _ g2 24 #[.int .i64 x1, .int .i64 x2, .int .i64 x3, .slice Ax X4.length cx] (0, 0) _ rfl (by refine blk_put (cs := #[.int .i64 x1, .int .i64 x2, .int .i64 x3, .slice none 0 0]) ?_ 3 _ rfl; refine blk_put (cs := #[.int .i64 x1, .int .i64 x2, .int .i64 0, .slice none 0 0]) ?_ 2 _ rfl; refine blk_put (cs := #[.int .i64 x1, .int .i64 0, .int .i64 0, .slice none 0 0]) ?_ 1 _ rfl; refine blk_put (cs := #[.int .i64 0, .int .i64 0, .int .i64 0, .slice none 0 0]) ?_ 0 _ rfl; refine blk_far ?_ ng2gb _; refine blk_far ?_ ng2gb _; refine blk_far ?_ ng2gb _; refine blk_far ?_ ng2gb _; exact Kg2.out) Try.underlying24 rfl ze) rfl ?_
       exact ⟨_, rfl, impl_BestMeta.row (fun k => k = g2 ∨ k = gb) HO1.out Bw4.out zbo (fun k h1 h2 h3 => h3.elim (fun e => by have := M2.out; omega) (fun e => by have := Ggb_w4.out; omega)) (by have := M2.out; have := Gg2_w.out; omega), za0⟩)
    | (have e_ : ((y1, y2, y3, Y4, true) : Int × Int × Int × List (S60) × Bool) = (r1, r2, r3, r4, r5) := (if_pos trivial).symm.trans ((if_neg zbt).symm.trans HP.out)
       simp only [Prod.mk.injEq] at e_
       obtain ⟨rfl, rfl, rfl, rfl, rfl⟩ := e_
       refine bodyPost_ret (results_ct rfl _ _ g2 24 #[.int .i64 y1, .int .i64 y2, .int .i64 y3, .slice Ay Y4.length cy] (0, 0) _ rfl (by refine blk_put (cs := #[.int .i64 y1, .int .i64 y2, .int .i64 y3, .slice none 0 0]) ?_ 3 _ rfl; refine blk_put (cs := #[.int .i64 y1, .int .i64 y2, .int .i64 0, .slice none 0 0]) ?_ 2 _ rfl; refine blk_put (cs := #[.int .i64 y1, .int .i64 0, .int .i64 0, .slice none 0 0]) ?_ 1 _ rfl; refine blk_put (cs := #[.int .i64 0, .int .i64 0, .int .i64 0, .slice none 0 0]) ?_ 0 _ rfl; refine blk_far ?_ ng2gb _; refine blk_far ?_ ng2gb _; refine blk_far ?_ ng2gb _; refine blk_far ?_ ng2gb _; exact Kg2.out) Try.underlying24 rfl ze) rfl ?_
       exact ⟨_, rfl, impl_BestMeta.row (fun k => k = g2 ∨ k = gb) HO2.out Bw7.out zbo (fun k h1 h2 h3 => h3.elim (fun e => by have := L2.out; have := N2.out; omega) (fun e => by have := Ggb_w7.out; omega)) (by have := L2.out; have := N2.out; have := Gg2_w.out; omega), za0⟩)
    | (have e_ : ((0, 0, 0, [], false) : Int × Int × Int × List (S60) × Bool) = (r1, r2, r3, r4, r5) := (if_neg (by intro h_; cases h_)).symm.trans ((if_neg zbt).symm.trans HP.out)
       simp only [Prod.mk.injEq] at e_
       obtain ⟨rfl, rfl, rfl, rfl, rfl⟩ := e_
       refine bodyPost_ret (results_ct rfl _ _ g2 24 #[.int .i64 0, .int .i64 0, .int .i64 0, .slice none 0 0] (0, 0) _ rfl (by refine blk_put (cs := #[.int .i64 0, .int .i64 0, .int .i64 0, .slice none 0 0]) ?_ 3 _ rfl; refine blk_put (cs := #[.int .i64 0, .int .i64 0, .int .i64 0, .slice none 0 0]) ?_ 2 _ rfl; refine blk_put (cs := #[.int .i64 0, .int .i64 0, .int .i64 0, .slice none 0 0]) ?_ 1 _ rfl; refine blk_put (cs := #[.int .i64 0, .int .i64 0, .int .i64 0, .slice none 0 0]) ?_ 0 _ rfl; refine blk_far ?_ ng2gb _; refine blk_far ?_ ng2gb _; refine blk_far ?_ ng2gb _; refine blk_far ?_ ng2gb _; exact Kg2.out) Try.underlying24 rfl ze) rfl ?_
       exact ⟨_, rfl, Kd.S_nil k60 60 _ _ _, za0⟩))

end Go.Proofs.Yteokilffbcbllaa.VFnExactBestMeta
