-- Written by a program of this repo (wip/myprint.py), over the kit's print; functions that the print does not take stand in it by hand-proved contracts.
import Derived.Test.YteokilffbcbllaaVFnExactReadMetax0
import Derived.Test.YteokilffbcbllaaVFnExactReadMetax9
import Derived.Test.YteokilffbcbllaaVFnExactReadMetax10
import Derived.Test.YteokilffbcbllaaVFnExactReadMetax13
namespace Go.Proofs.Yteokilffbcbllaa.VFnExactReadMeta
open Go.RowKit Go.Proofs.YteokilffbcbllaaW.PrintWords Go.Proofs.YteokilffbcbllaaW.PrintLast Go.Proofs.YteokilffbcbllaaW.PrintMore
attribute [local go_sem] max2_int min2_int max_two min_two max_three min_three max_four min_four   -- for this text's walks alone
attribute [local go_sem high] str_leq str_gtr str_geq str_lss
set_option linter.unusedVariables false
set_option linter.unusedSimpArgs false

/-! ### impl_ReadMeta: function 7 -/
mutual
def impl_ReadMeta.l0 : Nat → ByteArray → ByteArray → Int → Int → ByteArray → Int → Bool → Int → Int → Int → List (S60) → Option (Int × Int × Int × (List (S60)) × Bool)
 | 0, _, _, _, _, _, _, _, _, _, _, _ => none
 | k + 1, x0, x4, x31, x32, x274000, x274001, x274002, x279000, x279001, x279002, x279003 => if x32 < x31 then ((impl_reader_num.f k x274000 x274001 x274002 1000000000).bind fun bt293 => ((impl_reader_num.f k bt293.2.1 bt293.2.2.1 bt293.2.2.2 40).bind fun bt298 => (impl_ReadMeta.l1 k x0 x4 x31 x32 bt298.1 0 bt298.2.1 bt298.2.2.1 bt298.2.2.2 x279000 x279001 x279002 x279003 bt293.1 ([] : List Int)))) else ((impl_MetaText.f k x279000 x279001 x279002 x279003).bind fun bt291 => (if x274002 = true then (some (0, 0, 0, ([] : List (S60)), false)) else (if x274001 = (x4.size : Int) then (if bt291.2 = true then (if bt291.1.toList = x0.toList then (some (x279000, x279001, x279002, x279003, true)) else (some (0, 0, 0, ([] : List (S60)), false))) else (some (0, 0, 0, ([] : List (S60)), false))) else (some (0, 0, 0, ([] : List (S60)), false)))))
def impl_ReadMeta.l1 : Nat → ByteArray → ByteArray → Int → Int → Int → Int → ByteArray → Int → Bool → Int → Int → Int → List (S60) → Int → List Int → Option (Int × Int × Int × (List (S60)) × Bool)
 | 0, _, _, _, _, _, _, _, _, _, _, _, _, _, _, _ => none
 | k + 1, x0, x4, x31, x32, x38, x39, x274000, x274001, x274002, x279000, x279001, x279002, x279003, x298000, x298001 => if x39 < x38 then ((impl_reader_num.f k x274000 x274001 x274002 1000000000).bind fun bt302 => (if x298001.length < 17592186044416 then (impl_ReadMeta.l1 k x0 x4 x31 x32 x38 (wrap64 (x39 + 1)) bt302.2.1 bt302.2.2.1 bt302.2.2.2 x279000 x279001 x279002 x279003 x298000 (x298001 ++ [bt302.1])) else (none))) else (if x279003.length < 4398046511104 then (impl_ReadMeta.l0 k x0 x4 x31 (wrap64 (x32 + 1)) x274000 x274001 x274002 x279000 x279001 x279002 (x279003 ++ [(⟨x298000, x298001⟩ : S60)])) else (none))
end
def impl_ReadMeta.f (k : Nat) (a0 : ByteArray) : Option (Int × Int × Int × (List (S60)) × Bool) := (impl_Unsealed.f k a0).bind fun bt271 => ((impl_reader_num.f k bt271.1 0 (!bt271.2) 1000000000).bind fun bt274 => ((impl_reader_num.f k bt274.2.1 bt274.2.2.1 bt274.2.2.2 1000000000).bind fun bt279 => ((impl_reader_num.f k bt279.2.1 bt279.2.2.1 bt279.2.2.2 1000000000).bind fun bt283 => ((impl_reader_num.f k bt283.2.1 bt283.2.2.1 bt283.2.2.2 20).bind fun bt287 => (impl_ReadMeta.l0 k a0 bt271.1 bt287.1 0 bt287.2.1 bt287.2.2.1 bt287.2.2.2 bt274.1 bt279.1 bt283.1 ([] : List (S60)))))))
theorem impl_ReadMeta.mono_l : ∀ k, (∀ y0 y1 y2 y3 y4 y5 y6 y7 y8 y9 y10, LeO (impl_ReadMeta.l0 k y0 y1 y2 y3 y4 y5 y6 y7 y8 y9 y10) (impl_ReadMeta.l0 (k + 1) y0 y1 y2 y3 y4 y5 y6 y7 y8 y9 y10)) ∧ (∀ y0 y1 y2 y3 y4 y5 y6 y7 y8 y9 y10 y11 y12 y13 y14, LeO (impl_ReadMeta.l1 k y0 y1 y2 y3 y4 y5 y6 y7 y8 y9 y10 y11 y12 y13 y14) (impl_ReadMeta.l1 (k + 1) y0 y1 y2 y3 y4 y5 y6 y7 y8 y9 y10 y11 y12 y13 y14))
 | 0 => ⟨fun _ _ _ _ _ _ _ _ _ _ _ r h => by simp [impl_ReadMeta.l0] at h, fun _ _ _ _ _ _ _ _ _ _ _ _ _ _ _ r h => by simp [impl_ReadMeta.l1] at h⟩
 | k + 1 => by
  obtain ⟨ih0, ih1⟩ := impl_ReadMeta.mono_l k
  refine ⟨?_, ?_⟩
  ·intro y0 y1 y2 y3 y4 y5 y6 y7 y8 y9 y10
   unfold impl_ReadMeta.l0
   repeat' first
   | (with_reducible exact ih0 _ _ _ _ _ _ _ _ _ _ _)
   | (with_reducible exact ih1 _ _ _ _ _ _ _ _ _ _ _ _ _ _ _)
   | (with_reducible exact impl_MetaText.mono _ _ _ _ _)
   | (with_reducible exact impl_Unsealed.mono _ _)
   | (with_reducible exact impl_reader_num.mono _ _ _ _ _)
   | (with_reducible exact LeO.refl _)
   | (with_reducible exact LeO.none _)
   | (with_reducible refine LeO.ite ?_ ?_)
   | (with_reducible refine LeO.bind ?_ (fun _ => ?_))
   | exact ih0 _ _ _ _ _ _ _ _ _ _ _
   | exact ih1 _ _ _ _ _ _ _ _ _ _ _ _ _ _ _
   | exact impl_MetaText.mono _ _ _ _ _
   | exact impl_Unsealed.mono _ _
   | exact impl_reader_num.mono _ _ _ _ _
   | exact LeO.none _
   | refine LeO.ite ?_ ?_
   | refine LeO.bind ?_ (fun _ => ?_)
  ·intro y0 y1 y2 y3 y4 y5 y6 y7 y8 y9 y10 y11 y12 y13 y14
   unfold impl_ReadMeta.l1
   repeat' first
   | (with_reducible exact ih0 _ _ _ _ _ _ _ _ _ _ _)
   | (with_reducible exact ih1 _ _ _ _ _ _ _ _ _ _ _ _ _ _ _)
   | (with_reducible exact impl_MetaText.mono _ _ _ _ _)
   | (with_reducible exact impl_Unsealed.mono _ _)
   | (with_reducible exact impl_reader_num.mono _ _ _ _ _)
   | (with_reducible exact LeO.refl _)
   | (with_reducible exact LeO.none _)
   | (with_reducible refine LeO.ite ?_ ?_)
   | (with_reducible refine LeO.bind ?_ (fun _ => ?_))
   | exact ih0 _ _ _ _ _ _ _ _ _ _ _
   | exact ih1 _ _ _ _ _ _ _ _ _ _ _ _ _ _ _
   | exact impl_MetaText.mono _ _ _ _ _
   | exact impl_Unsealed.mono _ _
   | exact impl_reader_num.mono _ _ _ _ _
   | exact LeO.none _
   | refine LeO.ite ?_ ?_
   | refine LeO.bind ?_ (fun _ => ?_)
theorem impl_ReadMeta.mono : ∀ a0 k, LeO (impl_ReadMeta.f k a0) (impl_ReadMeta.f (k + 1) a0) := by
 intro a0 k
 obtain ⟨ih0, ih1⟩ := impl_ReadMeta.mono_l k
 unfold impl_ReadMeta.f
 repeat' first
   | (with_reducible exact ih0 _ _ _ _ _ _ _ _ _ _ _)
   | (with_reducible exact ih1 _ _ _ _ _ _ _ _ _ _ _ _ _ _ _)
   | (with_reducible exact impl_MetaText.mono _ _ _ _ _)
   | (with_reducible exact impl_Unsealed.mono _ _)
   | (with_reducible exact impl_reader_num.mono _ _ _ _ _)
   | (with_reducible exact LeO.refl _)
   | (with_reducible exact LeO.none _)
   | (with_reducible refine LeO.ite ?_ ?_)
   | (with_reducible refine LeO.bind ?_ (fun _ => ?_))
   | exact ih0 _ _ _ _ _ _ _ _ _ _ _
   | exact ih1 _ _ _ _ _ _ _ _ _ _ _ _ _ _ _
   | exact impl_MetaText.mono _ _ _ _ _
   | exact impl_Unsealed.mono _ _
   | exact impl_reader_num.mono _ _ _ _ _
   | exact LeO.none _
   | refine LeO.ite ?_ ?_
   | refine LeO.bind ?_ (fun _ => ?_)
def impl_ReadMeta.T11 : Bool × List (List Nat × List Nat) := (true, [([], []), ([0], [0]), ([], []), ([2], [2]), ([3], [3]), ([1, 4, 3], [1, 4]), ([0, 1, 2, 3, 4, 5], []), ([6, 5, 5, 0, 1, 2, 3, 4, 5], [5, 6])])
def impl_ReadMeta.B11 : List Nat := [0, 1, 0, 4, 12, 31, 63, 127]
theorem impl_ReadMeta.tab11 : rtab .any (opsOf Try.f7 11) = impl_ReadMeta.T11 := by kernel_rfl
theorem impl_ReadMeta.bits11 : waitsOk impl_ReadMeta.T11.2 impl_ReadMeta.B11 = true := by kernel_rfl
set_option maxHeartbeats 8000000 in
set_option maxRecDepth 100000 in
theorem impl_ReadMeta.calls (k : Nat) (a0 : ByteArray) (r1 : Int) (r2 : Int) (r3 : Int) (r4 : List (S60)) (r5 : Bool) (w : World) (h : impl_ReadMeta.f k a0 = some (r1, r2, r3, r4, r5)) :
  Calls Try.prog 7 #[.string a0] w fun e w' => ∃ v3_ : Value, e = .returned (.tuple #[.agg #[.int .i64 r1, .int .i64 r2, .int .i64 r3, v3_], .bool r5]) ∧ Kd.S k60 60 w' w.heap.size (fun _ => True) v3_ r4 ∧ Below w.heap.size w w' := by
 have hu24 := Try.underlying24
 have hu63 := Try.underlying63
 have hu60 := Try.underlying60
 have HB := zj (Below.refl w.heap.size w)
 have H : ((impl_Unsealed.f k a0).bind fun bt271 => ((impl_reader_num.f k bt271.1 0 (!bt271.2) 1000000000).bind fun bt274 => ((impl_reader_num.f k bt274.2.1 bt274.2.2.1 bt274.2.2.2 1000000000).bind fun bt279 => ((impl_reader_num.f k bt279.2.1 bt279.2.2.1 bt279.2.2.2 1000000000).bind fun bt283 => ((impl_reader_num.f k bt283.2.1 bt283.2.2.1 bt283.2.2.2 20).bind fun bt287 => (impl_ReadMeta.l0 k a0 bt271.1 bt287.1 0 bt287.2.1 bt287.2.2.1 bt287.2.2.2 bt274.1 bt279.1 bt283.1 ([] : List (S60)))))))) = some (r1, r2, r3, r4, r5) := h
 clear h
 replace H := Option.bind_eq_some_iff.mp H
 obtain ⟨⟨t271, t272⟩, A20, H⟩ := H
 replace H : ((impl_reader_num.f k t271 0 (!t272) 1000000000).bind fun bt274 => ((impl_reader_num.f k bt274.2.1 bt274.2.2.1 bt274.2.2.2 1000000000).bind fun bt279 => ((impl_reader_num.f k bt279.2.1 bt279.2.2.1 bt279.2.2.2 1000000000).bind fun bt283 => ((impl_reader_num.f k bt283.2.1 bt283.2.2.1 bt283.2.2.2 20).bind fun bt287 => (impl_ReadMeta.l0 k a0 t271 bt287.1 0 bt287.2.1 bt287.2.2.1 bt287.2.2.2 bt274.1 bt279.1 bt283.1 ([] : List (S60))))))) = some (r1, r2, r3, r4, r5) := H
 have A2 := zj A20
 clear A20
 replace H := Option.bind_eq_some_iff.mp H
 obtain ⟨⟨t274, t275, t276, t277⟩, A30, H⟩ := H
 replace H : ((impl_reader_num.f k t275 t276 t277 1000000000).bind fun bt279 => ((impl_reader_num.f k bt279.2.1 bt279.2.2.1 bt279.2.2.2 1000000000).bind fun bt283 => ((impl_reader_num.f k bt283.2.1 bt283.2.2.1 bt283.2.2.2 20).bind fun bt287 => (impl_ReadMeta.l0 k a0 t271 bt287.1 0 bt287.2.1 bt287.2.2.1 bt287.2.2.2 t274 bt279.1 bt283.1 ([] : List (S60)))))) = some (r1, r2, r3, r4, r5) := H
 have A3 := zj A30
 clear A30
 replace H := Option.bind_eq_some_iff.mp H
 obtain ⟨⟨t279, t280, t281, t282⟩, A40, H⟩ := H
 replace H : ((impl_reader_num.f k t280 t281 t282 1000000000).bind fun bt283 => ((impl_reader_num.f k bt283.2.1 bt283.2.2.1 bt283.2.2.2 20).bind fun bt287 => (impl_ReadMeta.l0 k a0 t271 bt287.1 0 bt287.2.1 bt287.2.2.1 bt287.2.2.2 t274 t279 bt283.1 ([] : List (S60))))) = some (r1, r2, r3, r4, r5) := H
 have A4 := zj A40
 clear A40
 replace H := Option.bind_eq_some_iff.mp H
 obtain ⟨⟨t283, t284, t285, t286⟩, A50, H⟩ := H
 replace H : ((impl_reader_num.f k t284 t285 t286 20).bind fun bt287 => (impl_ReadMeta.l0 k a0 t271 bt287.1 0 bt287.2.1 bt287.2.2.1 bt287.2.2.2 t274 t279 t283 ([] : List (S60)))) = some (r1, r2, r3, r4, r5) := H
 have A5 := zj A50
 clear A50
 replace H := Option.bind_eq_some_iff.mp H
 obtain ⟨⟨t287, t288, t289, t290⟩, A60, H⟩ := H
 replace H : (impl_ReadMeta.l0 k a0 t271 t287 0 t288 t289 t290 t274 t279 t283 ([] : List (S60))) = some (r1, r2, r3, r4, r5) := H
 have A6 := zj A60
 clear A60
 have H' := zj H
 clear H
 go_enter Try.func7, Try.ntmps7
 go_wp2_with (first | ((with_reducible refine gate_dst (N := 2) rfl ?_); (try (refine gate_guard (by rfl) ?_; dsimp only)); refine box_event ?hg (N := 2) ?hd (cs := #[.int .i64 0, .int .i64 0, .int .i64 0, .slice none 0 0]) (t := 24) ?hr ?_; (case hd => rfl); (case hg => rfl); (case hr => first | (go_simp; done) | (go_simp; rfl)); intro gb270 hg w7 hbox hb; have n0_ := zj (zl (by repeat (first | (with_reducible first | exact HB.out | apply zg | apply zh | apply zi) | exact HB.out)) hb); have n1_ := zj (hbox); have n2_ := zj ((by rw [hg]; exact (zk (by repeat (first | (with_reducible first | exact HB.out | apply zg | apply zh | apply zi) | exact HB.out))) : w.heap.size ≤ gb270)); have n3_ := zj ((by rw [hg]; exact (zk (by repeat (first | (with_reducible first | exact HB.out | apply zg | apply zh | apply zi) | exact HB.out))) : w.heap.size ≤ gb270)); clear HB; have HB := n0_; have BK270 := n1_; have GW270 := n2_; have GE270 := n3_; clear n0_ n1_ n2_ n3_; clear hb hbox hg) | ((with_reducible refine gate_callee (f := 27) rfl ?_); refine goesL_ (some 13) rfl rfl Try.func27 (by kernel_rfl) rfl #[.string a0] rfl (by (try simp only [List.map_toArray, List.map_cons, List.map_nil]); first | done | rfl | (simp only [List.length_drop, List.length_take]; rfl)) ?_; (with_reducible refine (impl_Unsealed.calls k a0 t271 t272 _ A2.out).mono ?_); rintro e w8 ⟨rfl, hb⟩; refine ⟨_, rfl, ?_⟩; have n0_ := zj (zm (g := gb270) (o := .cells #[.int .i64 0, .int .i64 0, .int .i64 0, .slice none 0 0] 24 (0, 0)) (by (with_reducible repeat (first | refine za ?_ _ | refine zb ?_ | refine zc ?_ _)); exact BK270.out) hb); have n1_ := zj (zl (by repeat (first | (with_reducible first | exact HB.out | apply zg | apply zh | apply zi | refine zo ?_ GE270.out) | exact HB.out)) hb); clear BK270; clear HB; have BK270 := n0_; have HB := n1_; clear n0_ n1_; (try clear hb); (try clear hb2); (try clear hk); (try clear hi)) | ((with_reducible refine gate_dst (N := 20) rfl ?_); (try (refine gate_guard (by rfl) ?_; dsimp only)); refine box_event ?hg (N := 20) ?hd (cs := #[.string t271, .int .i64 0, .bool (!t272)]) (t := 63) ?hr ?_; (case hd => rfl); (case hg => rfl); (case hr => first | (go_simp; done) | (go_simp; rfl)); intro gb273 hg w9 hbox hb; have n0_ := zj (zm (g := gb270) (o := .cells #[.int .i64 0, .int .i64 0, .int .i64 0, .slice none 0 0] 24 (0, 0)) (by (with_reducible repeat (first | refine za ?_ _ | refine zb ?_ | refine zc ?_ _)); exact BK270.out) hb); have n1_ := zj (zl (by repeat (first | (with_reducible first | exact HB.out | apply zg | apply zh | apply zi | refine zo ?_ GE270.out) | exact HB.out)) hb); have n2_ := zj ((show IsS63 w w9 gb273 t271 0 (!t272) from ⟨hbox, (by rw [hg]; exact (zk (by repeat (first | (with_reducible first | exact HB.out | apply zg | apply zh | apply zi | refine zo ?_ GE270.out) | exact HB.out))) : w.heap.size ≤ gb273)⟩)); have n3_ := zj ((by rw [hg]; exact (zk (by repeat (first | (with_reducible first | exact HB.out | apply zg | apply zh | apply zi | refine zo ?_ GE270.out) | exact HB.out))) : w.heap.size ≤ gb273)); have n4_ := zj ((by rw [hg]; exact (zk (by repeat (first | (with_reducible first | exact HB.out | apply zg | apply zh | apply zi | refine zo ?_ GE270.out) | exact HB.out))) : w.heap.size ≤ gb273)); have n5_ := zj ((by rw [hg]; exact Nat.ne_of_lt (blk_lt (g := gb270) (o := .cells #[.int .i64 0, .int .i64 0, .int .i64 0, .slice none 0 0] 24 (0, 0)) (by (with_reducible repeat (first | refine za ?_ _ | refine zb ?_ | refine zc ?_ _)); exact BK270.out)) : gb270 ≠ gb273)); have n6_ := zj ((by rw [hg]; exact Nat.ne_of_gt (blk_lt (g := gb270) (o := .cells #[.int .i64 0, .int .i64 0, .int .i64 0, .slice none 0 0] 24 (0, 0)) (by (with_reducible repeat (first | refine za ?_ _ | refine zb ?_ | refine zc ?_ _)); exact BK270.out)) : gb273 ≠ gb270)); clear BK270; clear HB; have BK270 := n0_; have HB := n1_; have HI273 := n2_; have GW273 := n3_; have GE273 := n4_; have NB270_273 := n5_; have NB273_270 := n6_; clear n0_ n1_ n2_ n3_ n4_ n5_ n6_; clear hb hbox hg) | ((with_reducible refine gate_callee (f := 28) rfl ?_); refine goesL_ (some 22) rfl rfl Try.func28 (by kernel_rfl) rfl #[.pointer (some ⟨gb273, 0, none⟩), .int .i64 1000000000] rfl (by (try simp only [List.map_toArray, List.map_cons, List.map_nil]); first | done | rfl | (simp only [List.length_drop, List.length_take]; rfl)) ?_; (with_reducible refine (impl_reader_num.calls k gb273 t271 0 (!t272) 1000000000 t274 t275 t276 t277 w _ ?side1 ?side2 A3.out).mono ?_); (case side1 => repeat (first | (with_reducible first | exact HI273.out | apply IsS63.alloc | apply IsS63.drewN | apply IsS63.drew | apply IsS63.set_0 | apply IsS63.set_1 | apply IsS63.set_2 | apply IsS63.far (hne := NB273_270.out)) | apply IsS63.far (hne := NB273_270.out) | exact HI273.out)); (case side2 => repeat (first | (with_reducible first | exact HB.out | apply zg | apply zh | apply zi | refine zo ?_ (IsS63.ge HI273.out) | refine zo ?_ GE270.out) | exact HB.out)); rintro e w10 ⟨rfl, hi, hb, hk⟩; refine ⟨_, rfl, ?_⟩; have n0_ := zj (KeepBut.blk hk (g' := gb270) (o := .cells #[.int .i64 0, .int .i64 0, .int .i64 0, .slice none 0 0] 24 (0, 0)) (by (with_reducible repeat (first | refine za ?_ _ | refine zb ?_ | refine zc ?_ _)); exact BK270.out) NB270_273.out (by simp)); have n1_ := zj (hb); have n2_ := zj (hi); clear BK270; clear HB; clear HI273; have BK270 := n0_; have HB := n1_; have HI273 := n2_; clear n0_ n1_ n2_; (try clear hb); (try clear hb2); (try clear hk); (try clear hi)) | ((with_reducible refine gate_dst (N := 7) rfl ?_); (try (refine gate_guard (by rfl) ?_; dsimp only)); refine box_event ?hg (N := 7) ?hd (cs := #[.int .i64 0, .int .i64 0, .int .i64 0, .slice none 0 0]) (t := 24) ?hr ?_; (case hd => rfl); (case hg => rfl); (case hr => first | (go_simp; done) | (go_simp; rfl)); intro gb278 hg w11 hbox hb; have n0_ := zj (zm (g := gb270) (o := .cells #[.int .i64 0, .int .i64 0, .int .i64 0, .slice none 0 0] 24 (0, 0)) (by (with_reducible repeat (first | refine za ?_ _ | refine zb ?_ | refine zc ?_ _)); exact BK270.out) hb); have n1_ := zj (IsS63.below (by repeat (first | (with_reducible first | exact HI273.out | apply IsS63.alloc | apply IsS63.drewN | apply IsS63.drew | apply IsS63.set_0 | apply IsS63.set_1 | apply IsS63.set_2 | apply IsS63.far (hne := NB273_270.out)) | apply IsS63.far (hne := NB273_270.out) | exact HI273.out)) hb); have n2_ := zj (zl (by repeat (first | (with_reducible first | exact HB.out | apply zg | apply zh | apply zi | refine zo ?_ (IsS63.ge HI273.out) | refine zo ?_ GE270.out) | exact HB.out)) hb); have n3_ := zj (hbox); have n4_ := zj ((by rw [hg]; exact (zk (by repeat (first | (with_reducible first | exact HB.out | apply zg | apply zh | apply zi | refine zo ?_ (IsS63.ge HI273.out) | refine zo ?_ GE270.out) | exact HB.out))) : w.heap.size ≤ gb278)); have n5_ := zj ((by rw [hg]; exact (zk (by repeat (first | (with_reducible first | exact HB.out | apply zg | apply zh | apply zi | refine zo ?_ (IsS63.ge HI273.out) | refine zo ?_ GE270.out) | exact HB.out))) : w.heap.size ≤ gb278)); have n6_ := zj ((by rw [hg]; exact Nat.ne_of_lt (blk_lt (g := gb270) (o := .cells #[.int .i64 0, .int .i64 0, .int .i64 0, .slice none 0 0] 24 (0, 0)) (by (with_reducible repeat (first | refine za ?_ _ | refine zb ?_ | refine zc ?_ _)); exact BK270.out)) : gb270 ≠ gb278)); have n7_ := zj ((by rw [hg]; exact Nat.ne_of_gt (blk_lt (g := gb270) (o := .cells #[.int .i64 0, .int .i64 0, .int .i64 0, .slice none 0 0] 24 (0, 0)) (by (with_reducible repeat (first | refine za ?_ _ | refine zb ?_ | refine zc ?_ _)); exact BK270.out)) : gb278 ≠ gb270)); have n8_ := zj ((by rw [hg]; exact Nat.ne_of_lt (IsS63.lt (show IsS63 w _ gb273 t275 t276 t277 from by repeat (first | (with_reducible first | exact HI273.out | apply IsS63.alloc | apply IsS63.drewN | apply IsS63.drew | apply IsS63.set_0 | apply IsS63.set_1 | apply IsS63.set_2 | apply IsS63.far (hne := NB273_270.out)) | apply IsS63.far (hne := NB273_270.out) | exact HI273.out))) : gb273 ≠ gb278)); have n9_ := zj ((by rw [hg]; exact Nat.ne_of_gt (IsS63.lt (show IsS63 w _ gb273 t275 t276 t277 from by repeat (first | (with_reducible first | exact HI273.out | apply IsS63.alloc | apply IsS63.drewN | apply IsS63.drew | apply IsS63.set_0 | apply IsS63.set_1 | apply IsS63.set_2 | apply IsS63.far (hne := NB273_270.out)) | apply IsS63.far (hne := NB273_270.out) | exact HI273.out))) : gb278 ≠ gb273)); clear BK270; clear HI273; clear HB; have BK270 := n0_; have HI273 := n1_; have HB := n2_; have BK278 := n3_; have GW278 := n4_; have GE278 := n5_; have NB270_278 := n6_; have NB278_270 := n7_; have NB273_278 := n8_; have NB278_273 := n9_; clear n0_ n1_ n2_ n3_ n4_ n5_ n6_ n7_ n8_ n9_; clear hb hbox hg; have hnb12 := NB278_270.out; have hnc12 := NB270_278.out; have hnb13 := NB278_273.out; have hnc13 := NB273_278.out; have hcz14_0 : w11.cell? ⟨gb278, 0, none⟩ = some (.int .i64 0) := (zn BK278.out 0).trans rfl; have hcz14_1 : w11.cell? ⟨gb278, 1, none⟩ = some (.int .i64 0) := (zn BK278.out 1).trans rfl; have hcz14_2 : w11.cell? ⟨gb278, 2, none⟩ = some (.int .i64 0) := (zn BK278.out 2).trans rfl; have hcz14_3 : w11.cell? ⟨gb278, 3, none⟩ = some (.slice none 0 0) := (zn BK278.out 3).trans rfl; have hfz14_0 := zp BK278.out 0; have hfz14_1 := zp BK278.out 1; have hfz14_2 := zp BK278.out 2; have hfz14_3 := zp BK278.out 3) | ((with_reducible refine gate_callee (f := 28) rfl ?_); refine goesL_ (some 25) rfl rfl Try.func28 (by kernel_rfl) rfl #[.pointer (some ⟨gb273, 0, none⟩), .int .i64 1000000000] rfl (by (try simp only [List.map_toArray, List.map_cons, List.map_nil]); first | done | rfl | (simp only [List.length_drop, List.length_take]; rfl)) ?_; (with_reducible refine (impl_reader_num.calls k gb273 t275 t276 t277 1000000000 t279 t280 t281 t282 w _ ?side1 ?side2 A4.out).mono ?_); (case side1 => repeat (first | (with_reducible first | exact HI273.out | apply IsS63.alloc | apply IsS63.drewN | apply IsS63.drew | apply IsS63.set_0 | apply IsS63.set_1 | apply IsS63.set_2 | apply IsS63.far (hne := NB273_270.out) | apply IsS63.far (hne := NB273_278.out)) | apply IsS63.far (hne := NB273_270.out) | apply IsS63.far (hne := NB273_278.out) | exact HI273.out)); (case side2 => repeat (first | (with_reducible first | exact HB.out | apply zg | apply zh | apply zi | refine zo ?_ (IsS63.ge HI273.out) | refine zo ?_ GE270.out | refine zo ?_ GE278.out) | exact HB.out)); rintro e w15 ⟨rfl, hi, hb, hk⟩; refine ⟨_, rfl, ?_⟩; have n0_ := zj (KeepBut.blk hk (g' := gb270) (o := .cells #[.int .i64 0, .int .i64 0, .int .i64 0, .slice none 0 0] 24 (0, 0)) (by (with_reducible repeat (first | refine za ?_ _ | refine zb ?_ | refine zc ?_ _)); refine blk_far ?_ NB270_278.out _; (with_reducible repeat (first | refine za ?_ _ | refine zb ?_ | refine zc ?_ _)); refine blk_far ?_ NB270_278.out _; (with_reducible repeat (first | refine za ?_ _ | refine zb ?_ | refine zc ?_ _)); refine blk_far ?_ NB270_278.out _; (with_reducible repeat (first | refine za ?_ _ | refine zb ?_ | refine zc ?_ _)); refine blk_far ?_ NB270_278.out _; (with_reducible repeat (first | refine za ?_ _ | refine zb ?_ | refine zc ?_ _)); exact BK270.out) NB270_273.out (by simp)); have n1_ := zj (KeepBut.blk hk (g' := gb278) (o := .cells #[.int .i64 t274, .int .i64 0, .int .i64 0, .slice none 0 0] 24 (0, 0)) (by (with_reducible repeat (first | refine za ?_ _ | refine zb ?_ | refine zc ?_ _)); refine blk_put (cs := #[.int .i64 t274, .int .i64 0, .int .i64 0, .slice none 0 0]) ?_ 3 _ rfl; (with_reducible repeat (first | refine za ?_ _ | refine zb ?_ | refine zc ?_ _)); refine blk_put (cs := #[.int .i64 t274, .int .i64 0, .int .i64 0, .slice none 0 0]) ?_ 2 _ rfl; (with_reducible repeat (first | refine za ?_ _ | refine zb ?_ | refine zc ?_ _)); refine blk_put (cs := #[.int .i64 t274, .int .i64 0, .int .i64 0, .slice none 0 0]) ?_ 1 _ rfl; (with_reducible repeat (first | refine za ?_ _ | refine zb ?_ | refine zc ?_ _)); refine blk_put (cs := #[.int .i64 0, .int .i64 0, .int .i64 0, .slice none 0 0]) ?_ 0 _ rfl; (with_reducible repeat (first | refine za ?_ _ | refine zb ?_ | refine zc ?_ _)); exact BK278.out) NB278_273.out (by simp)); have n2_ := zj (hb); have n3_ := zj (hi); clear BK270; clear BK278; clear HB; clear HI273; have BK270 := n0_; have BK278 := n1_; have HB := n2_; have HI273 := n3_; clear n0_ n1_ n2_ n3_; (try clear hb); (try clear hb2); (try clear hk); (try clear hi); have hcz16_0 : w15.cell? ⟨gb278, 0, none⟩ = some (.int .i64 t274) := (zn BK278.out 0).trans rfl; have hcz16_1 : w15.cell? ⟨gb278, 1, none⟩ = some (.int .i64 0) := (zn BK278.out 1).trans rfl; have hcz16_2 : w15.cell? ⟨gb278, 2, none⟩ = some (.int .i64 0) := (zn BK278.out 2).trans rfl; have hcz16_3 : w15.cell? ⟨gb278, 3, none⟩ = some (.slice none 0 0) := (zn BK278.out 3).trans rfl; have hfz16_0 := zp BK278.out 0; have hfz16_1 := zp BK278.out 1; have hfz16_2 := zp BK278.out 2; have hfz16_3 := zp BK278.out 3) | ((with_reducible refine gate_callee (f := 28) rfl ?_); refine goesL_ (some 28) rfl rfl Try.func28 (by kernel_rfl) rfl #[.pointer (some ⟨gb273, 0, none⟩), .int .i64 1000000000] rfl (by (try simp only [List.map_toArray, List.map_cons, List.map_nil]); first | done | rfl | (simp only [List.length_drop, List.length_take]; rfl)) ?_; (with_reducible refine (impl_reader_num.calls k gb273 t280 t281 t282 1000000000 t283 t284 t285 t286 w _ ?side1 ?side2 A5.out).mono ?_); (case side1 => repeat (first | (with_reducible first | exact HI273.out | apply IsS63.alloc | apply IsS63.drewN | apply IsS63.drew | apply IsS63.set_0 | apply IsS63.set_1 | apply IsS63.set_2 | apply IsS63.far (hne := NB273_270.out) | apply IsS63.far (hne := NB273_278.out)) | apply IsS63.far (hne := NB273_270.out) | apply IsS63.far (hne := NB273_278.out) | exact HI273.out)); (case side2 => repeat (first | (with_reducible first | exact HB.out | apply zg | apply zh | apply zi | refine zo ?_ (IsS63.ge HI273.out) | refine zo ?_ GE270.out | refine zo ?_ GE278.out) | exact HB.out)); rintro e w17 ⟨rfl, hi, hb, hk⟩; refine ⟨_, rfl, ?_⟩; have n0_ := zj (KeepBut.blk hk (g' := gb270) (o := .cells #[.int .i64 0, .int .i64 0, .int .i64 0, .slice none 0 0] 24 (0, 0)) (by (with_reducible repeat (first | refine za ?_ _ | refine zb ?_ | refine zc ?_ _)); refine blk_far ?_ NB270_278.out _; (with_reducible repeat (first | refine za ?_ _ | refine zb ?_ | refine zc ?_ _)); exact BK270.out) NB270_273.out (by simp)); have n1_ := zj (KeepBut.blk hk (g' := gb278) (o := .cells #[.int .i64 t274, .int .i64 t279, .int .i64 0, .slice none 0 0] 24 (0, 0)) (by (with_reducible repeat (first | refine za ?_ _ | refine zb ?_ | refine zc ?_ _)); refine blk_put (cs := #[.int .i64 t274, .int .i64 0, .int .i64 0, .slice none 0 0]) ?_ 1 _ rfl; (with_reducible repeat (first | refine za ?_ _ | refine zb ?_ | refine zc ?_ _)); exact BK278.out) NB278_273.out (by simp)); have n2_ := zj (hb); have n3_ := zj (hi); clear BK270; clear BK278; clear HB; clear HI273; have BK270 := n0_; have BK278 := n1_; have HB := n2_; have HI273 := n3_; clear n0_ n1_ n2_ n3_; (try clear hb); (try clear hb2); (try clear hk); (try clear hi); have hcz18_0 : w17.cell? ⟨gb278, 0, none⟩ = some (.int .i64 t274) := (zn BK278.out 0).trans rfl; have hcz18_1 : w17.cell? ⟨gb278, 1, none⟩ = some (.int .i64 t279) := (zn BK278.out 1).trans rfl; have hcz18_2 : w17.cell? ⟨gb278, 2, none⟩ = some (.int .i64 0) := (zn BK278.out 2).trans rfl; have hcz18_3 : w17.cell? ⟨gb278, 3, none⟩ = some (.slice none 0 0) := (zn BK278.out 3).trans rfl; have hfz18_0 := zp BK278.out 0; have hfz18_1 := zp BK278.out 1; have hfz18_2 := zp BK278.out 2; have hfz18_3 := zp BK278.out 3) | ((with_reducible refine gate_callee (f := 28) rfl ?_); refine goesL_ (some 31) rfl rfl Try.func28 (by kernel_rfl) rfl #[.pointer (some ⟨gb273, 0, none⟩), .int .i64 20] rfl (by (try simp only [List.map_toArray, List.map_cons, List.map_nil]); first | done | rfl | (simp only [List.length_drop, List.length_take]; rfl)) ?_; (with_reducible refine (impl_reader_num.calls k gb273 t284 t285 t286 20 t287 t288 t289 t290 w _ ?side1 ?side2 A6.out).mono ?_); (case side1 => repeat (first | (with_reducible first | exact HI273.out | apply IsS63.alloc | apply IsS63.drewN | apply IsS63.drew | apply IsS63.set_0 | apply IsS63.set_1 | apply IsS63.set_2 | apply IsS63.far (hne := NB273_270.out) | apply IsS63.far (hne := NB273_278.out)) | apply IsS63.far (hne := NB273_270.out) | apply IsS63.far (hne := NB273_278.out) | exact HI273.out)); (case side2 => repeat (first | (with_reducible first | exact HB.out | apply zg | apply zh | apply zi | refine zo ?_ (IsS63.ge HI273.out) | refine zo ?_ GE270.out | refine zo ?_ GE278.out) | exact HB.out)); rintro e w19 ⟨rfl, hi, hb, hk⟩; refine ⟨_, rfl, ?_⟩; have n0_ := zj (KeepBut.blk hk (g' := gb270) (o := .cells #[.int .i64 0, .int .i64 0, .int .i64 0, .slice none 0 0] 24 (0, 0)) (by (with_reducible repeat (first | refine za ?_ _ | refine zb ?_ | refine zc ?_ _)); refine blk_far ?_ NB270_278.out _; (with_reducible repeat (first | refine za ?_ _ | refine zb ?_ | refine zc ?_ _)); exact BK270.out) NB270_273.out (by simp)); have n1_ := zj (KeepBut.blk hk (g' := gb278) (o := .cells #[.int .i64 t274, .int .i64 t279, .int .i64 t283, .slice none 0 0] 24 (0, 0)) (by (with_reducible repeat (first | refine za ?_ _ | refine zb ?_ | refine zc ?_ _)); refine blk_put (cs := #[.int .i64 t274, .int .i64 t279, .int .i64 0, .slice none 0 0]) ?_ 2 _ rfl; (with_reducible repeat (first | refine za ?_ _ | refine zb ?_ | refine zc ?_ _)); exact BK278.out) NB278_273.out (by simp)); have n2_ := zj (hb); have n3_ := zj (hi); clear BK270; clear BK278; clear HB; clear HI273; have BK270 := n0_; have BK278 := n1_; have HB := n2_; have HI273 := n3_; clear n0_ n1_ n2_ n3_; (try clear hb); (try clear hb2); (try clear hk); (try clear hi)))
 go_loopg [32] k (fun kq v32 w' => ∃ (x32_1 : Int) (x274000_1 : ByteArray) (x274001_1 : Int) (x274002_1 : Bool) (x279003_1 : List (S60)) (u279003 : Value), v32 = .int .i64 x32_1 ∧ Aside0 (impl_ReadMeta.l0 kq a0 t271 t287 x32_1 x274000_1 x274001_1 x274002_1 t274 t279 t283 x279003_1 = some (r1, r2, r3, r4, r5)) ∧ Aside0 (kq ≤ k) ∧ Aside0 (Kd.S k60 60 w' w.heap.size (fun _ => True) u279003 x279003_1) ∧ Aside0 (w'.heap[gb270]? = some (.cells #[.int .i64 0, .int .i64 0, .int .i64 0, (.slice none 0 0)] 24 (0, 0))) ∧ Aside0 (w'.heap[gb278]? = some (.cells #[.int .i64 t274, .int .i64 t279, .int .i64 t283, u279003] 24 (0, 0))) ∧ Aside0 (IsS63 w w' gb273 x274000_1 x274001_1 x274002_1) ∧ Aside0 (Below w.heap.size w w'))
 case atStart => exact ⟨(0), (t288), (t289), (t290), (([] : List (S60))), (.slice none 0 0), (by first | rfl | (simp; done) | (simp [*]; done)), H', ⟨Nat.le_refl _⟩, ⟨by first | exact Kd.S_nil _ _ _ _ _ | exact Kd.N_nil _ _ _ _ _ | exact Kd.V_nil _ _ _ _ _ | exact Kd.Q_nil _ _ _ _ _ | exact Kd.R_nil _ _ _ _ _⟩, ⟨by (with_reducible repeat (first | refine za ?_ _ | refine zb ?_ | refine zc ?_ _)); exact BK270.out⟩, ⟨by (with_reducible repeat (first | refine za ?_ _ | refine zb ?_ | refine zc ?_ _)); exact BK278.out⟩, ⟨by repeat (first | (with_reducible first | exact HI273.out | apply IsS63.alloc | apply IsS63.drewN | apply IsS63.drew | apply IsS63.set_0 | apply IsS63.set_1 | apply IsS63.set_2 | apply IsS63.far (hne := NB273_270.out) | apply IsS63.far (hne := NB273_278.out)) | apply IsS63.far (hne := NB273_270.out) | apply IsS63.far (hne := NB273_278.out) | exact HI273.out)⟩, ⟨by repeat (first | (with_reducible first | exact HB.out | apply zg | apply zh | apply zi | refine zo ?_ (IsS63.ge HI273.out) | refine zo ?_ GE270.out | refine zo ?_ GE278.out) | exact HB.out)⟩⟩
 case round =>
  clear H'
  try clear c1
  try clear c2
  try clear p2
  try clear c7
  try clear c12
  try clear c13
  try clear hcz14_0
  try clear hcz14_1
  try clear hcz14_2
  try clear hcz14_3
  try clear hcz16_0
  try clear hcz16_1
  try clear hcz16_2
  try clear hcz16_3
  try clear hcz18_0
  try clear hcz18_1
  try clear hcz18_2
  try clear hcz18_3
  try clear hfz14_0
  try clear hfz14_1
  try clear hfz14_2
  try clear hfz14_3
  try clear hfz16_0
  try clear hfz16_1
  try clear hfz16_2
  try clear hfz16_3
  try clear hfz18_0
  try clear hfz18_1
  try clear hfz18_2
  try clear hfz18_3
  obtain ⟨x32_1, x274000_1, x274001_1, x274002_1, x279003_1, u279003, rfl, HA, HK1, HO_279003, BK270, BK278, HI273, HB⟩ := hrel
  cases gk with
  | zero => exact absurd HA.out (by simp [impl_ReadMeta.l0])
  | succ k1 =>
   have H := HA.out
   clear HA
   simp only [impl_ReadMeta.l0] at H
   by_cases c20 : x32_1 < t287
   ·rw [if_pos c20] at H
    have c20b0 : decide (x32_1 < t287) = true := decide_eq_true c20
    clear c20
    replace H := Option.bind_eq_some_iff.mp H
    obtain ⟨⟨t293, t294, t295, t296⟩, A210, H⟩ := H
    replace H : ((impl_reader_num.f k1 t294 t295 t296 40).bind fun bt298 => (impl_ReadMeta.l1 k1 a0 t271 t287 x32_1 bt298.1 0 bt298.2.1 bt298.2.2.1 bt298.2.2.2 t274 t279 t283 x279003_1 t293 ([] : List Int))) = some (r1, r2, r3, r4, r5) := H
    have A21 := zj A210
    clear A210
    replace H := Option.bind_eq_some_iff.mp H
    obtain ⟨⟨t298, t299, t300, t301⟩, A220, H⟩ := H
    replace H : (impl_ReadMeta.l1 k1 a0 t271 t287 x32_1 t298 0 t299 t300 t301 t274 t279 t283 x279003_1 t293 ([] : List Int)) = some (r1, r2, r3, r4, r5) := H
    have A22 := zj A220
    clear A220
    have H' := zj H
    clear H
    go_wp2_with (first | ((with_reducible refine gate_callee (f := 28) rfl ?_); refine goesL_ (some 35) rfl rfl Try.func28 (by kernel_rfl) rfl #[.pointer (some ⟨gb273, 0, none⟩), .int .i64 1000000000] rfl (by (try simp only [List.map_toArray, List.map_cons, List.map_nil]); first | done | rfl | (simp only [List.length_drop, List.length_take]; rfl)) ?_; (with_reducible refine (impl_reader_num.calls k1 gb273 x274000_1 x274001_1 x274002_1 1000000000 t293 t294 t295 t296 w _ ?side1 ?side2 A21.out).mono ?_); (case side1 => repeat (first | (with_reducible first | exact HI273.out | apply IsS63.alloc | apply IsS63.drewN | apply IsS63.drew | apply IsS63.set_0 | apply IsS63.set_1 | apply IsS63.set_2 | apply IsS63.far (hne := NB273_270.out) | apply IsS63.far (hne := NB273_278.out)) | apply IsS63.far (hne := NB273_270.out) | apply IsS63.far (hne := NB273_278.out) | exact HI273.out)); (case side2 => repeat (first | (with_reducible first | exact HB.out | apply zg | apply zh | apply zi | refine zo ?_ (IsS63.ge HI273.out) | refine zo ?_ GE270.out | refine zo ?_ GE278.out) | exact HB.out)); rintro e w23 ⟨rfl, hi, hb, hk⟩; refine ⟨_, rfl, ?_⟩; have n0_ := zj (Kd.S_mono (Kd.S_keep (IsS63.apartS (show IsS63 w _ gb273 x274000_1 x274001_1 x274002_1 from by repeat (first | (with_reducible first | exact HI273.out | apply IsS63.alloc | apply IsS63.drewN | apply IsS63.drew | apply IsS63.set_0 | apply IsS63.set_1 | apply IsS63.set_2 | apply IsS63.far (hne := NB273_270.out) | apply IsS63.far (hne := NB273_278.out)) | apply IsS63.far (hne := NB273_270.out) | apply IsS63.far (hne := NB273_278.out) | exact HI273.out)) (by (with_reducible repeat (first | apply Kd.S_alloc | apply Kd.S_drewN | apply Kd.S_drew)); exact HO_279003.out) (by decide)) hk (fun _ h => h.2)) (fun _ h => h.1)); have n1_ := zj (KeepBut.blk hk (g' := gb270) (o := .cells #[.int .i64 0, .int .i64 0, .int .i64 0, .slice none 0 0] 24 (0, 0)) (by (with_reducible repeat (first | refine za ?_ _ | refine zb ?_ | refine zc ?_ _)); exact BK270.out) NB270_273.out (by simp)); have n2_ := zj (KeepBut.blk hk (g' := gb278) (o := .cells #[.int .i64 t274, .int .i64 t279, .int .i64 t283, u279003] 24 (0, 0)) (by (with_reducible repeat (first | refine za ?_ _ | refine zb ?_ | refine zc ?_ _)); exact BK278.out) NB278_273.out (by simp)); have n3_ := zj (hb); have n4_ := zj (hi); clear HO_279003; clear BK270; clear BK278; clear HB; clear HI273; have HO_279003 := n0_; have BK270 := n1_; have BK278 := n2_; have HB := n3_; have HI273 := n4_; clear n0_ n1_ n2_ n3_ n4_; (try clear hb); (try clear hb2); (try clear hk); (try clear hi)) | ((with_reducible refine gate_dst (N := 8) rfl ?_); (try (refine gate_guard (by rfl) ?_; dsimp only)); refine box_event ?hg (N := 8) ?hd (cs := #[.int .i64 0, .slice none 0 0]) (t := 60) ?hr ?_; (case hd => rfl); (case hg => rfl); (case hr => first | (go_simp; done) | (go_simp; rfl)); intro gb297 hg w24 hbox hb; have n0_ := zj (Kd.S_below (Kd.S_elderB (by (with_reducible repeat (first | apply Kd.S_alloc | apply Kd.S_drewN | apply Kd.S_drew)); exact HO_279003.out) gb297 (Nat.le_of_eq hg.symm)) hb); have n1_ := zj (zm (g := gb270) (o := .cells #[.int .i64 0, .int .i64 0, .int .i64 0, .slice none 0 0] 24 (0, 0)) (by (with_reducible repeat (first | refine za ?_ _ | refine zb ?_ | refine zc ?_ _)); exact BK270.out) hb); have n2_ := zj (zm (g := gb278) (o := .cells #[.int .i64 t274, .int .i64 t279, .int .i64 t283, u279003] 24 (0, 0)) (by (with_reducible repeat (first | refine za ?_ _ | refine zb ?_ | refine zc ?_ _)); exact BK278.out) hb); have n3_ := zj (IsS63.below (by repeat (first | (with_reducible first | exact HI273.out | apply IsS63.alloc | apply IsS63.drewN | apply IsS63.drew | apply IsS63.set_0 | apply IsS63.set_1 | apply IsS63.set_2 | apply IsS63.far (hne := NB273_270.out) | apply IsS63.far (hne := NB273_278.out)) | apply IsS63.far (hne := NB273_270.out) | apply IsS63.far (hne := NB273_278.out) | exact HI273.out)) hb); have n4_ := zj (zl (by repeat (first | (with_reducible first | exact HB.out | apply zg | apply zh | apply zi | refine zo ?_ (IsS63.ge HI273.out) | refine zo ?_ GE270.out | refine zo ?_ GE278.out) | exact HB.out)) hb); have n5_ := zj (hbox); have n6_ := zj ((by rw [hg]; exact (zk (by repeat (first | (with_reducible first | exact HB.out | apply zg | apply zh | apply zi | refine zo ?_ (IsS63.ge HI273.out) | refine zo ?_ GE270.out | refine zo ?_ GE278.out) | exact HB.out))) : w.heap.size ≤ gb297)); have n7_ := zj ((by rw [hg]; exact (zk (by repeat (first | (with_reducible first | exact HB.out | apply zg | apply zh | apply zi | refine zo ?_ (IsS63.ge HI273.out) | refine zo ?_ GE270.out | refine zo ?_ GE278.out) | exact HB.out))) : w.heap.size ≤ gb297)); have n8_ := zj ((by rw [hg]; exact Nat.ne_of_lt (blk_lt (g := gb270) (o := .cells #[.int .i64 0, .int .i64 0, .int .i64 0, .slice none 0 0] 24 (0, 0)) (by (with_reducible repeat (first | refine za ?_ _ | refine zb ?_ | refine zc ?_ _)); exact BK270.out)) : gb270 ≠ gb297)); have n9_ := zj ((by rw [hg]; exact Nat.ne_of_gt (blk_lt (g := gb270) (o := .cells #[.int .i64 0, .int .i64 0, .int .i64 0, .slice none 0 0] 24 (0, 0)) (by (with_reducible repeat (first | refine za ?_ _ | refine zb ?_ | refine zc ?_ _)); exact BK270.out)) : gb297 ≠ gb270)); have n10_ := zj ((by rw [hg]; exact Nat.ne_of_lt (blk_lt (g := gb278) (o := .cells #[.int .i64 t274, .int .i64 t279, .int .i64 t283, u279003] 24 (0, 0)) (by (with_reducible repeat (first | refine za ?_ _ | refine zb ?_ | refine zc ?_ _)); exact BK278.out)) : gb278 ≠ gb297)); have n11_ := zj ((by rw [hg]; exact Nat.ne_of_gt (blk_lt (g := gb278) (o := .cells #[.int .i64 t274, .int .i64 t279, .int .i64 t283, u279003] 24 (0, 0)) (by (with_reducible repeat (first | refine za ?_ _ | refine zb ?_ | refine zc ?_ _)); exact BK278.out)) : gb297 ≠ gb278)); have n12_ := zj ((by rw [hg]; exact Nat.ne_of_lt (IsS63.lt (show IsS63 w _ gb273 t294 t295 t296 from by repeat (first | (with_reducible first | exact HI273.out | apply IsS63.alloc | apply IsS63.drewN | apply IsS63.drew | apply IsS63.set_0 | apply IsS63.set_1 | apply IsS63.set_2 | apply IsS63.far (hne := NB273_270.out) | apply IsS63.far (hne := NB273_278.out)) | apply IsS63.far (hne := NB273_270.out) | apply IsS63.far (hne := NB273_278.out) | exact HI273.out))) : gb273 ≠ gb297)); have n13_ := zj ((by rw [hg]; exact Nat.ne_of_gt (IsS63.lt (show IsS63 w _ gb273 t294 t295 t296 from by repeat (first | (with_reducible first | exact HI273.out | apply IsS63.alloc | apply IsS63.drewN | apply IsS63.drew | apply IsS63.set_0 | apply IsS63.set_1 | apply IsS63.set_2 | apply IsS63.far (hne := NB273_270.out) | apply IsS63.far (hne := NB273_278.out)) | apply IsS63.far (hne := NB273_270.out) | apply IsS63.far (hne := NB273_278.out) | exact HI273.out))) : gb297 ≠ gb273)); clear HO_279003; clear BK270; clear BK278; clear HI273; clear HB; have HO_279003 := n0_; have BK270 := n1_; have BK278 := n2_; have HI273 := n3_; have HB := n4_; have BK297 := n5_; have GW297 := n6_; have GE297 := n7_; have NB270_297 := n8_; have NB297_270 := n9_; have NB278_297 := n10_; have NB297_278 := n11_; have NB273_297 := n12_; have NB297_273 := n13_; clear n0_ n1_ n2_ n3_ n4_ n5_ n6_ n7_ n8_ n9_ n10_ n11_ n12_ n13_; clear hb hbox hg; have hnb25 := NB297_270.out; have hnc25 := NB270_297.out; have hnb26 := NB297_278.out; have hnc26 := NB278_297.out; have hnb27 := NB297_273.out; have hnc27 := NB273_297.out; have hcz28_0 : w24.cell? ⟨gb297, 0, none⟩ = some (.int .i64 0) := (zn BK297.out 0).trans rfl; have hcz28_1 : w24.cell? ⟨gb297, 1, none⟩ = some (.slice none 0 0) := (zn BK297.out 1).trans rfl; have hfz28_0 := zp BK297.out 0; have hfz28_1 := zp BK297.out 1) | ((with_reducible refine gate_callee (f := 28) rfl ?_); refine goesL_ (some 38) rfl rfl Try.func28 (by kernel_rfl) rfl #[.pointer (some ⟨gb273, 0, none⟩), .int .i64 40] rfl (by (try simp only [List.map_toArray, List.map_cons, List.map_nil]); first | done | rfl | (simp only [List.length_drop, List.length_take]; rfl)) ?_; (with_reducible refine (impl_reader_num.calls k1 gb273 t294 t295 t296 40 t298 t299 t300 t301 w _ ?side1 ?side2 A22.out).mono ?_); (case side1 => repeat (first | (with_reducible first | exact HI273.out | apply IsS63.alloc | apply IsS63.drewN | apply IsS63.drew | apply IsS63.set_0 | apply IsS63.set_1 | apply IsS63.set_2 | apply IsS63.far (hne := NB273_270.out) | apply IsS63.far (hne := NB273_278.out) | apply IsS63.far (hne := NB273_297.out)) | apply IsS63.far (hne := NB273_270.out) | apply IsS63.far (hne := NB273_278.out) | apply IsS63.far (hne := NB273_297.out) | exact HI273.out)); (case side2 => repeat (first | (with_reducible first | exact HB.out | apply zg | apply zh | apply zi | refine zo ?_ (IsS63.ge HI273.out) | refine zo ?_ GE270.out | refine zo ?_ GE278.out | refine zo ?_ GE297.out) | exact HB.out)); rintro e w29 ⟨rfl, hi, hb, hk⟩; refine ⟨_, rfl, ?_⟩; have n0_ := zj (Kd.S_mono (Kd.S_keep (IsS63.apartS (show IsS63 w _ gb273 t294 t295 t296 from by repeat (first | (with_reducible first | exact HI273.out | apply IsS63.alloc | apply IsS63.drewN | apply IsS63.drew | apply IsS63.set_0 | apply IsS63.set_1 | apply IsS63.set_2 | apply IsS63.far (hne := NB273_270.out) | apply IsS63.far (hne := NB273_278.out) | apply IsS63.far (hne := NB273_297.out)) | apply IsS63.far (hne := NB273_270.out) | apply IsS63.far (hne := NB273_278.out) | apply IsS63.far (hne := NB273_297.out) | exact HI273.out)) (by (with_reducible repeat (first | apply Kd.S_alloc | apply Kd.S_drewN | apply Kd.S_drew)); exact (Kd.S_mono (Kd.S_far (p := ⟨gb297, 1, none⟩) (Kd.S_far (p := ⟨gb297, 0, none⟩) (Kd.S_mono HO_279003.out (fun k_ hk => (⟨hk, hk.2⟩ : _ ∧ k_ ≠ gb297))) (fun _ hk => hk.2) (.int .i64 t293)) (fun _ hk => hk.2) (.slice none 0 0)) (fun _ h_ => h_.1))) (by decide)) hk (fun _ h => h.2)) (fun _ h => h.1)); have n1_ := zj (KeepBut.blk hk (g' := gb270) (o := .cells #[.int .i64 0, .int .i64 0, .int .i64 0, .slice none 0 0] 24 (0, 0)) (by (with_reducible repeat (first | refine za ?_ _ | refine zb ?_ | refine zc ?_ _)); refine blk_far ?_ NB270_297.out _; (with_reducible repeat (first | refine za ?_ _ | refine zb ?_ | refine zc ?_ _)); refine blk_far ?_ NB270_297.out _; (with_reducible repeat (first | refine za ?_ _ | refine zb ?_ | refine zc ?_ _)); exact BK270.out) NB270_273.out (by simp)); have n2_ := zj (KeepBut.blk hk (g' := gb278) (o := .cells #[.int .i64 t274, .int .i64 t279, .int .i64 t283, u279003] 24 (0, 0)) (by (with_reducible repeat (first | refine za ?_ _ | refine zb ?_ | refine zc ?_ _)); refine blk_far ?_ NB278_297.out _; (with_reducible repeat (first | refine za ?_ _ | refine zb ?_ | refine zc ?_ _)); refine blk_far ?_ NB278_297.out _; (with_reducible repeat (first | refine za ?_ _ | refine zb ?_ | refine zc ?_ _)); exact BK278.out) NB278_273.out (by simp)); have n3_ := zj (KeepBut.blk hk (g' := gb297) (o := .cells #[.int .i64 t293, .slice none 0 0] 60 (0, 0)) (by (with_reducible repeat (first | refine za ?_ _ | refine zb ?_ | refine zc ?_ _)); refine blk_put (cs := #[.int .i64 t293, .slice none 0 0]) ?_ 1 _ rfl; (with_reducible repeat (first | refine za ?_ _ | refine zb ?_ | refine zc ?_ _)); refine blk_put (cs := #[.int .i64 0, .slice none 0 0]) ?_ 0 _ rfl; (with_reducible repeat (first | refine za ?_ _ | refine zb ?_ | refine zc ?_ _)); exact BK297.out) NB297_273.out (by simp)); have n4_ := zj (hb); have n5_ := zj (hi); clear HO_279003; clear BK270; clear BK278; clear BK297; clear HB; clear HI273; have HO_279003 := n0_; have BK270 := n1_; have BK278 := n2_; have BK297 := n3_; have HB := n4_; have HI273 := n5_; clear n0_ n1_ n2_ n3_ n4_ n5_; (try clear hb); (try clear hb2); (try clear hk); (try clear hi)))
    go_loopg [39] k1 (fun kq v39 w' => ∃ (x39_2 : Int) (x274000_2 : ByteArray) (x274001_2 : Int) (x274002_2 : Bool) (x298001_2 : List Int) (u298001 : Value), v39 = .int .i64 x39_2 ∧ Aside0 (impl_ReadMeta.l1 kq a0 t271 t287 x32_1 t298 x39_2 x274000_2 x274001_2 x274002_2 t274 t279 t283 x279003_1 t293 x298001_2 = some (r1, r2, r3, r4, r5)) ∧ Aside0 (kq ≤ k1) ∧ Aside0 (Kd.S k60 60 w' w.heap.size (fun k_ => some k_ ≠ (u298001 : Value).ownBlock ∧ k_ ≠ gb297) u279003 x279003_1) ∧ Aside0 (Kd.R (Kd.int .i64) 3 w' w.heap.size (fun _ => True) u298001 x298001_2) ∧ Aside0 (w'.heap[gb270]? = some (.cells #[.int .i64 0, .int .i64 0, .int .i64 0, (.slice none 0 0)] 24 (0, 0))) ∧ Aside0 (w'.heap[gb278]? = some (.cells #[.int .i64 t274, .int .i64 t279, .int .i64 t283, u279003] 24 (0, 0))) ∧ Aside0 (w'.heap[gb297]? = some (.cells #[.int .i64 t293, u298001] 60 (0, 0))) ∧ Aside0 (IsS63 w w' gb273 x274000_2 x274001_2 x274002_2) ∧ Aside0 (Below w.heap.size w w'))
    case atStart => exact ⟨(0), (t299), (t300), (t301), (([] : List Int)), (.slice none 0 0), (by first | rfl | (simp; done) | (simp [*]; done)), H', ⟨Nat.le_refl _⟩, ⟨by (with_reducible repeat (first | apply Kd.S_alloc | apply Kd.S_drewN | apply Kd.S_drew)); exact Kd.S_mono HO_279003.out (fun _ hk => ⟨(by simp [Value.ownBlock]), hk.2⟩)⟩, ⟨by first | exact Kd.R_nil _ _ _ _ _ | exact Kd.N_nil _ _ _ _ _ | exact Kd.V_nil _ _ _ _ _ | exact Kd.Q_nil _ _ _ _ _ | exact Kd.S_nil _ _ _ _ _⟩, ⟨by (with_reducible repeat (first | refine za ?_ _ | refine zb ?_ | refine zc ?_ _)); exact BK270.out⟩, ⟨by (with_reducible repeat (first | refine za ?_ _ | refine zb ?_ | refine zc ?_ _)); exact BK278.out⟩, ⟨by (with_reducible repeat (first | refine za ?_ _ | refine zb ?_ | refine zc ?_ _)); exact BK297.out⟩, ⟨by repeat (first | (with_reducible first | exact HI273.out | apply IsS63.alloc | apply IsS63.drewN | apply IsS63.drew | apply IsS63.set_0 | apply IsS63.set_1 | apply IsS63.set_2 | apply IsS63.far (hne := NB273_270.out) | apply IsS63.far (hne := NB273_278.out) | apply IsS63.far (hne := NB273_297.out)) | apply IsS63.far (hne := NB273_270.out) | apply IsS63.far (hne := NB273_278.out) | apply IsS63.far (hne := NB273_297.out) | exact HI273.out)⟩, ⟨by repeat (first | (with_reducible first | exact HB.out | apply zg | apply zh | apply zi | refine zo ?_ (IsS63.ge HI273.out) | refine zo ?_ GE270.out | refine zo ?_ GE278.out | refine zo ?_ GE297.out) | exact HB.out)⟩⟩
    case round =>
     clear H'
     try clear c1
     try clear c2
     try clear p2
     try clear c7
     try clear c12
     try clear c13
     try clear c20
     try clear c20b0
     try clear c25
     try clear c26
     try clear c27
     try clear c28
     try clear hcz14_0
     try clear hcz14_1
     try clear hcz14_2
     try clear hcz14_3
     try clear hcz16_0
     try clear hcz16_1
     try clear hcz16_2
     try clear hcz16_3
     try clear hcz18_0
     try clear hcz18_1
     try clear hcz18_2
     try clear hcz18_3
     try clear hcz28_0
     try clear hcz28_1
     try clear hfz14_0
     try clear hfz14_1
     try clear hfz14_2
     try clear hfz14_3
     try clear hfz16_0
     try clear hfz16_1
     try clear hfz16_2
     try clear hfz16_3
     try clear hfz18_0
     try clear hfz18_1
     try clear hfz18_2
     try clear hfz18_3
     try clear hfz28_0
     try clear hfz28_1
     try clear p2
     obtain ⟨x39_2, x274000_2, x274001_2, x274002_2, x298001_2, u298001, rfl, HA, HK2, HO_279003, HO_298001, BK270, BK278, BK297, HI273, HB⟩ := hrel
     cases gk with
     | zero => exact absurd HA.out (by simp [impl_ReadMeta.l1])
     | succ k2 =>
      have H := HA.out
      clear HA
      simp only [impl_ReadMeta.l1] at H
      by_cases c30 : x39_2 < t298
      ·rw [if_pos c30] at H
       have c30b0 : decide (x39_2 < t298) = true := decide_eq_true c30
       clear c30
       replace H := Option.bind_eq_some_iff.mp H
       obtain ⟨⟨t302, t303, t304, t305⟩, A310, H⟩ := H
       replace H : (if x298001_2.length < 17592186044416 then (impl_ReadMeta.l1 k2 a0 t271 t287 x32_1 t298 (wrap64 (x39_2 + 1)) t303 t304 t305 t274 t279 t283 x279003_1 t293 (x298001_2 ++ [t302])) else (none)) = some (r1, r2, r3, r4, r5) := H
       have A31 := zj A310
       clear A310
       by_cases c32 : x298001_2.length < 17592186044416
       ·rw [if_pos c32] at H
        have LMc32 := zj c32
        clear c32
        obtain ⟨y306, hy306⟩ : ∃ y_ : List Int, y_ = (x298001_2 ++ [t302]) := ⟨_, rfl⟩
        replace H : (impl_ReadMeta.l1 k2 a0 t271 t287 x32_1 t298 (wrap64 (x39_2 + 1)) t303 t304 t305 t274 t279 t283 x279003_1 t293 y306) = some (r1, r2, r3, r4, r5) := by first | (rw [hy306]; with_reducible exact H) | (have H2_ := (Option.bind_some _ _).symm.trans H; rw [hy306]; with_reducible exact H2_) | (have H2_ := (Option.bind_some _ _).symm.trans H; with_reducible exact H2_) | with_reducible exact H | (rw [hy306]; exact H) | exact H
        have Ny306 := zj hy306
        clear hy306
        have H' := zj H
        clear H
        try go_wp2
        have n0_ := zj (Kd.S_drew HO_279003.out)
        have n1_ := zj (zf HO_298001.out)
        have n2_ := zj (zb BK270.out)
        have n3_ := zj (zb BK278.out)
        have n4_ := zj (zb BK297.out)
        have n5_ := zj (IsS63.drew HI273.out)
        have n6_ := zj (zi HB.out)
        clear HO_279003
        clear HO_298001
        clear BK270
        clear BK278
        clear BK297
        clear HI273
        clear HB
        have HO_279003 := n0_
        have HO_298001 := n1_
        have BK270 := n2_
        have BK278 := n3_
        have BK297 := n4_
        have HI273 := n5_
        have HB := n6_
        clear n0_ n1_ n2_ n3_ n4_ n5_ n6_
        refine start_ (n := 8) (S := fun w' => w'.cell? ⟨gb297, 0, none⟩ = some (.int .i64 t293) ∧ w'.cell? ⟨gb297, 1, none⟩ = some (u298001)) (ds := [7]) (bz 8 0) (by kernel_rfl) rfl rfl ⟨(zn BK297.out 0).trans rfl, (zn BK297.out 1).trans rfl⟩ (fun hHeld => ?_); refine with_tabW impl_ReadMeta.tab11 impl_ReadMeta.bits11 (fun HT_ HW_ => ?_)
        generalize wr.drew = w33 at HO_279003 HO_298001 BK270 BK278 BK297 HI273 HB hHeld ⊢
        refine pure_ (i := 0) (N := some 41) (v := ?_) (a' := ?_) (bz 8 1) rfl rfl (any_of HT_.out (by kernel_rfl)) (fun _ _ _ h => h) (Or.inl ⟨by rfl, ?_⟩) ?_ ?_
        rotate_left
        ·intro w'
         go_simp
         with_reducible rfl
        rotate_left
        ·simp only [Act.put, qa, qb, qc, i64_w, i32_w]
         rfl
        refine pure_ (i := 2) (N := some 43) (v := ?_) (a' := ?_) (bz 8 5) rfl rfl (any_of HT_.out (by kernel_rfl)) (fun _ _ _ h => h) (Or.inl ⟨by rfl, ?_⟩) ?_ ?_
        rotate_left
        ·intro w'
         go_simp
         with_reducible rfl
        rotate_left
        ·simp only [Act.put, qa, qb, qc, i64_w, i32_w]
         rfl
        refine take_ (i := 1) (N := some 42) (v := ?_) (a' := ?_) (bz 8 7) rfl rfl (take_ofW HT_.out HW_.out (by kernel_rfl)) (fun _ _ _ h => h) (Or.inl ⟨by rfl, ?_⟩) hHeld ?_ ?_
        rotate_left
        ·rintro w' ⟨s0, s1⟩
         go_simp
         with_reducible rfl
        rotate_left
        ·simp only [Act.put, qa, qb, qc, i64_w, i32_w]
         rfl
        refine one_ (i := 3) (N := some 44) (bz 8 15) rfl rfl (one_of HT_.out (by kernel_rfl)) (by decide) (fun K hK => ?_)
        refine goes_ Try.func28 (by kernel_rfl) rfl #[.pointer (some ⟨gb273, 0, none⟩), .int .i64 1000000000] (by rfl) rfl rfl (by (try simp only [List.map_toArray, List.map_cons, List.map_nil]); first | done | rfl | (simp only [List.length_drop, List.length_take]; rfl)) ?_
        with_reducible refine (impl_reader_num.calls k2 gb273 x274000_2 x274001_2 x274002_2 1000000000 t302 t303 t304 t305 w _ ?side1 ?side2 A31.out).mono ?_
        (case side1 => repeat (first | (with_reducible first | exact HI273.out | apply IsS63.alloc | apply IsS63.drewN | apply IsS63.drew | apply IsS63.set_0 | apply IsS63.set_1 | apply IsS63.set_2 | apply IsS63.far (hne := NB273_270.out) | apply IsS63.far (hne := NB273_278.out) | apply IsS63.far (hne := NB273_297.out)) | apply IsS63.far (hne := NB273_270.out) | apply IsS63.far (hne := NB273_278.out) | apply IsS63.far (hne := NB273_297.out) | exact HI273.out))
        (case side2 => repeat (first | (with_reducible first | exact HB.out | apply zg | apply zh | apply zi | refine zo ?_ (IsS63.ge HI273.out) | refine zo ?_ GE270.out | refine zo ?_ GE278.out | refine zo ?_ GE297.out) | exact HB.out))
        rintro e w34 ⟨rfl, hi, hb, hk⟩
        refine ⟨_, rfl, ?_⟩
        have n0_ := zj (Kd.S_mono (Kd.S_keep (IsS63.apartS (show IsS63 w _ gb273 x274000_2 x274001_2 x274002_2 from by repeat (first | (with_reducible first | exact HI273.out | apply IsS63.alloc | apply IsS63.drewN | apply IsS63.drew | apply IsS63.set_0 | apply IsS63.set_1 | apply IsS63.set_2 | apply IsS63.far (hne := NB273_270.out) | apply IsS63.far (hne := NB273_278.out) | apply IsS63.far (hne := NB273_297.out)) | apply IsS63.far (hne := NB273_270.out) | apply IsS63.far (hne := NB273_278.out) | apply IsS63.far (hne := NB273_297.out) | exact HI273.out)) (by (with_reducible repeat (first | apply Kd.S_alloc | apply Kd.S_drewN | apply Kd.S_drew)); exact HO_279003.out) (by decide)) hk (fun _ h => h.2)) (fun _ h => h.1))
        have n1_ := zj (Kd.R_mono (Kd.R_keep (IsS63.apart (show IsS63 w _ gb273 x274000_2 x274001_2 x274002_2 from by repeat (first | (with_reducible first | exact HI273.out | apply IsS63.alloc | apply IsS63.drewN | apply IsS63.drew | apply IsS63.set_0 | apply IsS63.set_1 | apply IsS63.set_2 | apply IsS63.far (hne := NB273_270.out) | apply IsS63.far (hne := NB273_278.out) | apply IsS63.far (hne := NB273_297.out)) | apply IsS63.far (hne := NB273_270.out) | apply IsS63.far (hne := NB273_278.out) | apply IsS63.far (hne := NB273_297.out) | exact HI273.out)) (by (with_reducible repeat (first | apply zd | apply ze | apply zf)); exact HO_298001.out) (by decide)) hk (fun _ h => h.2)) (fun _ h => h.1))
        have n2_ := zj (KeepBut.blk hk (g' := gb270) (o := .cells #[.int .i64 0, .int .i64 0, .int .i64 0, .slice none 0 0] 24 (0, 0)) (by (with_reducible repeat (first | refine za ?_ _ | refine zb ?_ | refine zc ?_ _)); exact BK270.out) NB270_273.out (by simp))
        have n3_ := zj (KeepBut.blk hk (g' := gb278) (o := .cells #[.int .i64 t274, .int .i64 t279, .int .i64 t283, u279003] 24 (0, 0)) (by (with_reducible repeat (first | refine za ?_ _ | refine zb ?_ | refine zc ?_ _)); exact BK278.out) NB278_273.out (by simp))
        have n4_ := zj (KeepBut.blk hk (g' := gb297) (o := .cells #[.int .i64 t293, u298001] 60 (0, 0)) (by (with_reducible repeat (first | refine za ?_ _ | refine zb ?_ | refine zc ?_ _)); exact BK297.out) NB297_273.out (by simp))
        have n5_ := zj (hb)
        have n6_ := zj (hi)
        clear HO_279003
        clear HO_298001
        clear BK270
        clear BK278
        clear BK297
        clear HB
        clear HI273
        have HO_279003 := n0_
        have HO_298001 := n1_
        have BK270 := n2_
        have BK278 := n3_
        have BK297 := n4_
        have HB := n5_
        have HI273 := n6_
        clear n0_ n1_ n2_ n3_ n4_ n5_ n6_
        (try clear hb)
        (try clear hb2)
        (try clear hk)
        (try clear hi)
        refine hK.out _ _ ⟨(zn BK297.out 0).trans rfl, (zn BK297.out 1).trans rfl⟩ (fun hHeld => ?_)
        clear hK K
        refine norm_ (a' := ?_) ?_ ?_
        rotate_left
        ·show Act.put _ (some 44) _ = _
         simp only [Act.put, qa, qb, qc, i64_w, i32_w]
         rfl
        refine one_ (i := 4) (N := some 45) (bz 8 31) rfl rfl (one_of HT_.out (by kernel_rfl)) (by decide) (fun K hK => ?_)
        refine value_ (w1 := ?_) (v := ?_) (by rfl) rfl ?_ ?_
        rotate_left 2
        ·go_simp
         constructor
         ·rfl
         ·rfl
        refine hK.out _ _ ⟨(zn (zc BK297.out _) 0).trans rfl, (zn (zc BK297.out _) 1).trans rfl⟩ (fun hHeld => ?_)
        clear hK K
        refine norm_ (a' := ?_) ?_ ?_
        rotate_left
        ·show Act.put _ (some 45) _ = _
         simp only [Act.put, qa, qb, qc, i64_w, i32_w]
         rfl
        refine one_ (i := 5) (N := some 46) (bz 8 63) rfl rfl (one_of HT_.out (by kernel_rfl)) (by decide) (fun K hK => ?_)
        refine Kd.R_append_step (Kd.int .i64) (w0 := w) w.heap.size (by rfl) (.tmp 42) (.tmp 45) 58 3 (.int .i64 0) 8 rfl Try.underlying58 info3 rfl (by decide) (by omega) u298001 x298001_2 t302 [.int .i64 t302] (fun _ => True) (fun _ => False) rfl rfl ?aP (fun _ hk => hk.elim) ?aF ?aO ?aB ?aS ?aL ?_
        (case aP => exact rfl)
        (case aB => exact (by repeat (first | (with_reducible first | exact HB.out | apply zg | apply zh | apply zi | refine zo ?_ (IsS63.ge HI273.out) | refine zo ?_ GE270.out | refine zo ?_ GE278.out | refine zo ?_ GE297.out) | exact HB.out)))
        (case aF => exact (fun _ _ => trivial))
        (case aO => exact (by (with_reducible repeat (first | apply zd | apply ze | apply zf)); exact HO_298001.out))
        (case aS => exact (zk (by repeat (first | (with_reducible first | exact HB.out | apply zg | apply zh | apply zi | refine zo ?_ (IsS63.ge HI273.out) | refine zo ?_ GE270.out | refine zo ?_ GE278.out | refine zo ?_ GE297.out) | exact HB.out))))
        (case aL => have := LMc32.out; omega)
        intro v307 w35 ho hb hg hat
        rw [← Ny306.out] at ho
        have n0_ := zj (Kd.S_after (ok := (fun k_ => k_ ≠ gb297)) (by (with_reducible repeat (first | apply Kd.S_alloc | apply Kd.S_drewN | apply Kd.S_drew)); exact Kd.S_mono HO_279003.out (fun _ hk => ⟨hk.2, hk.1⟩)) hg hat)
        have n1_ := zj (blk_grown (g := gb270) (o := .cells #[.int .i64 0, .int .i64 0, .int .i64 0, .slice none 0 0] 24 (0, 0)) (by (with_reducible repeat (first | refine za ?_ _ | refine zb ?_ | refine zc ?_ _)); exact BK270.out) hg (Kd.R_ne HO_298001.out BK270.out (by decide)))
        have n2_ := zj (blk_grown (g := gb278) (o := .cells #[.int .i64 t274, .int .i64 t279, .int .i64 t283, u279003] 24 (0, 0)) (by (with_reducible repeat (first | refine za ?_ _ | refine zb ?_ | refine zc ?_ _)); exact BK278.out) hg (Kd.R_ne HO_298001.out BK278.out (by decide)))
        have n3_ := zj (blk_grown (g := gb297) (o := .cells #[.int .i64 t293, u298001] 60 (0, 0)) (by (with_reducible repeat (first | refine za ?_ _ | refine zb ?_ | refine zc ?_ _)); exact BK297.out) hg (Kd.R_ne HO_298001.out BK297.out (by decide)))
        have n4_ := zj (IsS63.grown (by repeat (first | (with_reducible first | exact HI273.out | apply IsS63.alloc | apply IsS63.drewN | apply IsS63.drew | apply IsS63.set_0 | apply IsS63.set_1 | apply IsS63.set_2 | apply IsS63.far (hne := NB273_270.out) | apply IsS63.far (hne := NB273_278.out) | apply IsS63.far (hne := NB273_297.out)) | apply IsS63.far (hne := NB273_270.out) | apply IsS63.far (hne := NB273_278.out) | apply IsS63.far (hne := NB273_297.out) | exact HI273.out)) hg (IsS63.own_ne HI273.out HO_298001.out (by decide)))
        have n5_ := zj (hb)
        have n6_ := zj (ho)
        clear HO_279003
        clear BK270
        clear BK278
        clear BK297
        clear HI273
        clear HB
        clear HO_298001
        have HO_279003 := n0_
        have BK270 := n1_
        have BK278 := n2_
        have BK297 := n3_
        have HI273 := n4_
        have HB := n5_
        have HO308 := n6_
        clear n0_ n1_ n2_ n3_ n4_ n5_ n6_
        clear ho hb hg hat
        obtain ⟨Ao36, co36, eo36⟩ := Kd.R_slice HO308.out
        (first | subst eo36 | (injection eo36 with f1_ f2_ f3_; have f4_ := f1_.symm; have f5_ := f3_.symm; clear f1_ f2_ f3_; subst f4_; subst f5_))
        refine hK.out _ _ ⟨(zn BK297.out 0).trans rfl, (zn BK297.out 1).trans rfl⟩ (fun hHeld => ?_)
        clear hK K
        refine norm_ (a' := ?_) ?_ ?_
        rotate_left
        ·show Act.put _ (some 46) _ = _
         simp only [Act.put, qa, qb, qc, i64_w, i32_w]
         rfl
        refine pure_ (i := 6) (N := some 47) (v := ?_) (a' := ?_) (bz 8 127) rfl rfl (any_of HT_.out (by kernel_rfl)) (fun _ _ _ h => h) (Or.inl ⟨by rfl, ?_⟩) ?_ ?_
        rotate_left
        ·intro w'
         go_simp
         with_reducible rfl
        rotate_left
        ·simp only [Act.put, qa, qb, qc, i64_w, i32_w]
         rfl
        refine last_ (i := 7) (N := none) (bz 8 255) rfl rfl (one_of HT_.out (by kernel_rfl)) (by decide) (fun K hK => ?_)
        have hs37 : w35.cell? ⟨gb297, 1, none⟩ = some (u298001) := (zn BK297.out 1).trans rfl
        have hfs37 := zp BK297.out 1
        have hns37_0 := NB270_297.out
        have hns37_1 := NB278_297.out
        have hms37_0 := NB297_270.out
        have hms37_1 := NB297_278.out
        refine skip_ (w1 := ?_) (by rfl) rfl ?_ ?_
        rotate_left
        ·go_simp
         rfl
        refine hK.out _ _ ?_
        clear hK K
        refine done_ (done_of HT_.out (by kernel_rfl)) ?_
        try go_wp2
        go_roundg k2
        case measure => have := HK1.out; have := HK2.out; omega
        case rel => exact ⟨(wrap64 (x39_2 + 1)), (t303), (t304), (t305), (y306), (.slice Ao36 y306.length co36), (by first | rfl | (simp; done) | (simp [*]; done)), H', ⟨by have := HK1.out; have := HK2.out; omega⟩, ⟨by (with_reducible repeat (first | apply Kd.S_alloc | apply Kd.S_drewN | apply Kd.S_drew)); exact Kd.S_mono (Kd.S_far (p := ⟨gb297, 1, none⟩) (Kd.S_mono HO_279003.out (fun k_ hk => (⟨hk, hk.1⟩ : _ ∧ k_ ≠ gb297))) (fun _ hk => hk.2) (.slice Ao36 y306.length co36)) (fun _ hk => ⟨hk.1.2, hk.1.1⟩)⟩, ⟨by (with_reducible repeat (first | apply zd | apply ze | apply zf)); exact Kd.R_mono (Kd.R_far (p := ⟨gb297, 1, none⟩) (Kd.R_types HO308.out BK297.out (by decide)) (fun _ hk => hk.2) (.slice Ao36 y306.length co36)) (fun _ hk => trivial)⟩, ⟨by (with_reducible repeat (first | refine za ?_ _ | refine zb ?_ | refine zc ?_ _)); refine blk_far ?_ NB270_297.out _; (with_reducible repeat (first | refine za ?_ _ | refine zb ?_ | refine zc ?_ _)); exact BK270.out⟩, ⟨by (with_reducible repeat (first | refine za ?_ _ | refine zb ?_ | refine zc ?_ _)); refine blk_far ?_ NB278_297.out _; (with_reducible repeat (first | refine za ?_ _ | refine zb ?_ | refine zc ?_ _)); exact BK278.out⟩, ⟨by (with_reducible repeat (first | refine za ?_ _ | refine zb ?_ | refine zc ?_ _)); refine blk_put (cs := #[.int .i64 t293, u298001]) ?_ 1 _ rfl; (with_reducible repeat (first | refine za ?_ _ | refine zb ?_ | refine zc ?_ _)); exact BK297.out⟩, ⟨by repeat (first | (with_reducible first | exact HI273.out | apply IsS63.alloc | apply IsS63.drewN | apply IsS63.drew | apply IsS63.set_0 | apply IsS63.set_1 | apply IsS63.set_2 | apply IsS63.far (hne := NB273_270.out) | apply IsS63.far (hne := NB273_278.out) | apply IsS63.far (hne := NB273_297.out)) | apply IsS63.far (hne := NB273_270.out) | apply IsS63.far (hne := NB273_278.out) | apply IsS63.far (hne := NB273_297.out) | exact HI273.out)⟩, ⟨by repeat (first | (with_reducible first | exact HB.out | apply zg | apply zh | apply zi | refine zo ?_ (IsS63.ge HI273.out) | refine zo ?_ GE270.out | refine zo ?_ GE278.out | refine zo ?_ GE297.out) | exact HB.out)⟩⟩
       ·rw [if_neg c32] at H
        exact absurd H (by simp)
      ·rw [if_neg c30] at H
       have c30b0 : decide (x39_2 < t298) = false := decide_eq_false c30
       clear c30
       by_cases c38 : x279003_1.length < 4398046511104
       ·rw [if_pos c38] at H
        have LMc38 := zj c38
        clear c38
        obtain ⟨y309, hy309⟩ : ∃ y_ : List (S60), y_ = (x279003_1 ++ [(⟨t293, x298001_2⟩ : S60)]) := ⟨_, rfl⟩
        replace H : (impl_ReadMeta.l0 k2 a0 t271 t287 (wrap64 (x32_1 + 1)) x274000_2 x274001_2 x274002_2 t274 t279 t283 y309) = some (r1, r2, r3, r4, r5) := by first | (rw [hy309]; with_reducible exact H) | (have H2_ := (Option.bind_some _ _).symm.trans H; rw [hy309]; with_reducible exact H2_) | (have H2_ := (Option.bind_some _ _).symm.trans H; with_reducible exact H2_) | with_reducible exact H | (rw [hy309]; exact H) | exact H
        have Ny309 := zj hy309
        clear hy309
        have H' := zj H
        clear H
        have hnb39 := NB278_270.out
        have hnc39 := NB270_278.out
        have hnb40 := NB278_297.out
        have hnc40 := NB297_278.out
        have hnb41 := NB278_273.out
        have hnc41 := NB273_278.out
        have hcz42_0 : wr.cell? ⟨gb278, 0, none⟩ = some (.int .i64 t274) := (zn BK278.out 0).trans rfl
        have hcz42_1 : wr.cell? ⟨gb278, 1, none⟩ = some (.int .i64 t279) := (zn BK278.out 1).trans rfl
        have hcz42_2 : wr.cell? ⟨gb278, 2, none⟩ = some (.int .i64 t283) := (zn BK278.out 2).trans rfl
        have hcz42_3 : wr.cell? ⟨gb278, 3, none⟩ = some (u279003) := (zn BK278.out 3).trans rfl
        have hfz42_0 := zp BK278.out 0
        have hfz42_1 := zp BK278.out 1
        have hfz42_2 := zp BK278.out 2
        have hfz42_3 := zp BK278.out 3
        have hnb43 := NB297_270.out
        have hnc43 := NB270_297.out
        have hnb44 := NB297_273.out
        have hnc44 := NB273_297.out
        have hcz45_0 : wr.cell? ⟨gb297, 0, none⟩ = some (.int .i64 t293) := (zn BK297.out 0).trans rfl
        have hcz45_1 : wr.cell? ⟨gb297, 1, none⟩ = some (u298001) := (zn BK297.out 1).trans rfl
        have hfz45_0 := zp BK297.out 0
        have hfz45_1 := zp BK297.out 1
        obtain ⟨Ao47, co47, eo47⟩ := Kd.R_slice HO_298001.out
        subst eo47
        go_wp2_with (first | ((with_reducible refine gate_builtin (b := .append) (xs := #[.tmp 50, .tmp 52]) rfl ?_); (try (refine gate_guard (by rfl) ?_; dsimp only)); at_builtin; refine Kd.S_append k60 (w0 := w) w.heap.size rfl (.tmp 50) (.tmp 52) 22 60 (.agg #[(.int .i64 0), (.slice none 0 0)]) 32 rfl Try.underlying22 info60 rfl (by decide) (by omega) u279003 x279003_1 (⟨t293, x298001_2⟩ : S60) [.int .i64 t293, .slice Ao47 x298001_2.length co47] (fun k_ => k_ ≠ gb297) (fun k_ => some k_ = (.slice Ao47 x298001_2.length co47 : Value).ownBlock) rfl rfl ?aP (fun k_ hk_ => ((Kd.R_mono (ok' := fun k_ => ((fun k_ => k_ ≠ gb297)) k_ ∧ some k_ ≠ (u279003 : Value).ownBlock) (Kd.R_types (Kd.R_apart' (HO_298001.out) (Kd.S_typed HO_279003.out) (by decide)) BK297.out (by decide)) (fun k_ hk => ⟨hk.2, hk.1.2⟩))).1 k_ hk_.symm) ?aF ?aO ?aB ?aS ?aL ?_; (case aP => exact k60_mkM _ _ _ (⟨t293, x298001_2⟩ : S60) (Kd.R_mono (Kd.R_tight rfl (Kd.R_mono (ok' := fun k_ => ((fun k_ => k_ ≠ gb297)) k_ ∧ some k_ ≠ (u279003 : Value).ownBlock) (Kd.R_types (Kd.R_apart' (HO_298001.out) (Kd.S_typed HO_279003.out) (by decide)) BK297.out (by decide)) (fun k_ hk => ⟨hk.2, hk.1.2⟩))) (fun _ h_ => h_))); (case aB => exact (by repeat (first | (with_reducible first | exact HB.out | apply zg | apply zh | apply zi | refine zo ?_ (IsS63.ge HI273.out) | refine zo ?_ GE270.out | refine zo ?_ GE278.out | refine zo ?_ GE297.out) | exact HB.out))); (case aF => exact (fun k_ hk => Kd.freshB (g := gb297) (o := .cells #[.int .i64 t293, .slice Ao47 x298001_2.length co47] 60 (0, 0)) (by (with_reducible repeat (first | refine za ?_ _ | refine zb ?_ | refine zc ?_ _)); exact BK297.out) k_ hk)); (case aO => exact (by (with_reducible repeat (first | apply Kd.S_alloc | apply Kd.S_drewN | apply Kd.S_drew)); exact Kd.S_mono HO_279003.out (fun k_ hk => ⟨hk.2, fun e_ => hk.1 e_⟩))); (case aS => exact (zk (by repeat (first | (with_reducible first | exact HB.out | apply zg | apply zh | apply zi | refine zo ?_ (IsS63.ge HI273.out) | refine zo ?_ GE270.out | refine zo ?_ GE278.out | refine zo ?_ GE297.out) | exact HB.out)))); (case aL => have := LMc38.out; omega); intro v310 w46 ho hb hg hat; rw [← Ny309.out] at ho; have n0_ := zj (blk_grown (g := gb270) (o := .cells #[.int .i64 0, .int .i64 0, .int .i64 0, .slice none 0 0] 24 (0, 0)) (by (with_reducible repeat (first | refine za ?_ _ | refine zb ?_ | refine zc ?_ _)); exact BK270.out) hg (Kd.S_ne HO_279003.out BK270.out (by decide))); have n1_ := zj (blk_grown (g := gb278) (o := .cells #[.int .i64 t274, .int .i64 t279, .int .i64 t283, u279003] 24 (0, 0)) (by (with_reducible repeat (first | refine za ?_ _ | refine zb ?_ | refine zc ?_ _)); exact BK278.out) hg (Kd.S_ne HO_279003.out BK278.out (by decide))); have n2_ := zj (blk_grown (g := gb297) (o := .cells #[.int .i64 t293, .slice Ao47 x298001_2.length co47] 60 (0, 0)) (by (with_reducible repeat (first | refine za ?_ _ | refine zb ?_ | refine zc ?_ _)); exact BK297.out) hg (Kd.S_away HO_279003.out (fun _ hk => hk.2))); have n3_ := zj (IsS63.grown (by repeat (first | (with_reducible first | exact HI273.out | apply IsS63.alloc | apply IsS63.drewN | apply IsS63.drew | apply IsS63.set_0 | apply IsS63.set_1 | apply IsS63.set_2 | apply IsS63.far (hne := NB273_270.out) | apply IsS63.far (hne := NB273_278.out) | apply IsS63.far (hne := NB273_297.out)) | apply IsS63.far (hne := NB273_270.out) | apply IsS63.far (hne := NB273_278.out) | apply IsS63.far (hne := NB273_297.out) | exact HI273.out)) hg (IsS63.own_neS HI273.out HO_279003.out (by decide))); have n4_ := zj (hb); have n5_ := zj (ho); clear BK270; clear BK278; clear BK297; clear HI273; clear HB; clear HO_279003; clear HO_298001; have BK270 := n0_; have BK278 := n1_; have BK297 := n2_; have HI273 := n3_; have HB := n4_; have HO311 := n5_; clear n0_ n1_ n2_ n3_ n4_ n5_; clear ho hb hg hat; obtain ⟨Ao48, co48, eo48⟩ := Kd.S_slice HO311.out; subst eo48; have hcz49_0 : w46.cell? ⟨gb278, 0, none⟩ = some (.int .i64 t274) := (zn BK278.out 0).trans rfl; have hcz49_1 : w46.cell? ⟨gb278, 1, none⟩ = some (.int .i64 t279) := (zn BK278.out 1).trans rfl; have hcz49_2 : w46.cell? ⟨gb278, 2, none⟩ = some (.int .i64 t283) := (zn BK278.out 2).trans rfl; have hcz49_3 : w46.cell? ⟨gb278, 3, none⟩ = some (u279003) := (zn BK278.out 3).trans rfl; have hfz49_0 := zp BK278.out 0; have hfz49_1 := zp BK278.out 1; have hfz49_2 := zp BK278.out 2; have hfz49_3 := zp BK278.out 3))
        go_roundg k2
        case measure => have := HK1.out; have := HK2.out; omega
        case rel => exact ⟨(wrap64 (x32_1 + 1)), (x274000_2), (x274001_2), (x274002_2), (y309), (.slice Ao48 y309.length co48), (by first | rfl | (simp; done) | (simp [*]; done)), H', ⟨by have := HK1.out; have := HK2.out; omega⟩, ⟨by (with_reducible repeat (first | apply Kd.S_alloc | apply Kd.S_drewN | apply Kd.S_drew)); exact Kd.S_mono (Kd.S_far (p := ⟨gb278, 3, none⟩) (Kd.S_types HO311.out BK278.out (by decide)) (fun _ hk => hk.2) (.slice Ao48 y309.length co48)) (fun _ hk => trivial)⟩, ⟨by (with_reducible repeat (first | refine za ?_ _ | refine zb ?_ | refine zc ?_ _)); refine blk_far ?_ NB270_278.out _; (with_reducible repeat (first | refine za ?_ _ | refine zb ?_ | refine zc ?_ _)); exact BK270.out⟩, ⟨by (with_reducible repeat (first | refine za ?_ _ | refine zb ?_ | refine zc ?_ _)); refine blk_put (cs := #[.int .i64 t274, .int .i64 t279, .int .i64 t283, u279003]) ?_ 3 _ rfl; (with_reducible repeat (first | refine za ?_ _ | refine zb ?_ | refine zc ?_ _)); exact BK278.out⟩, ⟨by repeat (first | (with_reducible first | exact HI273.out | apply IsS63.alloc | apply IsS63.drewN | apply IsS63.drew | apply IsS63.set_0 | apply IsS63.set_1 | apply IsS63.set_2 | apply IsS63.far (hne := NB273_270.out) | apply IsS63.far (hne := NB273_278.out) | apply IsS63.far (hne := NB273_297.out)) | apply IsS63.far (hne := NB273_270.out) | apply IsS63.far (hne := NB273_278.out) | apply IsS63.far (hne := NB273_297.out) | exact HI273.out)⟩, ⟨by repeat (first | (with_reducible first | exact HB.out | apply zg | apply zh | apply zi | refine zo ?_ (IsS63.ge HI273.out) | refine zo ?_ GE270.out | refine zo ?_ GE278.out | refine zo ?_ GE297.out) | exact HB.out)⟩⟩
       ·rw [if_neg c38] at H
        exact absurd H (by simp)
   ·rw [if_neg c20] at H
    have c20b0 : decide (x32_1 < t287) = false := decide_eq_false c20
    clear c20
    replace H := Option.bind_eq_some_iff.mp H
    obtain ⟨⟨t291, t292⟩, A500, H⟩ := H
    replace H : (if x274002_1 = true then (some (0, 0, 0, ([] : List (S60)), false)) else (if x274001_1 = (t271.size : Int) then (if t292 = true then (if t291.toList = a0.toList then (some (t274, t279, t283, x279003_1, true)) else (some (0, 0, 0, ([] : List (S60)), false))) else (some (0, 0, 0, ([] : List (S60)), false))) else (some (0, 0, 0, ([] : List (S60)), false)))) = some (r1, r2, r3, r4, r5) := H
    have A50 := zj A500
    clear A500
    by_cases c51 : x274002_1 = true
    ·subst c51
     have H1 : (some (0, 0, 0, ([] : List (S60)), false)) = some (r1, r2, r3, r4, r5) := by rw [if_pos rfl] at H; exact H
     clear H
     have H := H1
     clear H1
     simp only [Option.some.injEq, Prod.mk.injEq] at H
     obtain ⟨rfl, rfl, rfl, rfl, rfl⟩ := H
     have hnb52 := NB278_270.out
     have hnc52 := NB270_278.out
     have hnb53 := NB278_273.out
     have hnc53 := NB273_278.out
     have hcz54_0 : wr.cell? ⟨gb278, 0, none⟩ = some (.int .i64 t274) := (zn BK278.out 0).trans rfl
     have hcz54_1 : wr.cell? ⟨gb278, 1, none⟩ = some (.int .i64 t279) := (zn BK278.out 1).trans rfl
     have hcz54_2 : wr.cell? ⟨gb278, 2, none⟩ = some (.int .i64 t283) := (zn BK278.out 2).trans rfl
     have hcz54_3 : wr.cell? ⟨gb278, 3, none⟩ = some (u279003) := (zn BK278.out 3).trans rfl
     have hfz54_0 := zp BK278.out 0
     have hfz54_1 := zp BK278.out 1
     have hfz54_2 := zp BK278.out 2
     have hfz54_3 := zp BK278.out 3
     obtain ⟨Ao55, co55, eo55⟩ := Kd.S_slice HO_279003.out
     subst eo55
     go_wp2_with (first | ((with_reducible refine gate_callee (f := 29) rfl ?_); refine goesL_ (some 58) rfl rfl Try.func29 (by kernel_rfl) rfl #[.agg #[.int .i64 t274, .int .i64 t279, .int .i64 t283, .slice Ao55 x279003_1.length co55]] rfl (by (try simp only [List.map_toArray, List.map_cons, List.map_nil]); first | done | rfl | (simp only [List.length_drop, List.length_take]; rfl)) ?_; (with_reducible refine (impl_MetaText.calls k1 t274 t279 t283 _ _ x279003_1 t291 t292 _ ?side1 ?side2 A50.out).mono ?_); (case side1 => repeat (first | exact (Kd.S_reads' HO_279003.out).2.2 | (with_reducible refine Kd.C_alloc ?_ _) | (with_reducible refine Kd.C_drewN ?_ _) | (with_reducible refine Kd.C_drew ?_))); (case side2 => exact (Kd.S_reads' HO_279003.out).2.1); rintro e w56 ⟨rfl, hb⟩; refine ⟨_, rfl, ?_⟩; have n0_ := zj (Kd.S_below (by (with_reducible repeat (first | apply Kd.S_alloc | apply Kd.S_drewN | apply Kd.S_drew)); exact HO_279003.out) hb); have n1_ := zj (zm (g := gb270) (o := .cells #[.int .i64 0, .int .i64 0, .int .i64 0, .slice none 0 0] 24 (0, 0)) (by (with_reducible repeat (first | refine za ?_ _ | refine zb ?_ | refine zc ?_ _)); exact BK270.out) hb); have n2_ := zj (zm (g := gb278) (o := .cells #[.int .i64 t274, .int .i64 t279, .int .i64 t283, .slice Ao55 x279003_1.length co55] 24 (0, 0)) (by (with_reducible repeat (first | refine za ?_ _ | refine zb ?_ | refine zc ?_ _)); exact BK278.out) hb); have n3_ := zj (IsS63.below (by repeat (first | (with_reducible first | exact HI273.out | apply IsS63.alloc | apply IsS63.drewN | apply IsS63.drew | apply IsS63.set_0 | apply IsS63.set_1 | apply IsS63.set_2 | apply IsS63.far (hne := NB273_270.out) | apply IsS63.far (hne := NB273_278.out)) | apply IsS63.far (hne := NB273_270.out) | apply IsS63.far (hne := NB273_278.out) | exact HI273.out)) hb); have n4_ := zj (zl (by repeat (first | (with_reducible first | exact HB.out | apply zg | apply zh | apply zi | refine zo ?_ (IsS63.ge HI273.out) | refine zo ?_ GE270.out | refine zo ?_ GE278.out) | exact HB.out)) hb); clear HO_279003; clear BK270; clear BK278; clear HI273; clear HB; have HO_279003 := n0_; have BK270 := n1_; have BK278 := n2_; have HI273 := n3_; have HB := n4_; clear n0_ n1_ n2_ n3_ n4_; (try clear hb); (try clear hb2); (try clear hk); (try clear hi); obtain ⟨HGz57, hgz57⟩ := HI273.out; have hcz57_0 := cellS63_0 HGz57; have hcz57_1 := cellS63_1 HGz57; have hcz57_2 := cellS63_2 HGz57; have hfz57_0 := zp HGz57 0; have hfz57_1 := zp HGz57 1; have hfz57_2 := zp HGz57 2; clear HGz57 hgz57; have hnb58 := NB270_273.out; have hnc58 := NB273_270.out; have hcz59_0 : w56.cell? ⟨gb270, 0, none⟩ = some (.int .i64 0) := (zn BK270.out 0).trans rfl; have hcz59_1 : w56.cell? ⟨gb270, 1, none⟩ = some (.int .i64 0) := (zn BK270.out 1).trans rfl; have hcz59_2 : w56.cell? ⟨gb270, 2, none⟩ = some (.int .i64 0) := (zn BK270.out 2).trans rfl; have hcz59_3 : w56.cell? ⟨gb270, 3, none⟩ = some (.slice none 0 0) := (zn BK270.out 3).trans rfl; have hfz59_0 := zp BK270.out 0; have hfz59_1 := zp BK270.out 1; have hfz59_2 := zp BK270.out 2; have hfz59_3 := zp BK270.out 3))
     refine bodyPost_ret (results_ct rfl _ _ gb270 24 #[.int .i64 0, .int .i64 0, .int .i64 0, .slice none 0 0] (0, 0) _ rfl (by (with_reducible repeat (first | refine za ?_ _ | refine zb ?_ | refine zc ?_ _)); refine blk_put (cs := #[.int .i64 0, .int .i64 0, .int .i64 0, .slice none 0 0]) ?_ 3 _ rfl; (with_reducible repeat (first | refine za ?_ _ | refine zb ?_ | refine zc ?_ _)); refine blk_put (cs := #[.int .i64 0, .int .i64 0, .int .i64 0, .slice none 0 0]) ?_ 2 _ rfl; (with_reducible repeat (first | refine za ?_ _ | refine zb ?_ | refine zc ?_ _)); refine blk_put (cs := #[.int .i64 0, .int .i64 0, .int .i64 0, .slice none 0 0]) ?_ 1 _ rfl; (with_reducible repeat (first | refine za ?_ _ | refine zb ?_ | refine zc ?_ _)); refine blk_put (cs := #[.int .i64 0, .int .i64 0, .int .i64 0, .slice none 0 0]) ?_ 0 _ rfl; (with_reducible repeat (first | refine za ?_ _ | refine zb ?_ | refine zc ?_ _)); exact BK270.out) Try.underlying24 rfl (by kernel_rfl)) rfl ?_
     exact ⟨_, by first | rfl | (simp [errW_none, errW_some] <;> rfl) | (simp [*, errW_none, errW_some] <;> rfl), by first | exact Kd.S_nil _ _ _ _ _ | exact Kd.N_nil _ _ _ _ _ | exact Kd.V_nil _ _ _ _ _ | exact Kd.Q_nil _ _ _ _ _ | exact Kd.R_nil _ _ _ _ _, by repeat (first | (with_reducible first | exact HB.out | apply zg | apply zh | apply zi | refine zo ?_ (IsS63.ge HI273.out) | refine zo ?_ GE270.out | refine zo ?_ GE278.out) | exact HB.out)⟩
    ·replace c51 := Bool.eq_false_iff.mpr c51
     subst c51
     have H1 : (if x274001_1 = (t271.size : Int) then (if t292 = true then (if t291.toList = a0.toList then (some (t274, t279, t283, x279003_1, true)) else (some (0, 0, 0, ([] : List (S60)), false))) else (some (0, 0, 0, ([] : List (S60)), false))) else (some (0, 0, 0, ([] : List (S60)), false))) = some (r1, r2, r3, r4, r5) := by rw [if_neg (show ¬ (false = true) by decide)] at H; exact H
     clear H
     have H := H1
     clear H1
     by_cases c60 : x274001_1 = (t271.size : Int)
     ·rw [if_pos c60] at H
      have c60b0 : (x274001_1 == (t271.size : Int)) = true := beq_iff_eq.mpr c60
      have c60b1 : (x274001_1 != (t271.size : Int)) = false := bne_eq_false_iff_eq.mpr c60
      clear c60
      by_cases c61 : t292 = true
      ·subst c61
       have H1 : (if t291.toList = a0.toList then (some (t274, t279, t283, x279003_1, true)) else (some (0, 0, 0, ([] : List (S60)), false))) = some (r1, r2, r3, r4, r5) := by rw [if_pos rfl] at H; exact H
       clear H
       have H := H1
       clear H1
       by_cases c62 : t291.toList = a0.toList
       ·rw [if_pos c62] at H
        have c62b0 : (t291.toList == a0.toList) = true := beq_iff_eq.mpr c62
        have c62b1 : (t291.toList != a0.toList) = false := bne_eq_false_iff_eq.mpr c62
        clear c62
        simp only [Option.some.injEq, Prod.mk.injEq] at H
        obtain ⟨rfl, rfl, rfl, rfl, rfl⟩ := H
        have hnb63 := NB278_270.out
        have hnc63 := NB270_278.out
        have hnb64 := NB278_273.out
        have hnc64 := NB273_278.out
        have hcz65_0 : wr.cell? ⟨gb278, 0, none⟩ = some (.int .i64 t274) := (zn BK278.out 0).trans rfl
        have hcz65_1 : wr.cell? ⟨gb278, 1, none⟩ = some (.int .i64 t279) := (zn BK278.out 1).trans rfl
        have hcz65_2 : wr.cell? ⟨gb278, 2, none⟩ = some (.int .i64 t283) := (zn BK278.out 2).trans rfl
        have hcz65_3 : wr.cell? ⟨gb278, 3, none⟩ = some (u279003) := (zn BK278.out 3).trans rfl
        have hfz65_0 := zp BK278.out 0
        have hfz65_1 := zp BK278.out 1
        have hfz65_2 := zp BK278.out 2
        have hfz65_3 := zp BK278.out 3
        obtain ⟨Ao66, co66, eo66⟩ := Kd.S_slice HO_279003.out
        subst eo66
        go_wp2_with (first | ((with_reducible refine gate_callee (f := 29) rfl ?_); refine goesL_ (some 58) rfl rfl Try.func29 (by kernel_rfl) rfl #[.agg #[.int .i64 t274, .int .i64 t279, .int .i64 t283, .slice Ao66 x279003_1.length co66]] rfl (by (try simp only [List.map_toArray, List.map_cons, List.map_nil]); first | done | rfl | (simp only [List.length_drop, List.length_take]; rfl)) ?_; (with_reducible refine (impl_MetaText.calls k1 t274 t279 t283 _ _ x279003_1 t291 true _ ?side1 ?side2 A50.out).mono ?_); (case side1 => repeat (first | exact (Kd.S_reads' HO_279003.out).2.2 | (with_reducible refine Kd.C_alloc ?_ _) | (with_reducible refine Kd.C_drewN ?_ _) | (with_reducible refine Kd.C_drew ?_))); (case side2 => exact (Kd.S_reads' HO_279003.out).2.1); rintro e w67 ⟨rfl, hb⟩; refine ⟨_, rfl, ?_⟩; have n0_ := zj (Kd.S_below (by (with_reducible repeat (first | apply Kd.S_alloc | apply Kd.S_drewN | apply Kd.S_drew)); exact HO_279003.out) hb); have n1_ := zj (zm (g := gb270) (o := .cells #[.int .i64 0, .int .i64 0, .int .i64 0, .slice none 0 0] 24 (0, 0)) (by (with_reducible repeat (first | refine za ?_ _ | refine zb ?_ | refine zc ?_ _)); exact BK270.out) hb); have n2_ := zj (zm (g := gb278) (o := .cells #[.int .i64 t274, .int .i64 t279, .int .i64 t283, .slice Ao66 x279003_1.length co66] 24 (0, 0)) (by (with_reducible repeat (first | refine za ?_ _ | refine zb ?_ | refine zc ?_ _)); exact BK278.out) hb); have n3_ := zj (IsS63.below (by repeat (first | (with_reducible first | exact HI273.out | apply IsS63.alloc | apply IsS63.drewN | apply IsS63.drew | apply IsS63.set_0 | apply IsS63.set_1 | apply IsS63.set_2 | apply IsS63.far (hne := NB273_270.out) | apply IsS63.far (hne := NB273_278.out)) | apply IsS63.far (hne := NB273_270.out) | apply IsS63.far (hne := NB273_278.out) | exact HI273.out)) hb); have n4_ := zj (zl (by repeat (first | (with_reducible first | exact HB.out | apply zg | apply zh | apply zi | refine zo ?_ (IsS63.ge HI273.out) | refine zo ?_ GE270.out | refine zo ?_ GE278.out) | exact HB.out)) hb); clear HO_279003; clear BK270; clear BK278; clear HI273; clear HB; have HO_279003 := n0_; have BK270 := n1_; have BK278 := n2_; have HI273 := n3_; have HB := n4_; clear n0_ n1_ n2_ n3_ n4_; (try clear hb); (try clear hb2); (try clear hk); (try clear hi); obtain ⟨HGz68, hgz68⟩ := HI273.out; have hcz68_0 := cellS63_0 HGz68; have hcz68_1 := cellS63_1 HGz68; have hcz68_2 := cellS63_2 HGz68; have hfz68_0 := zp HGz68 0; have hfz68_1 := zp HGz68 1; have hfz68_2 := zp HGz68 2; clear HGz68 hgz68; have hcz69_0 : w67.cell? ⟨gb278, 0, none⟩ = some (.int .i64 t274) := (zn BK278.out 0).trans rfl; have hcz69_1 : w67.cell? ⟨gb278, 1, none⟩ = some (.int .i64 t279) := (zn BK278.out 1).trans rfl; have hcz69_2 : w67.cell? ⟨gb278, 2, none⟩ = some (.int .i64 t283) := (zn BK278.out 2).trans rfl; have hcz69_3 : w67.cell? ⟨gb278, 3, none⟩ = some (.slice Ao66 x279003_1.length co66) := (zn BK278.out 3).trans rfl; have hfz69_0 := zp BK278.out 0; have hfz69_1 := zp BK278.out 1; have hfz69_2 := zp BK278.out 2; have hfz69_3 := zp BK278.out 3; have hnb70 := NB270_273.out; have hnc70 := NB273_270.out; have hcz71_0 : w67.cell? ⟨gb270, 0, none⟩ = some (.int .i64 0) := (zn BK270.out 0).trans rfl; have hcz71_1 : w67.cell? ⟨gb270, 1, none⟩ = some (.int .i64 0) := (zn BK270.out 1).trans rfl; have hcz71_2 : w67.cell? ⟨gb270, 2, none⟩ = some (.int .i64 0) := (zn BK270.out 2).trans rfl; have hcz71_3 : w67.cell? ⟨gb270, 3, none⟩ = some (.slice none 0 0) := (zn BK270.out 3).trans rfl; have hfz71_0 := zp BK270.out 0; have hfz71_1 := zp BK270.out 1; have hfz71_2 := zp BK270.out 2; have hfz71_3 := zp BK270.out 3))
        refine bodyPost_ret (results_ct rfl _ _ gb270 24 #[.int .i64 t274, .int .i64 t279, .int .i64 t283, .slice Ao66 x279003_1.length co66] (0, 0) _ rfl (by (with_reducible repeat (first | refine za ?_ _ | refine zb ?_ | refine zc ?_ _)); refine blk_put (cs := #[.int .i64 t274, .int .i64 t279, .int .i64 t283, .slice none 0 0]) ?_ 3 _ rfl; (with_reducible repeat (first | refine za ?_ _ | refine zb ?_ | refine zc ?_ _)); refine blk_put (cs := #[.int .i64 t274, .int .i64 t279, .int .i64 0, .slice none 0 0]) ?_ 2 _ rfl; (with_reducible repeat (first | refine za ?_ _ | refine zb ?_ | refine zc ?_ _)); refine blk_put (cs := #[.int .i64 t274, .int .i64 0, .int .i64 0, .slice none 0 0]) ?_ 1 _ rfl; (with_reducible repeat (first | refine za ?_ _ | refine zb ?_ | refine zc ?_ _)); refine blk_put (cs := #[.int .i64 0, .int .i64 0, .int .i64 0, .slice none 0 0]) ?_ 0 _ rfl; (with_reducible repeat (first | refine za ?_ _ | refine zb ?_ | refine zc ?_ _)); exact BK270.out) Try.underlying24 rfl (by kernel_rfl)) rfl ?_
        exact ⟨_, by first | rfl | (simp [errW_none, errW_some] <;> rfl) | (simp [*, errW_none, errW_some] <;> rfl), by (with_reducible repeat (first | apply Kd.S_alloc | apply Kd.S_drewN | apply Kd.S_drew)); exact Kd.S_mono (Kd.S_far (p := ⟨gb270, 3, none⟩) (Kd.S_far (p := ⟨gb270, 2, none⟩) (Kd.S_far (p := ⟨gb270, 1, none⟩) (Kd.S_far (p := ⟨gb270, 0, none⟩) (Kd.S_types HO_279003.out BK270.out (by decide)) (fun _ hk => hk.2) (.int .i64 t274)) (fun _ hk => hk.2) (.int .i64 t279)) (fun _ hk => hk.2) (.int .i64 t283)) (fun _ hk => hk.2) (.slice Ao66 x279003_1.length co66)) (fun _ hk => trivial), by repeat (first | (with_reducible first | exact HB.out | apply zg | apply zh | apply zi | refine zo ?_ (IsS63.ge HI273.out) | refine zo ?_ GE270.out | refine zo ?_ GE278.out) | exact HB.out)⟩
       ·rw [if_neg c62] at H
        have c62b0 : (t291.toList == a0.toList) = false := beq_eq_false_iff_ne.mpr c62
        have c62b1 : (t291.toList != a0.toList) = true := bne_iff_ne.mpr c62
        simp only [Option.some.injEq, Prod.mk.injEq] at H
        obtain ⟨rfl, rfl, rfl, rfl, rfl⟩ := H
        have hnb72 := NB278_270.out
        have hnc72 := NB270_278.out
        have hnb73 := NB278_273.out
        have hnc73 := NB273_278.out
        have hcz74_0 : wr.cell? ⟨gb278, 0, none⟩ = some (.int .i64 t274) := (zn BK278.out 0).trans rfl
        have hcz74_1 : wr.cell? ⟨gb278, 1, none⟩ = some (.int .i64 t279) := (zn BK278.out 1).trans rfl
        have hcz74_2 : wr.cell? ⟨gb278, 2, none⟩ = some (.int .i64 t283) := (zn BK278.out 2).trans rfl
        have hcz74_3 : wr.cell? ⟨gb278, 3, none⟩ = some (u279003) := (zn BK278.out 3).trans rfl
        have hfz74_0 := zp BK278.out 0
        have hfz74_1 := zp BK278.out 1
        have hfz74_2 := zp BK278.out 2
        have hfz74_3 := zp BK278.out 3
        obtain ⟨Ao75, co75, eo75⟩ := Kd.S_slice HO_279003.out
        subst eo75
        go_wp2_with (first | ((with_reducible refine gate_callee (f := 29) rfl ?_); refine goesL_ (some 58) rfl rfl Try.func29 (by kernel_rfl) rfl #[.agg #[.int .i64 t274, .int .i64 t279, .int .i64 t283, .slice Ao75 x279003_1.length co75]] rfl (by (try simp only [List.map_toArray, List.map_cons, List.map_nil]); first | done | rfl | (simp only [List.length_drop, List.length_take]; rfl)) ?_; (with_reducible refine (impl_MetaText.calls k1 t274 t279 t283 _ _ x279003_1 t291 true _ ?side1 ?side2 A50.out).mono ?_); (case side1 => repeat (first | exact (Kd.S_reads' HO_279003.out).2.2 | (with_reducible refine Kd.C_alloc ?_ _) | (with_reducible refine Kd.C_drewN ?_ _) | (with_reducible refine Kd.C_drew ?_))); (case side2 => exact (Kd.S_reads' HO_279003.out).2.1); rintro e w76 ⟨rfl, hb⟩; refine ⟨_, rfl, ?_⟩; have n0_ := zj (Kd.S_below (by (with_reducible repeat (first | apply Kd.S_alloc | apply Kd.S_drewN | apply Kd.S_drew)); exact HO_279003.out) hb); have n1_ := zj (zm (g := gb270) (o := .cells #[.int .i64 0, .int .i64 0, .int .i64 0, .slice none 0 0] 24 (0, 0)) (by (with_reducible repeat (first | refine za ?_ _ | refine zb ?_ | refine zc ?_ _)); exact BK270.out) hb); have n2_ := zj (zm (g := gb278) (o := .cells #[.int .i64 t274, .int .i64 t279, .int .i64 t283, .slice Ao75 x279003_1.length co75] 24 (0, 0)) (by (with_reducible repeat (first | refine za ?_ _ | refine zb ?_ | refine zc ?_ _)); exact BK278.out) hb); have n3_ := zj (IsS63.below (by repeat (first | (with_reducible first | exact HI273.out | apply IsS63.alloc | apply IsS63.drewN | apply IsS63.drew | apply IsS63.set_0 | apply IsS63.set_1 | apply IsS63.set_2 | apply IsS63.far (hne := NB273_270.out) | apply IsS63.far (hne := NB273_278.out)) | apply IsS63.far (hne := NB273_270.out) | apply IsS63.far (hne := NB273_278.out) | exact HI273.out)) hb); have n4_ := zj (zl (by repeat (first | (with_reducible first | exact HB.out | apply zg | apply zh | apply zi | refine zo ?_ (IsS63.ge HI273.out) | refine zo ?_ GE270.out | refine zo ?_ GE278.out) | exact HB.out)) hb); clear HO_279003; clear BK270; clear BK278; clear HI273; clear HB; have HO_279003 := n0_; have BK270 := n1_; have BK278 := n2_; have HI273 := n3_; have HB := n4_; clear n0_ n1_ n2_ n3_ n4_; (try clear hb); (try clear hb2); (try clear hk); (try clear hi); obtain ⟨HGz77, hgz77⟩ := HI273.out; have hcz77_0 := cellS63_0 HGz77; have hcz77_1 := cellS63_1 HGz77; have hcz77_2 := cellS63_2 HGz77; have hfz77_0 := zp HGz77 0; have hfz77_1 := zp HGz77 1; have hfz77_2 := zp HGz77 2; clear HGz77 hgz77; have hnb78 := NB270_273.out; have hnc78 := NB273_270.out; have hcz79_0 : w76.cell? ⟨gb270, 0, none⟩ = some (.int .i64 0) := (zn BK270.out 0).trans rfl; have hcz79_1 : w76.cell? ⟨gb270, 1, none⟩ = some (.int .i64 0) := (zn BK270.out 1).trans rfl; have hcz79_2 : w76.cell? ⟨gb270, 2, none⟩ = some (.int .i64 0) := (zn BK270.out 2).trans rfl; have hcz79_3 : w76.cell? ⟨gb270, 3, none⟩ = some (.slice none 0 0) := (zn BK270.out 3).trans rfl; have hfz79_0 := zp BK270.out 0; have hfz79_1 := zp BK270.out 1; have hfz79_2 := zp BK270.out 2; have hfz79_3 := zp BK270.out 3))
        refine bodyPost_ret (results_ct rfl _ _ gb270 24 #[.int .i64 0, .int .i64 0, .int .i64 0, .slice none 0 0] (0, 0) _ rfl (by (with_reducible repeat (first | refine za ?_ _ | refine zb ?_ | refine zc ?_ _)); refine blk_put (cs := #[.int .i64 0, .int .i64 0, .int .i64 0, .slice none 0 0]) ?_ 3 _ rfl; (with_reducible repeat (first | refine za ?_ _ | refine zb ?_ | refine zc ?_ _)); refine blk_put (cs := #[.int .i64 0, .int .i64 0, .int .i64 0, .slice none 0 0]) ?_ 2 _ rfl; (with_reducible repeat (first | refine za ?_ _ | refine zb ?_ | refine zc ?_ _)); refine blk_put (cs := #[.int .i64 0, .int .i64 0, .int .i64 0, .slice none 0 0]) ?_ 1 _ rfl; (with_reducible repeat (first | refine za ?_ _ | refine zb ?_ | refine zc ?_ _)); refine blk_put (cs := #[.int .i64 0, .int .i64 0, .int .i64 0, .slice none 0 0]) ?_ 0 _ rfl; (with_reducible repeat (first | refine za ?_ _ | refine zb ?_ | refine zc ?_ _)); exact BK270.out) Try.underlying24 rfl (by kernel_rfl)) rfl ?_
        exact ⟨_, by first | rfl | (simp [errW_none, errW_some] <;> rfl) | (simp [*, errW_none, errW_some] <;> rfl), by first | exact Kd.S_nil _ _ _ _ _ | exact Kd.N_nil _ _ _ _ _ | exact Kd.V_nil _ _ _ _ _ | exact Kd.Q_nil _ _ _ _ _ | exact Kd.R_nil _ _ _ _ _, by repeat (first | (with_reducible first | exact HB.out | apply zg | apply zh | apply zi | refine zo ?_ (IsS63.ge HI273.out) | refine zo ?_ GE270.out | refine zo ?_ GE278.out) | exact HB.out)⟩
      ·replace c61 := Bool.eq_false_iff.mpr c61
       subst c61
       have H1 : (some (0, 0, 0, ([] : List (S60)), false)) = some (r1, r2, r3, r4, r5) := by rw [if_neg (show ¬ (false = true) by decide)] at H; exact H
       clear H
       have H := H1
       clear H1
       simp only [Option.some.injEq, Prod.mk.injEq] at H
       obtain ⟨rfl, rfl, rfl, rfl, rfl⟩ := H
       have hnb80 := NB278_270.out
       have hnc80 := NB270_278.out
       have hnb81 := NB278_273.out
       have hnc81 := NB273_278.out
       have hcz82_0 : wr.cell? ⟨gb278, 0, none⟩ = some (.int .i64 t274) := (zn BK278.out 0).trans rfl
       have hcz82_1 : wr.cell? ⟨gb278, 1, none⟩ = some (.int .i64 t279) := (zn BK278.out 1).trans rfl
       have hcz82_2 : wr.cell? ⟨gb278, 2, none⟩ = some (.int .i64 t283) := (zn BK278.out 2).trans rfl
       have hcz82_3 : wr.cell? ⟨gb278, 3, none⟩ = some (u279003) := (zn BK278.out 3).trans rfl
       have hfz82_0 := zp BK278.out 0
       have hfz82_1 := zp BK278.out 1
       have hfz82_2 := zp BK278.out 2
       have hfz82_3 := zp BK278.out 3
       obtain ⟨Ao83, co83, eo83⟩ := Kd.S_slice HO_279003.out
       subst eo83
       go_wp2_with (first | ((with_reducible refine gate_callee (f := 29) rfl ?_); refine goesL_ (some 58) rfl rfl Try.func29 (by kernel_rfl) rfl #[.agg #[.int .i64 t274, .int .i64 t279, .int .i64 t283, .slice Ao83 x279003_1.length co83]] rfl (by (try simp only [List.map_toArray, List.map_cons, List.map_nil]); first | done | rfl | (simp only [List.length_drop, List.length_take]; rfl)) ?_; (with_reducible refine (impl_MetaText.calls k1 t274 t279 t283 _ _ x279003_1 t291 false _ ?side1 ?side2 A50.out).mono ?_); (case side1 => repeat (first | exact (Kd.S_reads' HO_279003.out).2.2 | (with_reducible refine Kd.C_alloc ?_ _) | (with_reducible refine Kd.C_drewN ?_ _) | (with_reducible refine Kd.C_drew ?_))); (case side2 => exact (Kd.S_reads' HO_279003.out).2.1); rintro e w84 ⟨rfl, hb⟩; refine ⟨_, rfl, ?_⟩; have n0_ := zj (Kd.S_below (by (with_reducible repeat (first | apply Kd.S_alloc | apply Kd.S_drewN | apply Kd.S_drew)); exact HO_279003.out) hb); have n1_ := zj (zm (g := gb270) (o := .cells #[.int .i64 0, .int .i64 0, .int .i64 0, .slice none 0 0] 24 (0, 0)) (by (with_reducible repeat (first | refine za ?_ _ | refine zb ?_ | refine zc ?_ _)); exact BK270.out) hb); have n2_ := zj (zm (g := gb278) (o := .cells #[.int .i64 t274, .int .i64 t279, .int .i64 t283, .slice Ao83 x279003_1.length co83] 24 (0, 0)) (by (with_reducible repeat (first | refine za ?_ _ | refine zb ?_ | refine zc ?_ _)); exact BK278.out) hb); have n3_ := zj (IsS63.below (by repeat (first | (with_reducible first | exact HI273.out | apply IsS63.alloc | apply IsS63.drewN | apply IsS63.drew | apply IsS63.set_0 | apply IsS63.set_1 | apply IsS63.set_2 | apply IsS63.far (hne := NB273_270.out) | apply IsS63.far (hne := NB273_278.out)) | apply IsS63.far (hne := NB273_270.out) | apply IsS63.far (hne := NB273_278.out) | exact HI273.out)) hb); have n4_ := zj (zl (by repeat (first | (with_reducible first | exact HB.out | apply zg | apply zh | apply zi | refine zo ?_ (IsS63.ge HI273.out) | refine zo ?_ GE270.out | refine zo ?_ GE278.out) | exact HB.out)) hb); clear HO_279003; clear BK270; clear BK278; clear HI273; clear HB; have HO_279003 := n0_; have BK270 := n1_; have BK278 := n2_; have HI273 := n3_; have HB := n4_; clear n0_ n1_ n2_ n3_ n4_; (try clear hb); (try clear hb2); (try clear hk); (try clear hi); obtain ⟨HGz85, hgz85⟩ := HI273.out; have hcz85_0 := cellS63_0 HGz85; have hcz85_1 := cellS63_1 HGz85; have hcz85_2 := cellS63_2 HGz85; have hfz85_0 := zp HGz85 0; have hfz85_1 := zp HGz85 1; have hfz85_2 := zp HGz85 2; clear HGz85 hgz85; have hnb86 := NB270_273.out; have hnc86 := NB273_270.out; have hcz87_0 : w84.cell? ⟨gb270, 0, none⟩ = some (.int .i64 0) := (zn BK270.out 0).trans rfl; have hcz87_1 : w84.cell? ⟨gb270, 1, none⟩ = some (.int .i64 0) := (zn BK270.out 1).trans rfl; have hcz87_2 : w84.cell? ⟨gb270, 2, none⟩ = some (.int .i64 0) := (zn BK270.out 2).trans rfl; have hcz87_3 : w84.cell? ⟨gb270, 3, none⟩ = some (.slice none 0 0) := (zn BK270.out 3).trans rfl; have hfz87_0 := zp BK270.out 0; have hfz87_1 := zp BK270.out 1; have hfz87_2 := zp BK270.out 2; have hfz87_3 := zp BK270.out 3))
       refine bodyPost_ret (results_ct rfl _ _ gb270 24 #[.int .i64 0, .int .i64 0, .int .i64 0, .slice none 0 0] (0, 0) _ rfl (by (with_reducible repeat (first | refine za ?_ _ | refine zb ?_ | refine zc ?_ _)); refine blk_put (cs := #[.int .i64 0, .int .i64 0, .int .i64 0, .slice none 0 0]) ?_ 3 _ rfl; (with_reducible repeat (first | refine za ?_ _ | refine zb ?_ | refine zc ?_ _)); refine blk_put (cs := #[.int .i64 0, .int .i64 0, .int .i64 0, .slice none 0 0]) ?_ 2 _ rfl; (with_reducible repeat (first | refine za ?_ _ | refine zb ?_ | refine zc ?_ _)); refine blk_put (cs := #[.int .i64 0, .int .i64 0, .int .i64 0, .slice none 0 0]) ?_ 1 _ rfl; (with_reducible repeat (first | refine za ?_ _ | refine zb ?_ | refine zc ?_ _)); refine blk_put (cs := #[.int .i64 0, .int .i64 0, .int .i64 0, .slice none 0 0]) ?_ 0 _ rfl; (with_reducible repeat (first | refine za ?_ _ | refine zb ?_ | refine zc ?_ _)); exact BK270.out) Try.underlying24 rfl (by kernel_rfl)) rfl ?_
       exact ⟨_, by first | rfl | (simp [errW_none, errW_some] <;> rfl) | (simp [*, errW_none, errW_some] <;> rfl), by first | exact Kd.S_nil _ _ _ _ _ | exact Kd.N_nil _ _ _ _ _ | exact Kd.V_nil _ _ _ _ _ | exact Kd.Q_nil _ _ _ _ _ | exact Kd.R_nil _ _ _ _ _, by repeat (first | (with_reducible first | exact HB.out | apply zg | apply zh | apply zi | refine zo ?_ (IsS63.ge HI273.out) | refine zo ?_ GE270.out | refine zo ?_ GE278.out) | exact HB.out)⟩
     ·rw [if_neg c60] at H
      have c60b0 : (x274001_1 == (t271.size : Int)) = false := beq_eq_false_iff_ne.mpr c60
      have c60b1 : (x274001_1 != (t271.size : Int)) = true := bne_iff_ne.mpr c60
      simp only [Option.some.injEq, Prod.mk.injEq] at H
      obtain ⟨rfl, rfl, rfl, rfl, rfl⟩ := H
      have hnb88 := NB278_270.out
      have hnc88 := NB270_278.out
      have hnb89 := NB278_273.out
      have hnc89 := NB273_278.out
      have hcz90_0 : wr.cell? ⟨gb278, 0, none⟩ = some (.int .i64 t274) := (zn BK278.out 0).trans rfl
      have hcz90_1 : wr.cell? ⟨gb278, 1, none⟩ = some (.int .i64 t279) := (zn BK278.out 1).trans rfl
      have hcz90_2 : wr.cell? ⟨gb278, 2, none⟩ = some (.int .i64 t283) := (zn BK278.out 2).trans rfl
      have hcz90_3 : wr.cell? ⟨gb278, 3, none⟩ = some (u279003) := (zn BK278.out 3).trans rfl
      have hfz90_0 := zp BK278.out 0
      have hfz90_1 := zp BK278.out 1
      have hfz90_2 := zp BK278.out 2
      have hfz90_3 := zp BK278.out 3
      obtain ⟨Ao91, co91, eo91⟩ := Kd.S_slice HO_279003.out
      subst eo91
      go_wp2_with (first | ((with_reducible refine gate_callee (f := 29) rfl ?_); refine goesL_ (some 58) rfl rfl Try.func29 (by kernel_rfl) rfl #[.agg #[.int .i64 t274, .int .i64 t279, .int .i64 t283, .slice Ao91 x279003_1.length co91]] rfl (by (try simp only [List.map_toArray, List.map_cons, List.map_nil]); first | done | rfl | (simp only [List.length_drop, List.length_take]; rfl)) ?_; (with_reducible refine (impl_MetaText.calls k1 t274 t279 t283 _ _ x279003_1 t291 t292 _ ?side1 ?side2 A50.out).mono ?_); (case side1 => repeat (first | exact (Kd.S_reads' HO_279003.out).2.2 | (with_reducible refine Kd.C_alloc ?_ _) | (with_reducible refine Kd.C_drewN ?_ _) | (with_reducible refine Kd.C_drew ?_))); (case side2 => exact (Kd.S_reads' HO_279003.out).2.1); rintro e w92 ⟨rfl, hb⟩; refine ⟨_, rfl, ?_⟩; have n0_ := zj (Kd.S_below (by (with_reducible repeat (first | apply Kd.S_alloc | apply Kd.S_drewN | apply Kd.S_drew)); exact HO_279003.out) hb); have n1_ := zj (zm (g := gb270) (o := .cells #[.int .i64 0, .int .i64 0, .int .i64 0, .slice none 0 0] 24 (0, 0)) (by (with_reducible repeat (first | refine za ?_ _ | refine zb ?_ | refine zc ?_ _)); exact BK270.out) hb); have n2_ := zj (zm (g := gb278) (o := .cells #[.int .i64 t274, .int .i64 t279, .int .i64 t283, .slice Ao91 x279003_1.length co91] 24 (0, 0)) (by (with_reducible repeat (first | refine za ?_ _ | refine zb ?_ | refine zc ?_ _)); exact BK278.out) hb); have n3_ := zj (IsS63.below (by repeat (first | (with_reducible first | exact HI273.out | apply IsS63.alloc | apply IsS63.drewN | apply IsS63.drew | apply IsS63.set_0 | apply IsS63.set_1 | apply IsS63.set_2 | apply IsS63.far (hne := NB273_270.out) | apply IsS63.far (hne := NB273_278.out)) | apply IsS63.far (hne := NB273_270.out) | apply IsS63.far (hne := NB273_278.out) | exact HI273.out)) hb); have n4_ := zj (zl (by repeat (first | (with_reducible first | exact HB.out | apply zg | apply zh | apply zi | refine zo ?_ (IsS63.ge HI273.out) | refine zo ?_ GE270.out | refine zo ?_ GE278.out) | exact HB.out)) hb); clear HO_279003; clear BK270; clear BK278; clear HI273; clear HB; have HO_279003 := n0_; have BK270 := n1_; have BK278 := n2_; have HI273 := n3_; have HB := n4_; clear n0_ n1_ n2_ n3_ n4_; (try clear hb); (try clear hb2); (try clear hk); (try clear hi); obtain ⟨HGz93, hgz93⟩ := HI273.out; have hcz93_0 := cellS63_0 HGz93; have hcz93_1 := cellS63_1 HGz93; have hcz93_2 := cellS63_2 HGz93; have hfz93_0 := zp HGz93 0; have hfz93_1 := zp HGz93 1; have hfz93_2 := zp HGz93 2; clear HGz93 hgz93; have hnb94 := NB270_273.out; have hnc94 := NB273_270.out; have hcz95_0 : w92.cell? ⟨gb270, 0, none⟩ = some (.int .i64 0) := (zn BK270.out 0).trans rfl; have hcz95_1 : w92.cell? ⟨gb270, 1, none⟩ = some (.int .i64 0) := (zn BK270.out 1).trans rfl; have hcz95_2 : w92.cell? ⟨gb270, 2, none⟩ = some (.int .i64 0) := (zn BK270.out 2).trans rfl; have hcz95_3 : w92.cell? ⟨gb270, 3, none⟩ = some (.slice none 0 0) := (zn BK270.out 3).trans rfl; have hfz95_0 := zp BK270.out 0; have hfz95_1 := zp BK270.out 1; have hfz95_2 := zp BK270.out 2; have hfz95_3 := zp BK270.out 3))
      refine bodyPost_ret (results_ct rfl _ _ gb270 24 #[.int .i64 0, .int .i64 0, .int .i64 0, .slice none 0 0] (0, 0) _ rfl (by (with_reducible repeat (first | refine za ?_ _ | refine zb ?_ | refine zc ?_ _)); refine blk_put (cs := #[.int .i64 0, .int .i64 0, .int .i64 0, .slice none 0 0]) ?_ 3 _ rfl; (with_reducible repeat (first | refine za ?_ _ | refine zb ?_ | refine zc ?_ _)); refine blk_put (cs := #[.int .i64 0, .int .i64 0, .int .i64 0, .slice none 0 0]) ?_ 2 _ rfl; (with_reducible repeat (first | refine za ?_ _ | refine zb ?_ | refine zc ?_ _)); refine blk_put (cs := #[.int .i64 0, .int .i64 0, .int .i64 0, .slice none 0 0]) ?_ 1 _ rfl; (with_reducible repeat (first | refine za ?_ _ | refine zb ?_ | refine zc ?_ _)); refine blk_put (cs := #[.int .i64 0, .int .i64 0, .int .i64 0, .slice none 0 0]) ?_ 0 _ rfl; (with_reducible repeat (first | refine za ?_ _ | refine zb ?_ | refine zc ?_ _)); exact BK270.out) Try.underlying24 rfl (by kernel_rfl)) rfl ?_
      exact ⟨_, by first | rfl | (simp [errW_none, errW_some] <;> rfl) | (simp [*, errW_none, errW_some] <;> rfl), by first | exact Kd.S_nil _ _ _ _ _ | exact Kd.N_nil _ _ _ _ _ | exact Kd.V_nil _ _ _ _ _ | exact Kd.Q_nil _ _ _ _ _ | exact Kd.R_nil _ _ _ _ _, by repeat (first | (with_reducible first | exact HB.out | apply zg | apply zh | apply zi | refine zo ?_ (IsS63.ge HI273.out) | refine zo ?_ GE270.out | refine zo ?_ GE278.out) | exact HB.out)⟩

/-! ### laws_eqIntS: function 79 -/
def laws_eqIntS.l0 : Nat → List Int → List Int → Int → Option (Bool)
 | 0, _, _, _ => none
 | k + 1, x0, x1, x5 => if x5 < (x0.length : Int) then (if 0 ≤ x5 then (if x5 < (x1.length : Int) then (if (rd x0 x5) = (rd x1 x5) then (laws_eqIntS.l0 k x0 x1 (wrap64 (x5 + 1))) else (none)) else (none)) else (none)) else (some true)
def laws_eqIntS.f (k : Nat) (l0 : List Int) (l1 : List Int) : Option (Bool) := if (l0.length : Int) = (l1.length : Int) then (laws_eqIntS.l0 k l0 l1 0) else (none)
theorem laws_eqIntS.mono_l : ∀ k, (∀ y0 y1 y2, LeO (laws_eqIntS.l0 k y0 y1 y2) (laws_eqIntS.l0 (k + 1) y0 y1 y2))
 | 0 => fun _ _ _ r h => by simp [laws_eqIntS.l0] at h
 | k + 1 => by
  have ih0 := laws_eqIntS.mono_l k
  ·intro y0 y1 y2
   unfold laws_eqIntS.l0
   repeat' first
   | (with_reducible exact ih0 _ _ _)
   | (with_reducible exact LeO.refl _)
   | (with_reducible exact LeO.none _)
   | (with_reducible refine LeO.ite ?_ ?_)
   | (with_reducible refine LeO.bind ?_ (fun _ => ?_))
   | exact ih0 _ _ _
   | exact LeO.none _
   | refine LeO.ite ?_ ?_
   | refine LeO.bind ?_ (fun _ => ?_)
theorem laws_eqIntS.mono : ∀ a0 a1 k, LeO (laws_eqIntS.f k a0 a1) (laws_eqIntS.f (k + 1) a0 a1) := by
 intro a0 a1 k
 have ih0 := laws_eqIntS.mono_l k
 unfold laws_eqIntS.f
 repeat' first
   | (with_reducible exact ih0 _ _ _)
   | (with_reducible exact LeO.refl _)
   | (with_reducible exact LeO.none _)
   | (with_reducible refine LeO.ite ?_ ?_)
   | (with_reducible refine LeO.bind ?_ (fun _ => ?_))
   | exact ih0 _ _ _
   | exact LeO.none _
   | refine LeO.ite ?_ ?_
   | refine LeO.bind ?_ (fun _ => ?_)
set_option maxHeartbeats 8000000 in
set_option maxRecDepth 100000 in
theorem laws_eqIntS.calls (k : Nat) (A0 : Option Addr) (c0 : Nat) (l0 : List Int) (A1 : Option Addr) (c1 : Nat) (l1 : List Int) (r : Bool) (w : World) (hr0 : Kd.C (Kd.int .i64) w A0 l0.length l0) (hc0 : l0.length ≤ c0) (hr1 : Kd.C (Kd.int .i64) w A1 l1.length l1) (hc1 : l1.length ≤ c1) (h : laws_eqIntS.f k l0 l1 = some r) :
  Calls Try.prog 79 #[.slice A0 l0.length c0, .slice A1 l1.length c1] w fun e w' => e = .returned (.bool r) ∧ Drawn0 w w' := by
 have HR0 := zj hr0
 have HC0 := zj hc0
 clear hr0 hc0
 have HR1 := zj hr1
 have HC1 := zj hc1
 clear hr1 hc1
 have H : (if (l0.length : Int) = (l1.length : Int) then (laws_eqIntS.l0 k l0 l1 0) else (none)) = some r := h
 clear h
 by_cases c3 : (l0.length : Int) = (l1.length : Int)
 ·rw [if_pos c3] at H
  have c3b0 : ((l0.length : Int) == (l1.length : Int)) = true := beq_iff_eq.mpr c3
  have c3b1 : ((l0.length : Int) != (l1.length : Int)) = false := bne_eq_false_iff_eq.mpr c3
  have c3b2 : (l0.length == l1.length) = true := by first | simpa using c3 | (simp at c3 ⊢; omega)
  clear c3
  have H' := zj H
  clear H
  go_enter Try.func79, Try.ntmps79
  go_wp2
  repeat (go_quiet (fail); try go_wp2)
  go_loopg [5] k (fun kq v5 w' => ∃ (x5_1 : Int), v5 = .int .i64 x5_1 ∧ Aside0 (laws_eqIntS.l0 kq l0 l1 x5_1 = some r) ∧ Aside0 (kq ≤ k) ∧ Drawn0 w w')
  case atStart => exact ⟨(0), (by first | rfl | (simp; done) | (simp [*]; done)), H', ⟨Nat.le_refl _⟩, by repeat (first | exact Drawn0.refl _ | apply Drawn0.step)⟩
  case round =>
   clear H'
   try clear c1
   try clear p2
   try clear c3
   try clear c3b0
   try clear c3b1
   try clear c3b2
   obtain ⟨x5_1, rfl, HA, HK1, ⟨m1, rfl⟩⟩ := hrel
   cases gk with
   | zero => exact absurd HA.out (by simp [laws_eqIntS.l0])
   | succ k1 =>
    have H := HA.out
    clear HA
    simp only [laws_eqIntS.l0] at H
    by_cases c4 : x5_1 < (l0.length : Int)
    ·rw [if_pos c4] at H
     have c4b0 : decide (x5_1 < (l0.length : Int)) = true := decide_eq_true c4
     clear c4
     by_cases c5 : 0 ≤ x5_1
     ·rw [if_pos c5] at H
      have c5b0 : decide (0 ≤ x5_1) = true := decide_eq_true c5
      clear c5
      by_cases c6 : x5_1 < (l1.length : Int)
      ·rw [if_pos c6] at H
       have c6b0 : decide (x5_1 < (l1.length : Int)) = true := decide_eq_true c6
       clear c6
       by_cases c7 : (rd l0 x5_1) = (rd l1 x5_1)
       ·rw [if_pos c7] at H
        have c7b0 : ((rd l0 x5_1) == (rd l1 x5_1)) = true := beq_iff_eq.mpr c7
        have c7b1 : ((rd l0 x5_1) != (rd l1 x5_1)) = false := bne_eq_false_iff_eq.mpr c7
        clear c7
        have H' := zj H
        clear H
        have p312 : 0 ≤ (x5_1 : Int) := of_decide_eq_true (by first | (with_reducible assumption) | assumption)
        have q312 : x5_1 < (l0.length : Int) := of_decide_eq_true (by first | (with_reducible assumption) | assumption)
        obtain ⟨ad312, e312, hx312_0⟩ := Kd.at_int HR0.out x5_1 p312 q312
        cases e312
        replace p312 := eq_true p312
        replace q312 := eq_true q312
        have p313 : 0 ≤ (x5_1 : Int) := of_decide_eq_true (by first | (with_reducible assumption) | assumption)
        have q313 : x5_1 < (l1.length : Int) := of_decide_eq_true (by first | (with_reducible assumption) | assumption)
        obtain ⟨ad313, e313, hx313_0⟩ := Kd.at_int HR1.out x5_1 p313 q313
        cases e313
        replace p313 := eq_true p313
        replace q313 := eq_true q313
        go_wp2
        repeat (go_quiet (fail); try go_wp2)
        go_roundg k1
        case measure => have := HK1.out; omega
        case rel => exact ⟨(wrap64 (x5_1 + 1)), (by first | rfl | (simp; done) | (simp [*]; done)), H', ⟨by have := HK1.out; omega⟩, by repeat (first | exact Drawn0.refl _ | apply Drawn0.step)⟩
       ·rw [if_neg c7] at H
        exact absurd H (by simp)
      ·rw [if_neg c6] at H
       exact absurd H (by simp)
     ·rw [if_neg c5] at H
      exact absurd H (by simp)
    ·rw [if_neg c4] at H
     have c4b0 : decide (x5_1 < (l0.length : Int)) = false := decide_eq_false c4
     clear c4
     obtain rfl := Option.some.inj H
     go_wp2
     repeat (go_quiet (fail); try go_wp2)
     go_ret
     exact ⟨by first | rfl | (simp; done) | (simp [*]; done), by repeat (first | exact Drawn0.refl _ | apply Drawn0.step)⟩
 ·rw [if_neg c3] at H
  exact absurd H (by simp)

/-! ### laws_eqFree: function 63 -/
def laws_eqFree.f (k : Nat) (a0_0 : Int) (l0_1 : List Int) (a1_0 : Int) (l1_1 : List Int) : Option (Bool) := if a0_0 = a1_0 then ((laws_eqIntS.f k l0_1 l1_1).bind fun t316 => (if t316 = true then (some true) else (none))) else (none)
theorem laws_eqFree.mono : ∀ a0 a1 a2 a3 k, LeO (laws_eqFree.f k a0 a1 a2 a3) (laws_eqFree.f (k + 1) a0 a1 a2 a3) := by
 intro a0 a1 a2 a3 k
 unfold laws_eqFree.f
 repeat' first
   | (with_reducible exact laws_eqIntS.mono _ _ _)
   | (with_reducible exact LeO.refl _)
   | (with_reducible exact LeO.none _)
   | (with_reducible refine LeO.ite ?_ ?_)
   | (with_reducible refine LeO.bind ?_ (fun _ => ?_))
   | exact laws_eqIntS.mono _ _ _
   | exact LeO.none _
   | refine LeO.ite ?_ ?_
   | refine LeO.bind ?_ (fun _ => ?_)
set_option maxHeartbeats 8000000 in
set_option maxRecDepth 100000 in
theorem laws_eqFree.calls (k : Nat) (a0_0 : Int) (A0_1 : Option Addr) (c0_1 : Nat) (l0_1 : List Int) (a1_0 : Int) (A1_1 : Option Addr) (c1_1 : Nat) (l1_1 : List Int) (r : Bool) (w : World) (hr0_1 : Kd.C (Kd.int .i64) w A0_1 l0_1.length l0_1) (hc0_1 : l0_1.length ≤ c0_1) (hr1_1 : Kd.C (Kd.int .i64) w A1_1 l1_1.length l1_1) (hc1_1 : l1_1.length ≤ c1_1) (h : laws_eqFree.f k a0_0 l0_1 a1_0 l1_1 = some r) :
  Calls Try.prog 63 #[.agg #[.int .i64 a0_0, .slice A0_1 l0_1.length c0_1], .agg #[.int .i64 a1_0, .slice A1_1 l1_1.length c1_1]] w fun e w' => e = .returned (.bool r) ∧ Below w.heap.size w w' := by
 have hu60 := Try.underlying60
 have HR0_1 := zj hr0_1
 have HC0_1 := zj hc0_1
 clear hr0_1 hc0_1
 have HR1_1 := zj hr1_1
 have HC1_1 := zj hc1_1
 clear hr1_1 hc1_1
 have HB := zj (Below.refl w.heap.size w)
 have H : (if a0_0 = a1_0 then ((laws_eqIntS.f k l0_1 l1_1).bind fun t316 => (if t316 = true then (some true) else (none))) else (none)) = some r := h
 clear h
 by_cases c3 : a0_0 = a1_0
 ·rw [if_pos c3] at H
  have c3b0 : (a0_0 == a1_0) = true := beq_iff_eq.mpr c3
  have c3b1 : (a0_0 != a1_0) = false := bne_eq_false_iff_eq.mpr c3
  clear c3
  replace H := Option.bind_eq_some_iff.mp H
  obtain ⟨t316, A40, H⟩ := H
  replace H : (if t316 = true then (some true) else (none)) = some r := H
  have A4 := zj A40
  clear A40
  by_cases c5 : t316 = true
  ·subst c5
   have H1 : (some true) = some r := by rw [if_pos rfl] at H; exact H
   clear H
   have H := H1
   clear H1
   obtain rfl := Option.some.inj H
   go_enter Try.func63, Try.ntmps63
   go_wp2_with (first | ((with_reducible refine gate_dst (N := 2) rfl ?_); refine box_event ?hg (N := 2) ?hd (cs := #[.int .i64 a0_0, .slice A0_1 l0_1.length c0_1]) (t := 60) ?hr ?_; (case hd => rfl); (case hg => rfl); (case hr => first | (go_simp; done) | (go_simp; rfl)); intro gb314 hg w6 hbox hb; have n0_ := zj (zl (by repeat (first | (with_reducible first | exact HB.out | apply zg | apply zh | apply zi) | exact HB.out)) hb); have n1_ := zj (hbox); have n2_ := zj ((by rw [hg]; exact (zk (by repeat (first | (with_reducible first | exact HB.out | apply zg | apply zh | apply zi) | exact HB.out))) : w.heap.size ≤ gb314)); have n3_ := zj ((by rw [hg]; exact (zk (by repeat (first | (with_reducible first | exact HB.out | apply zg | apply zh | apply zi) | exact HB.out))) : w.heap.size ≤ gb314)); clear HB; have HB := n0_; have BK314 := n1_; have GW314 := n2_; have GE314 := n3_; clear n0_ n1_ n2_ n3_; clear hb hbox hg) | ((with_reducible refine gate_dst (N := 3) rfl ?_); refine box_event ?hg (N := 3) ?hd (cs := #[.int .i64 a1_0, .slice A1_1 l1_1.length c1_1]) (t := 60) ?hr ?_; (case hd => rfl); (case hg => rfl); (case hr => first | (go_simp; done) | (go_simp; rfl)); intro gb315 hg w7 hbox hb; have n0_ := zj (zm (g := gb314) (o := .cells #[.int .i64 a0_0, .slice A0_1 l0_1.length c0_1] 60 (0, 0)) (by (with_reducible repeat (first | refine za ?_ _ | refine zb ?_ | refine zc ?_ _)); exact BK314.out) hb); have n1_ := zj (zl (by repeat (first | (with_reducible first | exact HB.out | apply zg | apply zh | apply zi | refine zo ?_ GE314.out) | exact HB.out)) hb); have n2_ := zj (hbox); have n3_ := zj ((by rw [hg]; exact (zk (by repeat (first | (with_reducible first | exact HB.out | apply zg | apply zh | apply zi | refine zo ?_ GE314.out) | exact HB.out))) : w.heap.size ≤ gb315)); have n4_ := zj ((by rw [hg]; exact (zk (by repeat (first | (with_reducible first | exact HB.out | apply zg | apply zh | apply zi | refine zo ?_ GE314.out) | exact HB.out))) : w.heap.size ≤ gb315)); have n5_ := zj ((by rw [hg]; exact Nat.ne_of_lt (blk_lt (g := gb314) (o := .cells #[.int .i64 a0_0, .slice A0_1 l0_1.length c0_1] 60 (0, 0)) (by (with_reducible repeat (first | refine za ?_ _ | refine zb ?_ | refine zc ?_ _)); exact BK314.out)) : gb314 ≠ gb315)); have n6_ := zj ((by rw [hg]; exact Nat.ne_of_gt (blk_lt (g := gb314) (o := .cells #[.int .i64 a0_0, .slice A0_1 l0_1.length c0_1] 60 (0, 0)) (by (with_reducible repeat (first | refine za ?_ _ | refine zb ?_ | refine zc ?_ _)); exact BK314.out)) : gb315 ≠ gb314)); clear BK314; clear HB; have BK314 := n0_; have HB := n1_; have BK315 := n2_; have GW315 := n3_; have GE315 := n4_; have NB314_315 := n5_; have NB315_314 := n6_; clear n0_ n1_ n2_ n3_ n4_ n5_ n6_; clear hb hbox hg; have hnb8 := NB314_315.out; have hnc8 := NB315_314.out; have hcz9_0 : w7.cell? ⟨gb314, 0, none⟩ = some (.int .i64 a0_0) := (zn BK314.out 0).trans rfl; have hcz9_1 : w7.cell? ⟨gb314, 1, none⟩ = some (.slice A0_1 l0_1.length c0_1) := (zn BK314.out 1).trans rfl; have hfz9_0 := zp BK314.out 0; have hfz9_1 := zp BK314.out 1; have hcz10_0 : w7.cell? ⟨gb315, 0, none⟩ = some (.int .i64 a1_0) := (zn BK315.out 0).trans rfl; have hcz10_1 : w7.cell? ⟨gb315, 1, none⟩ = some (.slice A1_1 l1_1.length c1_1) := (zn BK315.out 1).trans rfl; have hfz10_0 := zp BK315.out 0; have hfz10_1 := zp BK315.out 1) | ((with_reducible refine gate_callee (f := 79) rfl ?_); refine goesL_ (some 14) rfl rfl Try.func79 (by kernel_rfl) rfl #[.slice A0_1 l0_1.length c0_1, .slice A1_1 l1_1.length c1_1] rfl (by (try simp only [List.map_toArray, List.map_cons, List.map_nil]); first | done | rfl | (simp only [List.length_drop, List.length_take]; rfl)) ?_; (with_reducible refine (laws_eqIntS.calls k _ _ l0_1 _ _ l1_1 true _ ?side1 ?side2 ?side3 ?side4 A4.out).mono ?_); (case side1 => repeat (first | exact (Kd.C_below HR0_1.out HB.out) | (with_reducible refine Kd.C_alloc ?_ _) | (with_reducible refine Kd.C_drewN ?_ _) | (with_reducible refine Kd.C_drew ?_))); (case side2 => exact HC0_1.out); (case side3 => repeat (first | exact (Kd.C_below HR1_1.out HB.out) | (with_reducible refine Kd.C_alloc ?_ _) | (with_reducible refine Kd.C_drewN ?_ _) | (with_reducible refine Kd.C_drew ?_))); (case side4 => exact HC1_1.out); rintro e w' ⟨rfl, ⟨nd, rfl⟩⟩; refine ⟨_, rfl, ?_⟩))
   go_ret
   exact ⟨by first | rfl | (simp [errW_none, errW_some] <;> rfl) | (simp [*, errW_none, errW_some] <;> rfl), by repeat (first | (with_reducible first | exact HB.out | apply zg | apply zh | apply zi | refine zo ?_ GE314.out | refine zo ?_ GE315.out) | exact HB.out)⟩
  ·replace c5 := Bool.eq_false_iff.mpr c5
   subst c5
   have H1 : (none) = some r := by rw [if_neg (show ¬ (false = true) by decide)] at H; exact H
   clear H
   have H := H1
   clear H1
   exact absurd H (by simp)
 ·rw [if_neg c3] at H
  exact absurd H (by simp)

end Go.Proofs.Yteokilffbcbllaa.VFnExactReadMeta
