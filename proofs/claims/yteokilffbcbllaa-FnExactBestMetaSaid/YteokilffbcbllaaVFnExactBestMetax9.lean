-- Written by a program of this repo (wip/myprint.py), over the kit's print; functions that the print does not take stand in it by hand-proved contracts.
import Derived.Test.YteokilffbcbllaaVFnExactBestMetax0
import Derived.Test.YteokilffbcbllaaVFnExactBestMetax5
import Derived.Test.YteokilffbcbllaaVFnExactBestMetax6
import Derived.Test.YteokilffbcbllaaVFnExactBestMetax8
namespace Go.Proofs.Yteokilffbcbllaa.VFnExactBestMeta
open Go.RowKit Go.Proofs.YteokilffbcbllaaW.PrintWords Go.Proofs.YteokilffbcbllaaW.PrintLast Go.Proofs.YteokilffbcbllaaW.PrintMore
attribute [local go_sem] max2_int min2_int max_two min_two max_three min_three max_four min_four   -- for this text's walks alone
attribute [local go_sem high] str_leq str_gtr str_geq str_lss
set_option linter.unusedVariables false
set_option linter.unusedSimpArgs false

/-! ### spec_ReadMeta: function 6 -/
mutual
def spec_ReadMeta.l0 : Nat → ByteArray → Int → Int → ByteArray → Int → Bool → Int → Int → Int → List (S60) → Option (Int × Int × Int × (List (S60)) × Bool)
 | 0, _, _, _, _, _, _, _, _, _, _ => none
 | k + 1, x0, x8, x9, x169000, x169001, x169002, x174000, x174001, x174002, x174003 => if x9 < x8 then (if x9 < 30 then (spec_ReadMeta.j1 k x0 x8 x9 (!x169002) x169000 x169001 x169002 x174000 x174001 x174002 x174003) else (spec_ReadMeta.j1 k x0 x8 x9 false x169000 x169001 x169002 x174000 x174001 x174002 x174003)) else (spec_ReadMeta.j1 k x0 x8 x9 false x169000 x169001 x169002 x174000 x174001 x174002 x174003)
def spec_ReadMeta.j1 : Nat → ByteArray → Int → Int → Bool → ByteArray → Int → Bool → Int → Int → Int → List (S60) → Option (Int × Int × Int × (List (S60)) × Bool)
 | 0, _, _, _, _, _, _, _, _, _, _, _ => none
 | k + 1, x0, x8, x9, x49, x169000, x169001, x169002, x174000, x174001, x174002, x174003 => if x49 = true then ((spec_l04Var.f k x169000 x169001 x169002).bind fun bt188 => ((spec_l04Var.f k bt188.2.1 bt188.2.2.1 bt188.2.2.2).bind fun bt193 => (spec_ReadMeta.l1 k x0 x8 x9 bt193.1 0 bt193.2.1 bt193.2.2.1 bt193.2.2.2 x174000 x174001 x174002 x174003 bt188.1 ([] : List Int)))) else ((spec_MetaText.f k x174000 x174001 x174002 x174003).bind fun bt186 => (if x169002 = true then (some (0, 0, 0, ([] : List (S60)), false)) else (if bt186.2 = true then (if bt186.1.toList = x0.toList then (some (x174000, x174001, x174002, x174003, true)) else (some (0, 0, 0, ([] : List (S60)), false))) else (some (0, 0, 0, ([] : List (S60)), false)))))
def spec_ReadMeta.l1 : Nat → ByteArray → Int → Int → Int → Int → ByteArray → Int → Bool → Int → Int → Int → List (S60) → Int → List Int → Option (Int × Int × Int × (List (S60)) × Bool)
 | 0, _, _, _, _, _, _, _, _, _, _, _, _, _, _ => none
 | k + 1, x0, x8, x9, x11, x12, x169000, x169001, x169002, x174000, x174001, x174002, x174003, x193000, x193001 => if x12 < x11 then (if x12 < 50 then (if x169002 = true then (if x174003.length < 4398046511104 then (spec_ReadMeta.l0 k x0 x8 (wrap64 (x9 + 1)) x169000 x169001 x169002 x174000 x174001 x174002 (x174003 ++ [(⟨x193000, x193001⟩ : S60)])) else (none)) else ((spec_l04Var.f k x169000 x169001 x169002).bind fun bt200 => (if x193001.length < 17592186044416 then (spec_ReadMeta.l1 k x0 x8 x9 x11 (wrap64 (x12 + 1)) bt200.2.1 bt200.2.2.1 bt200.2.2.2 x174000 x174001 x174002 x174003 x193000 (x193001 ++ [bt200.1])) else (none)))) else (if x174003.length < 4398046511104 then (spec_ReadMeta.l0 k x0 x8 (wrap64 (x9 + 1)) x169000 x169001 x169002 x174000 x174001 x174002 (x174003 ++ [(⟨x193000, x193001⟩ : S60)])) else (none))) else (if x174003.length < 4398046511104 then (spec_ReadMeta.l0 k x0 x8 (wrap64 (x9 + 1)) x169000 x169001 x169002 x174000 x174001 x174002 (x174003 ++ [(⟨x193000, x193001⟩ : S60)])) else (none))
end
def spec_ReadMeta.f (k : Nat) (a0 : ByteArray) : Option (Int × Int × Int × (List (S60)) × Bool) := (spec_Unsealed.f k a0).bind fun bt166 => ((spec_l04Var.f k bt166.1 0 (!bt166.2)).bind fun bt169 => ((spec_l04Var.f k bt169.2.1 bt169.2.2.1 bt169.2.2.2).bind fun bt174 => ((spec_l04Var.f k bt174.2.1 bt174.2.2.1 bt174.2.2.2).bind fun bt178 => ((spec_l04Var.f k bt178.2.1 bt178.2.2.1 bt178.2.2.2).bind fun bt182 => (spec_ReadMeta.l0 k a0 bt182.1 0 bt182.2.1 bt182.2.2.1 bt182.2.2.2 bt169.1 bt174.1 bt178.1 ([] : List (S60)))))))
theorem spec_ReadMeta.mono_l : ∀ k, (∀ y0 y1 y2 y3 y4 y5 y6 y7 y8 y9, LeO (spec_ReadMeta.l0 k y0 y1 y2 y3 y4 y5 y6 y7 y8 y9) (spec_ReadMeta.l0 (k + 1) y0 y1 y2 y3 y4 y5 y6 y7 y8 y9)) ∧ (∀ y0 y1 y2 y3 y4 y5 y6 y7 y8 y9 y10, LeO (spec_ReadMeta.j1 k y0 y1 y2 y3 y4 y5 y6 y7 y8 y9 y10) (spec_ReadMeta.j1 (k + 1) y0 y1 y2 y3 y4 y5 y6 y7 y8 y9 y10)) ∧ (∀ y0 y1 y2 y3 y4 y5 y6 y7 y8 y9 y10 y11 y12 y13, LeO (spec_ReadMeta.l1 k y0 y1 y2 y3 y4 y5 y6 y7 y8 y9 y10 y11 y12 y13) (spec_ReadMeta.l1 (k + 1) y0 y1 y2 y3 y4 y5 y6 y7 y8 y9 y10 y11 y12 y13))
 | 0 => ⟨fun _ _ _ _ _ _ _ _ _ _ r h => by simp [spec_ReadMeta.l0] at h, fun _ _ _ _ _ _ _ _ _ _ _ r h => by simp [spec_ReadMeta.j1] at h, fun _ _ _ _ _ _ _ _ _ _ _ _ _ _ r h => by simp [spec_ReadMeta.l1] at h⟩
 | k + 1 => by
  obtain ⟨ih0, ih1, ih2⟩ := spec_ReadMeta.mono_l k
  refine ⟨?_, ?_, ?_⟩
  ·intro y0 y1 y2 y3 y4 y5 y6 y7 y8 y9
   unfold spec_ReadMeta.l0
   repeat' first
   | (with_reducible exact ih0 _ _ _ _ _ _ _ _ _ _)
   | (with_reducible exact ih1 _ _ _ _ _ _ _ _ _ _ _)
   | (with_reducible exact ih2 _ _ _ _ _ _ _ _ _ _ _ _ _ _)
   | (with_reducible exact spec_MetaText.mono _ _ _ _ _)
   | (with_reducible exact spec_Unsealed.mono _ _)
   | (with_reducible exact spec_l04Var.mono _ _ _ _)
   | (with_reducible exact LeO.refl _)
   | (with_reducible exact LeO.none _)
   | (with_reducible refine LeO.ite ?_ ?_)
   | (with_reducible refine LeO.bind ?_ (fun _ => ?_))
   | exact ih0 _ _ _ _ _ _ _ _ _ _
   | exact ih1 _ _ _ _ _ _ _ _ _ _ _
   | exact ih2 _ _ _ _ _ _ _ _ _ _ _ _ _ _
   | exact spec_MetaText.mono _ _ _ _ _
   | exact spec_Unsealed.mono _ _
   | exact spec_l04Var.mono _ _ _ _
   | exact LeO.none _
   | refine LeO.ite ?_ ?_
   | refine LeO.bind ?_ (fun _ => ?_)
  ·intro y0 y1 y2 y3 y4 y5 y6 y7 y8 y9 y10
   unfold spec_ReadMeta.j1
   repeat' first
   | (with_reducible exact ih0 _ _ _ _ _ _ _ _ _ _)
   | (with_reducible exact ih1 _ _ _ _ _ _ _ _ _ _ _)
   | (with_reducible exact ih2 _ _ _ _ _ _ _ _ _ _ _ _ _ _)
   | (with_reducible exact spec_MetaText.mono _ _ _ _ _)
   | (with_reducible exact spec_Unsealed.mono _ _)
   | (with_reducible exact spec_l04Var.mono _ _ _ _)
   | (with_reducible exact LeO.refl _)
   | (with_reducible exact LeO.none _)
   | (with_reducible refine LeO.ite ?_ ?_)
   | (with_reducible refine LeO.bind ?_ (fun _ => ?_))
   | exact ih0 _ _ _ _ _ _ _ _ _ _
   | exact ih1 _ _ _ _ _ _ _ _ _ _ _
   | exact ih2 _ _ _ _ _ _ _ _ _ _ _ _ _ _
   | exact spec_MetaText.mono _ _ _ _ _
   | exact spec_Unsealed.mono _ _
   | exact spec_l04Var.mono _ _ _ _
   | exact LeO.none _
   | refine LeO.ite ?_ ?_
   | refine LeO.bind ?_ (fun _ => ?_)
  ·intro y0 y1 y2 y3 y4 y5 y6 y7 y8 y9 y10 y11 y12 y13
   unfold spec_ReadMeta.l1
   repeat' first
   | (with_reducible exact ih0 _ _ _ _ _ _ _ _ _ _)
   | (with_reducible exact ih1 _ _ _ _ _ _ _ _ _ _ _)
   | (with_reducible exact ih2 _ _ _ _ _ _ _ _ _ _ _ _ _ _)
   | (with_reducible exact spec_MetaText.mono _ _ _ _ _)
   | (with_reducible exact spec_Unsealed.mono _ _)
   | (with_reducible exact spec_l04Var.mono _ _ _ _)
   | (with_reducible exact LeO.refl _)
   | (with_reducible exact LeO.none _)
   | (with_reducible refine LeO.ite ?_ ?_)
   | (with_reducible refine LeO.bind ?_ (fun _ => ?_))
   | exact ih0 _ _ _ _ _ _ _ _ _ _
   | exact ih1 _ _ _ _ _ _ _ _ _ _ _
   | exact ih2 _ _ _ _ _ _ _ _ _ _ _ _ _ _
   | exact spec_MetaText.mono _ _ _ _ _
   | exact spec_Unsealed.mono _ _
   | exact spec_l04Var.mono _ _ _ _
   | exact LeO.none _
   | refine LeO.ite ?_ ?_
   | refine LeO.bind ?_ (fun _ => ?_)
theorem spec_ReadMeta.mono : ∀ a0 k, LeO (spec_ReadMeta.f k a0) (spec_ReadMeta.f (k + 1) a0) := by
 intro a0 k
 obtain ⟨ih0, ih1, ih2⟩ := spec_ReadMeta.mono_l k
 unfold spec_ReadMeta.f
 repeat' first
   | (with_reducible exact ih0 _ _ _ _ _ _ _ _ _ _)
   | (with_reducible exact ih1 _ _ _ _ _ _ _ _ _ _ _)
   | (with_reducible exact ih2 _ _ _ _ _ _ _ _ _ _ _ _ _ _)
   | (with_reducible exact spec_MetaText.mono _ _ _ _ _)
   | (with_reducible exact spec_Unsealed.mono _ _)
   | (with_reducible exact spec_l04Var.mono _ _ _ _)
   | (with_reducible exact LeO.refl _)
   | (with_reducible exact LeO.none _)
   | (with_reducible refine LeO.ite ?_ ?_)
   | (with_reducible refine LeO.bind ?_ (fun _ => ?_))
   | exact ih0 _ _ _ _ _ _ _ _ _ _
   | exact ih1 _ _ _ _ _ _ _ _ _ _ _
   | exact ih2 _ _ _ _ _ _ _ _ _ _ _ _ _ _
   | exact spec_MetaText.mono _ _ _ _ _
   | exact spec_Unsealed.mono _ _
   | exact spec_l04Var.mono _ _ _ _
   | exact LeO.none _
   | refine LeO.ite ?_ ?_
   | refine LeO.bind ?_ (fun _ => ?_)
def spec_ReadMeta.T15 : Bool × List (List Nat × List Nat) := (true, [([], []), ([0], [0]), ([], []), ([2], [2]), ([3], [3]), ([1, 4, 3], [1, 4]), ([0, 1, 2, 3, 4, 5], []), ([6, 5, 5, 0, 1, 2, 3, 4, 5], [5, 6])])
def spec_ReadMeta.B15 : List Nat := [0, 1, 0, 4, 12, 31, 63, 127]
theorem spec_ReadMeta.tab15 : rtab .any (opsOf Try.f6 15) = spec_ReadMeta.T15 := by kernel_rfl
theorem spec_ReadMeta.bits15 : waitsOk spec_ReadMeta.T15.2 spec_ReadMeta.B15 = true := by kernel_rfl
set_option maxHeartbeats 8000000 in
set_option maxRecDepth 100000 in
theorem spec_ReadMeta.calls (k : Nat) (a0 : ByteArray) (r1 : Int) (r2 : Int) (r3 : Int) (r4 : List (S60)) (r5 : Bool) (w : World) (h : spec_ReadMeta.f k a0 = some (r1, r2, r3, r4, r5)) :
  Calls Try.prog 6 #[.string a0] w fun e w' => ∃ v3_ : Value, e = .returned (.tuple #[.agg #[.int .i64 r1, .int .i64 r2, .int .i64 r3, v3_], .bool r5]) ∧ Kd.S k60 60 w' w.heap.size (fun _ => True) v3_ r4 ∧ Below w.heap.size w w' := by
 have hu24 := Try.underlying24
 have hu56 := Try.underlying56
 have hu60 := Try.underlying60
 have HB := qo (Below.refl w.heap.size w)
 have H : ((spec_Unsealed.f k a0).bind fun bt166 => ((spec_l04Var.f k bt166.1 0 (!bt166.2)).bind fun bt169 => ((spec_l04Var.f k bt169.2.1 bt169.2.2.1 bt169.2.2.2).bind fun bt174 => ((spec_l04Var.f k bt174.2.1 bt174.2.2.1 bt174.2.2.2).bind fun bt178 => ((spec_l04Var.f k bt178.2.1 bt178.2.2.1 bt178.2.2.2).bind fun bt182 => (spec_ReadMeta.l0 k a0 bt182.1 0 bt182.2.1 bt182.2.2.1 bt182.2.2.2 bt169.1 bt174.1 bt178.1 ([] : List (S60)))))))) = some (r1, r2, r3, r4, r5) := h
 clear h
 replace H := Option.bind_eq_some_iff.mp H
 obtain ⟨⟨t166, t167⟩, A20, H⟩ := H
 replace H : ((spec_l04Var.f k t166 0 (!t167)).bind fun bt169 => ((spec_l04Var.f k bt169.2.1 bt169.2.2.1 bt169.2.2.2).bind fun bt174 => ((spec_l04Var.f k bt174.2.1 bt174.2.2.1 bt174.2.2.2).bind fun bt178 => ((spec_l04Var.f k bt178.2.1 bt178.2.2.1 bt178.2.2.2).bind fun bt182 => (spec_ReadMeta.l0 k a0 bt182.1 0 bt182.2.1 bt182.2.2.1 bt182.2.2.2 bt169.1 bt174.1 bt178.1 ([] : List (S60))))))) = some (r1, r2, r3, r4, r5) := H
 have A2 := qo A20
 clear A20
 replace H := Option.bind_eq_some_iff.mp H
 obtain ⟨⟨t169, t170, t171, t172⟩, A30, H⟩ := H
 replace H : ((spec_l04Var.f k t170 t171 t172).bind fun bt174 => ((spec_l04Var.f k bt174.2.1 bt174.2.2.1 bt174.2.2.2).bind fun bt178 => ((spec_l04Var.f k bt178.2.1 bt178.2.2.1 bt178.2.2.2).bind fun bt182 => (spec_ReadMeta.l0 k a0 bt182.1 0 bt182.2.1 bt182.2.2.1 bt182.2.2.2 t169 bt174.1 bt178.1 ([] : List (S60)))))) = some (r1, r2, r3, r4, r5) := H
 have A3 := qo A30
 clear A30
 replace H := Option.bind_eq_some_iff.mp H
 obtain ⟨⟨t174, t175, t176, t177⟩, A40, H⟩ := H
 replace H : ((spec_l04Var.f k t175 t176 t177).bind fun bt178 => ((spec_l04Var.f k bt178.2.1 bt178.2.2.1 bt178.2.2.2).bind fun bt182 => (spec_ReadMeta.l0 k a0 bt182.1 0 bt182.2.1 bt182.2.2.1 bt182.2.2.2 t169 t174 bt178.1 ([] : List (S60))))) = some (r1, r2, r3, r4, r5) := H
 have A4 := qo A40
 clear A40
 replace H := Option.bind_eq_some_iff.mp H
 obtain ⟨⟨t178, t179, t180, t181⟩, A50, H⟩ := H
 replace H : ((spec_l04Var.f k t179 t180 t181).bind fun bt182 => (spec_ReadMeta.l0 k a0 bt182.1 0 bt182.2.1 bt182.2.2.1 bt182.2.2.2 t169 t174 t178 ([] : List (S60)))) = some (r1, r2, r3, r4, r5) := H
 have A5 := qo A50
 clear A50
 replace H := Option.bind_eq_some_iff.mp H
 obtain ⟨⟨t182, t183, t184, t185⟩, A60, H⟩ := H
 replace H : (spec_ReadMeta.l0 k a0 t182 0 t183 t184 t185 t169 t174 t178 ([] : List (S60))) = some (r1, r2, r3, r4, r5) := H
 have A6 := qo A60
 clear A60
 have H' := qo H
 clear H
 go_enter Try.func6, Try.ntmps6
 go_wp2_with (first | ((with_reducible refine gate_dst (N := 2) rfl ?_); refine box_event ?hg (N := 2) ?hd (cs := #[.int .i64 0, .int .i64 0, .int .i64 0, .slice none 0 0]) (t := 24) ?hr ?_; (case hd => rfl); (case hg => rfl); (case hr => first | (go_simp; done) | (go_simp; rfl)); intro gb165 hg w7 hbox hb; have n0_ := qo (qq za hb); have n1_ := qo (hbox); have n2_ := qo ((zcn : w.heap.size ≤ gb165)); have n3_ := qo ((zcn : w.heap.size ≤ gb165)); clear HB; have HB := n0_; have BK165 := n1_; have GW165 := n2_; have GE165 := n3_; clear n0_ n1_ n2_ n3_; clear hb hbox hg) | ((with_reducible refine gate_callee (f := 25) rfl ?_); refine goesL_ (some 17) rfl rfl Try.func25 ze rfl #[.string a0] rfl zcm ?_; (with_reducible refine (spec_Unsealed.calls k a0 t166 t167 _ A2.out).mono ?_); rintro e w8 ⟨rfl, hb⟩; refine ⟨_, rfl, ?_⟩; have n0_ := qo (qr (g := gb165) (o := .cells #[.int .i64 0, .int .i64 0, .int .i64 0, .slice none 0 0] 24 (0, 0)) zq hb); have n1_ := qo (qq za4 hb); clear BK165; clear HB; have BK165 := n0_; have HB := n1_; clear n0_ n1_; (try clear hb); (try clear hb2); (try clear hk); (try clear hi)) | ((with_reducible refine gate_dst (N := 24) rfl ?_); refine box_event ?hg (N := 24) ?hd (cs := #[.string t166, .int .i64 0, .bool (!t167)]) (t := 56) ?hr ?_; (case hd => rfl); (case hg => rfl); (case hr => first | (go_simp; done) | (go_simp; rfl)); intro gb168 hg w9 hbox hb; have n0_ := qo (qr (g := gb165) (o := .cells #[.int .i64 0, .int .i64 0, .int .i64 0, .slice none 0 0] 24 (0, 0)) zq hb); have n1_ := qo (qq za4 hb); have n2_ := qo ((show IsS56 w w9 gb168 t166 0 (!t167) from ⟨hbox, (by rw [hg]; exact (qp za4) : w.heap.size ≤ gb168)⟩)); have n3_ := qo ((by rw [hg]; exact (qp za4) : w.heap.size ≤ gb168)); have n4_ := qo ((by rw [hg]; exact (qp za4) : w.heap.size ≤ gb168)); have n5_ := qo ((zct : gb165 ≠ gb168)); have n6_ := qo ((zcu : gb168 ≠ gb165)); clear BK165; clear HB; have BK165 := n0_; have HB := n1_; have HI168 := n2_; have GW168 := n3_; have GE168 := n4_; have NB165_168 := n5_; have NB168_165 := n6_; clear n0_ n1_ n2_ n3_ n4_ n5_ n6_; clear hb hbox hg) | ((with_reducible refine gate_callee (f := 26) rfl ?_); refine goesL_ (some 26) rfl rfl Try.func26 ze rfl #[.pointer (some ⟨gb168, 0, none⟩)] rfl zcm ?_; (with_reducible refine (spec_l04Var.calls k gb168 t166 0 (!t167) t169 t170 t171 t172 w _ ?side1 ?side2 A3.out).mono ?_); (case side1 => repeat (first | (with_reducible first | exact HI168.out | apply IsS56.alloc | apply IsS56.drewN | apply IsS56.drew | apply IsS56.set_0 | apply IsS56.set_1 | apply IsS56.set_2 | apply IsS56.far (hne := NB168_165.out)) | apply IsS56.far (hne := NB168_165.out) | exact HI168.out)); (case side2 => repeat (first | (with_reducible first | exact HB.out | apply ql | apply qm | apply qn | refine qt ?_ (IsS56.ge HI168.out) | refine qt ?_ GE165.out) | exact HB.out)); rintro e w10 ⟨rfl, hi, hb, hk⟩; refine ⟨_, rfl, ?_⟩; have n0_ := qo (KeepBut.blk hk (g' := gb165) (o := .cells #[.int .i64 0, .int .i64 0, .int .i64 0, .slice none 0 0] 24 (0, 0)) zq NB165_168.out zbh); have n1_ := qo (hb); have n2_ := qo (hi); clear BK165; clear HB; clear HI168; have BK165 := n0_; have HB := n1_; have HI168 := n2_; clear n0_ n1_ n2_; (try clear hb); (try clear hb2); (try clear hk); (try clear hi)) | ((with_reducible refine gate_dst (N := 7) rfl ?_); refine box_event ?hg (N := 7) ?hd (cs := #[.int .i64 0, .int .i64 0, .int .i64 0, .slice none 0 0]) (t := 24) ?hr ?_; (case hd => rfl); (case hg => rfl); (case hr => first | (go_simp; done) | (go_simp; rfl)); intro gb173 hg w11 hbox hb; have n0_ := qo (qr (g := gb165) (o := .cells #[.int .i64 0, .int .i64 0, .int .i64 0, .slice none 0 0] 24 (0, 0)) zq hb); have n1_ := qo (IsS56.below (by repeat (first | (with_reducible first | exact HI168.out | apply IsS56.alloc | apply IsS56.drewN | apply IsS56.drew | apply IsS56.set_0 | apply IsS56.set_1 | apply IsS56.set_2 | apply IsS56.far (hne := NB168_165.out)) | apply IsS56.far (hne := NB168_165.out) | exact HI168.out)) hb); have n2_ := qo (qq zbj hb); have n3_ := qo (hbox); have n4_ := qo ((by rw [hg]; exact (qp zbj) : w.heap.size ≤ gb173)); have n5_ := qo ((by rw [hg]; exact (qp zbj) : w.heap.size ≤ gb173)); have n6_ := qo ((zct : gb165 ≠ gb173)); have n7_ := qo ((zcu : gb173 ≠ gb165)); have n8_ := qo ((by rw [hg]; exact Nat.ne_of_lt (IsS56.lt (show IsS56 w _ gb168 t170 t171 t172 from by repeat (first | (with_reducible first | exact HI168.out | apply IsS56.alloc | apply IsS56.drewN | apply IsS56.drew | apply IsS56.set_0 | apply IsS56.set_1 | apply IsS56.set_2 | apply IsS56.far (hne := NB168_165.out)) | apply IsS56.far (hne := NB168_165.out) | exact HI168.out))) : gb168 ≠ gb173)); have n9_ := qo ((by rw [hg]; exact Nat.ne_of_gt (IsS56.lt (show IsS56 w _ gb168 t170 t171 t172 from by repeat (first | (with_reducible first | exact HI168.out | apply IsS56.alloc | apply IsS56.drewN | apply IsS56.drew | apply IsS56.set_0 | apply IsS56.set_1 | apply IsS56.set_2 | apply IsS56.far (hne := NB168_165.out)) | apply IsS56.far (hne := NB168_165.out) | exact HI168.out))) : gb173 ≠ gb168)); clear BK165; clear HI168; clear HB; have BK165 := n0_; have HI168 := n1_; have HB := n2_; have BK173 := n3_; have GW173 := n4_; have GE173 := n5_; have NB165_173 := n6_; have NB173_165 := n7_; have NB168_173 := n8_; have NB173_168 := n9_; clear n0_ n1_ n2_ n3_ n4_ n5_ n6_ n7_ n8_ n9_; clear hb hbox hg; have hnb12 := NB173_165.out; have hnc12 := NB165_173.out; have hnb13 := NB173_168.out; have hnc13 := NB168_173.out; have hcz14_0 : w11.cell? ⟨gb173, 0, none⟩ = some (.int .i64 0) := (qs BK173.out 0).trans rfl; have hcz14_1 : w11.cell? ⟨gb173, 1, none⟩ = some (.int .i64 0) := (qs BK173.out 1).trans rfl; have hcz14_2 : w11.cell? ⟨gb173, 2, none⟩ = some (.int .i64 0) := (qs BK173.out 2).trans rfl; have hcz14_3 : w11.cell? ⟨gb173, 3, none⟩ = some (.slice none 0 0) := (qs BK173.out 3).trans rfl; have hfz14_0 := qu BK173.out 0; have hfz14_1 := qu BK173.out 1; have hfz14_2 := qu BK173.out 2; have hfz14_3 := qu BK173.out 3) | ((with_reducible refine gate_callee (f := 26) rfl ?_); refine goesL_ (some 29) rfl rfl Try.func26 ze rfl #[.pointer (some ⟨gb168, 0, none⟩)] rfl zcm ?_; (with_reducible refine (spec_l04Var.calls k gb168 t170 t171 t172 t174 t175 t176 t177 w _ ?side1 ?side2 A4.out).mono ?_); (case side1 => repeat (first | (with_reducible first | exact HI168.out | apply IsS56.alloc | apply IsS56.drewN | apply IsS56.drew | apply IsS56.set_0 | apply IsS56.set_1 | apply IsS56.set_2 | apply IsS56.far (hne := NB168_165.out) | apply IsS56.far (hne := NB168_173.out)) | apply IsS56.far (hne := NB168_165.out) | apply IsS56.far (hne := NB168_173.out) | exact HI168.out)); (case side2 => repeat (first | (with_reducible first | exact HB.out | apply ql | apply qm | apply qn | refine qt ?_ (IsS56.ge HI168.out) | refine qt ?_ GE165.out | refine qt ?_ GE173.out) | exact HB.out)); rintro e w15 ⟨rfl, hi, hb, hk⟩; refine ⟨_, rfl, ?_⟩; have n0_ := qo (KeepBut.blk hk (g' := gb165) (o := .cells #[.int .i64 0, .int .i64 0, .int .i64 0, .slice none 0 0] 24 (0, 0)) (by (with_reducible repeat (first | refine qi ?_ _ | refine qj ?_ | refine qk ?_ _)); refine blk_far ?_ NB165_173.out _; (with_reducible repeat (first | refine qi ?_ _ | refine qj ?_ | refine qk ?_ _)); refine blk_far ?_ NB165_173.out _; (with_reducible repeat (first | refine qi ?_ _ | refine qj ?_ | refine qk ?_ _)); refine blk_far ?_ NB165_173.out _; (with_reducible repeat (first | refine qi ?_ _ | refine qj ?_ | refine qk ?_ _)); refine blk_far ?_ NB165_173.out _; (with_reducible repeat (first | refine qi ?_ _ | refine qj ?_ | refine qk ?_ _)); exact BK165.out) NB165_168.out zbh); have n1_ := qo (KeepBut.blk hk (g' := gb173) (o := .cells #[.int .i64 t169, .int .i64 0, .int .i64 0, .slice none 0 0] 24 (0, 0)) (by (with_reducible repeat (first | refine qi ?_ _ | refine qj ?_ | refine qk ?_ _)); refine blk_put (cs := #[.int .i64 t169, .int .i64 0, .int .i64 0, .slice none 0 0]) ?_ 3 _ rfl; (with_reducible repeat (first | refine qi ?_ _ | refine qj ?_ | refine qk ?_ _)); refine blk_put (cs := #[.int .i64 t169, .int .i64 0, .int .i64 0, .slice none 0 0]) ?_ 2 _ rfl; (with_reducible repeat (first | refine qi ?_ _ | refine qj ?_ | refine qk ?_ _)); refine blk_put (cs := #[.int .i64 t169, .int .i64 0, .int .i64 0, .slice none 0 0]) ?_ 1 _ rfl; (with_reducible repeat (first | refine qi ?_ _ | refine qj ?_ | refine qk ?_ _)); refine blk_put (cs := #[.int .i64 0, .int .i64 0, .int .i64 0, .slice none 0 0]) ?_ 0 _ rfl; (with_reducible repeat (first | refine qi ?_ _ | refine qj ?_ | refine qk ?_ _)); exact BK173.out) NB173_168.out zbh); have n2_ := qo (hb); have n3_ := qo (hi); clear BK165; clear BK173; clear HB; clear HI168; have BK165 := n0_; have BK173 := n1_; have HB := n2_; have HI168 := n3_; clear n0_ n1_ n2_ n3_; (try clear hb); (try clear hb2); (try clear hk); (try clear hi); have hcz16_0 : w15.cell? ⟨gb173, 0, none⟩ = some (.int .i64 t169) := (qs BK173.out 0).trans rfl; have hcz16_1 : w15.cell? ⟨gb173, 1, none⟩ = some (.int .i64 0) := (qs BK173.out 1).trans rfl; have hcz16_2 : w15.cell? ⟨gb173, 2, none⟩ = some (.int .i64 0) := (qs BK173.out 2).trans rfl; have hcz16_3 : w15.cell? ⟨gb173, 3, none⟩ = some (.slice none 0 0) := (qs BK173.out 3).trans rfl; have hfz16_0 := qu BK173.out 0; have hfz16_1 := qu BK173.out 1; have hfz16_2 := qu BK173.out 2; have hfz16_3 := qu BK173.out 3) | ((with_reducible refine gate_callee (f := 26) rfl ?_); refine goesL_ (some 32) rfl rfl Try.func26 ze rfl #[.pointer (some ⟨gb168, 0, none⟩)] rfl zcm ?_; (with_reducible refine (spec_l04Var.calls k gb168 t175 t176 t177 t178 t179 t180 t181 w _ ?side1 ?side2 A5.out).mono ?_); (case side1 => repeat (first | (with_reducible first | exact HI168.out | apply IsS56.alloc | apply IsS56.drewN | apply IsS56.drew | apply IsS56.set_0 | apply IsS56.set_1 | apply IsS56.set_2 | apply IsS56.far (hne := NB168_165.out) | apply IsS56.far (hne := NB168_173.out)) | apply IsS56.far (hne := NB168_165.out) | apply IsS56.far (hne := NB168_173.out) | exact HI168.out)); (case side2 => repeat (first | (with_reducible first | exact HB.out | apply ql | apply qm | apply qn | refine qt ?_ (IsS56.ge HI168.out) | refine qt ?_ GE165.out | refine qt ?_ GE173.out) | exact HB.out)); rintro e w17 ⟨rfl, hi, hb, hk⟩; refine ⟨_, rfl, ?_⟩; have n0_ := qo (KeepBut.blk hk (g' := gb165) (o := .cells #[.int .i64 0, .int .i64 0, .int .i64 0, .slice none 0 0] 24 (0, 0)) zal NB165_168.out zbh); have n1_ := qo (KeepBut.blk hk (g' := gb173) (o := .cells #[.int .i64 t169, .int .i64 t174, .int .i64 0, .slice none 0 0] 24 (0, 0)) (by (with_reducible repeat (first | refine qi ?_ _ | refine qj ?_ | refine qk ?_ _)); refine blk_put (cs := #[.int .i64 t169, .int .i64 0, .int .i64 0, .slice none 0 0]) ?_ 1 _ rfl; (with_reducible repeat (first | refine qi ?_ _ | refine qj ?_ | refine qk ?_ _)); exact BK173.out) NB173_168.out zbh); have n2_ := qo (hb); have n3_ := qo (hi); clear BK165; clear BK173; clear HB; clear HI168; have BK165 := n0_; have BK173 := n1_; have HB := n2_; have HI168 := n3_; clear n0_ n1_ n2_ n3_; (try clear hb); (try clear hb2); (try clear hk); (try clear hi); have hcz18_0 : w17.cell? ⟨gb173, 0, none⟩ = some (.int .i64 t169) := (qs BK173.out 0).trans rfl; have hcz18_1 : w17.cell? ⟨gb173, 1, none⟩ = some (.int .i64 t174) := (qs BK173.out 1).trans rfl; have hcz18_2 : w17.cell? ⟨gb173, 2, none⟩ = some (.int .i64 0) := (qs BK173.out 2).trans rfl; have hcz18_3 : w17.cell? ⟨gb173, 3, none⟩ = some (.slice none 0 0) := (qs BK173.out 3).trans rfl; have hfz18_0 := qu BK173.out 0; have hfz18_1 := qu BK173.out 1; have hfz18_2 := qu BK173.out 2; have hfz18_3 := qu BK173.out 3) | ((with_reducible refine gate_callee (f := 26) rfl ?_); refine goesL_ (some 35) rfl rfl Try.func26 ze rfl #[.pointer (some ⟨gb168, 0, none⟩)] rfl zcm ?_; (with_reducible refine (spec_l04Var.calls k gb168 t179 t180 t181 t182 t183 t184 t185 w _ ?side1 ?side2 A6.out).mono ?_); (case side1 => repeat (first | (with_reducible first | exact HI168.out | apply IsS56.alloc | apply IsS56.drewN | apply IsS56.drew | apply IsS56.set_0 | apply IsS56.set_1 | apply IsS56.set_2 | apply IsS56.far (hne := NB168_165.out) | apply IsS56.far (hne := NB168_173.out)) | apply IsS56.far (hne := NB168_165.out) | apply IsS56.far (hne := NB168_173.out) | exact HI168.out)); (case side2 => repeat (first | (with_reducible first | exact HB.out | apply ql | apply qm | apply qn | refine qt ?_ (IsS56.ge HI168.out) | refine qt ?_ GE165.out | refine qt ?_ GE173.out) | exact HB.out)); rintro e w19 ⟨rfl, hi, hb, hk⟩; refine ⟨_, rfl, ?_⟩; have n0_ := qo (KeepBut.blk hk (g' := gb165) (o := .cells #[.int .i64 0, .int .i64 0, .int .i64 0, .slice none 0 0] 24 (0, 0)) zal NB165_168.out zbh); have n1_ := qo (KeepBut.blk hk (g' := gb173) (o := .cells #[.int .i64 t169, .int .i64 t174, .int .i64 t178, .slice none 0 0] 24 (0, 0)) (by (with_reducible repeat (first | refine qi ?_ _ | refine qj ?_ | refine qk ?_ _)); refine blk_put (cs := #[.int .i64 t169, .int .i64 t174, .int .i64 0, .slice none 0 0]) ?_ 2 _ rfl; (with_reducible repeat (first | refine qi ?_ _ | refine qj ?_ | refine qk ?_ _)); exact BK173.out) NB173_168.out zbh); have n2_ := qo (hb); have n3_ := qo (hi); clear BK165; clear BK173; clear HB; clear HI168; have BK165 := n0_; have BK173 := n1_; have HB := n2_; have HI168 := n3_; clear n0_ n1_ n2_ n3_; (try clear hb); (try clear hb2); (try clear hk); (try clear hi)))
 go_loopg [9] k (fun kq v9 w' => ∃ (x9_1 : Int) (x169000_1 : ByteArray) (x169001_1 : Int) (x169002_1 : Bool) (x174003_1 : List (S60)) (u174003 : Value), v9 = .int .i64 x9_1 ∧ Aside0 (spec_ReadMeta.l0 kq a0 t182 x9_1 x169000_1 x169001_1 x169002_1 t169 t174 t178 x174003_1 = some (r1, r2, r3, r4, r5)) ∧ Aside0 (kq ≤ k) ∧ Aside0 (Kd.S k60 60 w' w.heap.size (fun _ => True) u174003 x174003_1) ∧ Aside0 (w'.heap[gb165]? = some (.cells #[.int .i64 0, .int .i64 0, .int .i64 0, (.slice none 0 0)] 24 (0, 0))) ∧ Aside0 (w'.heap[gb173]? = some (.cells #[.int .i64 t169, .int .i64 t174, .int .i64 t178, u174003] 24 (0, 0))) ∧ Aside0 (IsS56 w w' gb168 x169000_1 x169001_1 x169002_1) ∧ Aside0 (Below w.heap.size w w'))
 case atStart => exact ⟨(0), (t183), (t184), (t185), (([] : List (S60))), (.slice none 0 0), zc, H', ⟨Nat.le_refl _⟩, ⟨zam⟩, ⟨zq⟩, ⟨z4⟩, ⟨zn⟩, ⟨zi⟩⟩
 case round =>
  clear H'
  (try clear c1); (try clear c2); (try clear p2); (try clear c6); (try clear c12); (try clear c13); (try clear hcz14_0); (try clear hcz14_1); (try clear hcz14_2); (try clear hcz14_3); (try clear hcz16_0); (try clear hcz16_1); (try clear hcz16_2); (try clear hcz16_3); (try clear hcz18_0); (try clear hcz18_1); (try clear hcz18_2); (try clear hcz18_3); (try clear hfz14_0); (try clear hfz14_1); (try clear hfz14_2); (try clear hfz14_3); (try clear hfz16_0); (try clear hfz16_1); (try clear hfz16_2); (try clear hfz16_3); (try clear hfz18_0); (try clear hfz18_1); (try clear hfz18_2); (try clear hfz18_3)
  obtain ⟨x9_1, x169000_1, x169001_1, x169002_1, x174003_1, u174003, rfl, HA, HK1, HO_174003, BK165, BK173, HI168, HB⟩ := hrel
  cases gk with
  | zero => exact absurd HA.out (by simp [spec_ReadMeta.l0])
  | succ k1 =>
   have H := HA.out
   clear HA
   simp only [spec_ReadMeta.l0] at H
   have HC20 := qo H
   clear H
   go_upto_region 8 with (fail)
   go_cut [49] (fun v49 wc => ∃ (kq : Nat) (x49_19 : Bool), v49 = .bool x49_19 ∧ Aside0 (spec_ReadMeta.j1 kq a0 t182 x9_1 x49_19 x169000_1 x169001_1 x169002_1 t169 t174 t178 x174003_1 = some (r1, r2, r3, r4, r5)) ∧ Aside0 (kq ≤ k1) ∧ Aside0 (Kd.S k60 60 wc w.heap.size (fun _ => True) u174003 x174003_1) ∧ Aside0 (wc.heap[gb165]? = some (.cells #[.int .i64 0, .int .i64 0, .int .i64 0, (.slice none 0 0)] 24 (0, 0))) ∧ Aside0 (wc.heap[gb173]? = some (.cells #[.int .i64 t169, .int .i64 t174, .int .i64 t178, u174003] 24 (0, 0))) ∧ Aside0 (IsS56 w wc gb168 x169000_1 x169001_1 x169002_1) ∧ Aside0 (Below w.heap.size w wc))
   case first =>
    have H := HC20.out
    clear HC20
    by_cases c21 : x9_1 < t182
    ·rw [if_pos c21] at H
     have c21b0 : decide (x9_1 < t182) = true := decide_eq_true c21
     clear c21
     (first | rw [c21b0] | (simp only [i64_w, i32_w]; rw [c21b0]) | skip)
     by_cases c22 : x9_1 < 30
     ·rw [if_pos c22] at H
      have c22b0 : decide (x9_1 < 30) = true := decide_eq_true c22
      clear c22
      have H' := qo H
      clear H
      obtain ⟨HGz23, hgz23⟩ := HI168.out
      have hcz23_0 := cellS56_0 HGz23
      have hcz23_1 := cellS56_1 HGz23
      have hcz23_2 := cellS56_2 HGz23
      have hfz23_0 := qu HGz23 0
      have hfz23_1 := qu HGz23 1
      have hfz23_2 := qu HGz23 2
      clear HGz23 hgz23
      go_wp2
      go_meet
      case rel => exact ⟨_, (!x169002_1), zc, H', ⟨zbp⟩, ⟨zas⟩, ⟨zq⟩, ⟨z4⟩, ⟨zn⟩, ⟨zi⟩⟩
     ·rw [if_neg c22] at H
      have c22b0 : decide (x9_1 < 30) = false := decide_eq_false c22
      clear c22
      have H' := qo H
      clear H
      go_wp2
      go_meet
      case rel => exact ⟨_, (false), zc, H', ⟨zbp⟩, ⟨zas⟩, ⟨zq⟩, ⟨z4⟩, ⟨zn⟩, ⟨zi⟩⟩
    ·rw [if_neg c21] at H
     have c21b0 : decide (x9_1 < t182) = false := decide_eq_false c21
     clear c21
     (first | rw [c21b0] | (simp only [i64_w, i32_w]; rw [c21b0]) | skip)
     have H' := qo H
     clear H
     go_wp2
     go_meet
     case rel => exact ⟨_, (false), zc, H', ⟨zbp⟩, ⟨zas⟩, ⟨zq⟩, ⟨z4⟩, ⟨zn⟩, ⟨zi⟩⟩
   case rest =>
    clear HC20
    (try clear c1); (try clear c2); (try clear p2); (try clear c6); (try clear c12); (try clear c13); (try clear c21); (try clear c21b0); (try clear c22); (try clear c22b0); (try clear hcz14_0); (try clear hcz14_1); (try clear hcz14_2); (try clear hcz14_3); (try clear hcz16_0); (try clear hcz16_1); (try clear hcz16_2); (try clear hcz16_3); (try clear hcz18_0); (try clear hcz18_1); (try clear hcz18_2); (try clear hcz18_3); (try clear hcz23_0); (try clear hcz23_1); (try clear hcz23_2); (try clear hfz14_0); (try clear hfz14_1); (try clear hfz14_2); (try clear hfz14_3); (try clear hfz16_0); (try clear hfz16_1); (try clear hfz16_2); (try clear hfz16_3); (try clear hfz18_0); (try clear hfz18_1); (try clear hfz18_2); (try clear hfz18_3); (try clear hfz23_0); (try clear hfz23_1); (try clear hfz23_2); (try clear p2)
    obtain ⟨kq, x49_19, rfl, HA, HJ19, HO_174003, BK165, BK173, HI168, HB⟩ := hcut
    cases kq with
    | zero => exact absurd HA.out (by simp [spec_ReadMeta.j1])
    | succ kj19 =>
     have H := HA.out
     clear HA
     simp only [spec_ReadMeta.j1] at H
     by_cases c24 : x49_19 = true
     ·subst c24
      have H1 : ((spec_l04Var.f kj19 x169000_1 x169001_1 x169002_1).bind fun bt188 => ((spec_l04Var.f kj19 bt188.2.1 bt188.2.2.1 bt188.2.2.2).bind fun bt193 => (spec_ReadMeta.l1 kj19 a0 t182 x9_1 bt193.1 0 bt193.2.1 bt193.2.2.1 bt193.2.2.2 t169 t174 t178 x174003_1 bt188.1 ([] : List Int)))) = some (r1, r2, r3, r4, r5) := by rw [if_pos rfl] at H; exact H
      clear H
      have H := H1
      clear H1
      replace H := Option.bind_eq_some_iff.mp H
      obtain ⟨⟨t188, t189, t190, t191⟩, A250, H⟩ := H
      replace H : ((spec_l04Var.f kj19 t189 t190 t191).bind fun bt193 => (spec_ReadMeta.l1 kj19 a0 t182 x9_1 bt193.1 0 bt193.2.1 bt193.2.2.1 bt193.2.2.2 t169 t174 t178 x174003_1 t188 ([] : List Int))) = some (r1, r2, r3, r4, r5) := H
      have A25 := qo A250
      clear A250
      replace H := Option.bind_eq_some_iff.mp H
      obtain ⟨⟨t193, t194, t195, t196⟩, A260, H⟩ := H
      replace H : (spec_ReadMeta.l1 kj19 a0 t182 x9_1 t193 0 t194 t195 t196 t169 t174 t178 x174003_1 t188 ([] : List Int)) = some (r1, r2, r3, r4, r5) := H
      have A26 := qo A260
      clear A260
      have H' := qo H
      clear H
      go_wp2_with (first | ((with_reducible refine gate_callee (f := 26) rfl ?_); refine goesL_ (some 53) rfl rfl Try.func26 ze rfl #[.pointer (some ⟨gb168, 0, none⟩)] rfl zcm ?_; (with_reducible refine (spec_l04Var.calls kj19 gb168 x169000_1 x169001_1 x169002_1 t188 t189 t190 t191 w _ ?side1 ?side2 A25.out).mono ?_); (case side1 => repeat (first | (with_reducible first | exact HI168.out | apply IsS56.alloc | apply IsS56.drewN | apply IsS56.drew | apply IsS56.set_0 | apply IsS56.set_1 | apply IsS56.set_2 | apply IsS56.far (hne := NB168_165.out) | apply IsS56.far (hne := NB168_173.out)) | apply IsS56.far (hne := NB168_165.out) | apply IsS56.far (hne := NB168_173.out) | exact HI168.out)); (case side2 => repeat (first | (with_reducible first | exact HB.out | apply ql | apply qm | apply qn | refine qt ?_ (IsS56.ge HI168.out) | refine qt ?_ GE165.out | refine qt ?_ GE173.out) | exact HB.out)); rintro e w27 ⟨rfl, hi, hb, hk⟩; refine ⟨_, rfl, ?_⟩; have n0_ := qo (Kd.S_mono (Kd.S_keep (IsS56.apartS (show IsS56 w _ gb168 x169000_1 x169001_1 x169002_1 from by repeat (first | (with_reducible first | exact HI168.out | apply IsS56.alloc | apply IsS56.drewN | apply IsS56.drew | apply IsS56.set_0 | apply IsS56.set_1 | apply IsS56.set_2 | apply IsS56.far (hne := NB168_165.out) | apply IsS56.far (hne := NB168_173.out)) | apply IsS56.far (hne := NB168_165.out) | apply IsS56.far (hne := NB168_173.out) | exact HI168.out)) zas za7) hk (fun _ h => h.2)) (fun _ h => h.1)); have n1_ := qo (KeepBut.blk hk (g' := gb165) (o := .cells #[.int .i64 0, .int .i64 0, .int .i64 0, .slice none 0 0] 24 (0, 0)) zq NB165_168.out zbh); have n2_ := qo (KeepBut.blk hk (g' := gb173) (o := .cells #[.int .i64 t169, .int .i64 t174, .int .i64 t178, u174003] 24 (0, 0)) z4 NB173_168.out zbh); have n3_ := qo (hb); have n4_ := qo (hi); clear HO_174003; clear BK165; clear BK173; clear HB; clear HI168; have HO_174003 := n0_; have BK165 := n1_; have BK173 := n2_; have HB := n3_; have HI168 := n4_; clear n0_ n1_ n2_ n3_ n4_; (try clear hb); (try clear hb2); (try clear hk); (try clear hi)) | ((with_reducible refine gate_dst (N := 10) rfl ?_); refine box_event ?hg (N := 10) ?hd (cs := #[.int .i64 0, .slice none 0 0]) (t := 60) ?hr ?_; (case hd => rfl); (case hg => rfl); (case hr => first | (go_simp; done) | (go_simp; rfl)); intro gb192 hg w28 hbox hb; have n0_ := qo (Kd.S_below (Kd.S_elderB zas gb192 (Nat.le_of_eq hg.symm)) hb); have n1_ := qo (qr (g := gb165) (o := .cells #[.int .i64 0, .int .i64 0, .int .i64 0, .slice none 0 0] 24 (0, 0)) zq hb); have n2_ := qo (qr (g := gb173) (o := .cells #[.int .i64 t169, .int .i64 t174, .int .i64 t178, u174003] 24 (0, 0)) z4 hb); have n3_ := qo (IsS56.below zn hb); have n4_ := qo (qq zi hb); have n5_ := qo (hbox); have n6_ := qo ((by rw [hg]; exact (qp zi) : w.heap.size ≤ gb192)); have n7_ := qo ((by rw [hg]; exact (qp zi) : w.heap.size ≤ gb192)); have n8_ := qo ((zct : gb165 ≠ gb192)); have n9_ := qo ((zcu : gb192 ≠ gb165)); have n10_ := qo ((by rw [hg]; exact Nat.ne_of_lt (blk_lt (g := gb173) (o := .cells #[.int .i64 t169, .int .i64 t174, .int .i64 t178, u174003] 24 (0, 0)) z4) : gb173 ≠ gb192)); have n11_ := qo ((by rw [hg]; exact Nat.ne_of_gt (blk_lt (g := gb173) (o := .cells #[.int .i64 t169, .int .i64 t174, .int .i64 t178, u174003] 24 (0, 0)) z4) : gb192 ≠ gb173)); have n12_ := qo ((by rw [hg]; exact Nat.ne_of_lt (IsS56.lt (show IsS56 w _ gb168 t189 t190 t191 from by repeat (first | (with_reducible first | exact HI168.out | apply IsS56.alloc | apply IsS56.drewN | apply IsS56.drew | apply IsS56.set_0 | apply IsS56.set_1 | apply IsS56.set_2 | apply IsS56.far (hne := NB168_165.out) | apply IsS56.far (hne := NB168_173.out)) | apply IsS56.far (hne := NB168_165.out) | apply IsS56.far (hne := NB168_173.out) | exact HI168.out))) : gb168 ≠ gb192)); have n13_ := qo ((by rw [hg]; exact Nat.ne_of_gt (IsS56.lt (show IsS56 w _ gb168 t189 t190 t191 from by repeat (first | (with_reducible first | exact HI168.out | apply IsS56.alloc | apply IsS56.drewN | apply IsS56.drew | apply IsS56.set_0 | apply IsS56.set_1 | apply IsS56.set_2 | apply IsS56.far (hne := NB168_165.out) | apply IsS56.far (hne := NB168_173.out)) | apply IsS56.far (hne := NB168_165.out) | apply IsS56.far (hne := NB168_173.out) | exact HI168.out))) : gb192 ≠ gb168)); clear HO_174003; clear BK165; clear BK173; clear HI168; clear HB; have HO_174003 := n0_; have BK165 := n1_; have BK173 := n2_; have HI168 := n3_; have HB := n4_; have BK192 := n5_; have GW192 := n6_; have GE192 := n7_; have NB165_192 := n8_; have NB192_165 := n9_; have NB173_192 := n10_; have NB192_173 := n11_; have NB168_192 := n12_; have NB192_168 := n13_; clear n0_ n1_ n2_ n3_ n4_ n5_ n6_ n7_ n8_ n9_ n10_ n11_ n12_ n13_; clear hb hbox hg; have hnb29 := NB192_165.out; have hnc29 := NB165_192.out; have hnb30 := NB192_173.out; have hnc30 := NB173_192.out; have hnb31 := NB192_168.out; have hnc31 := NB168_192.out; have hcz32_0 : w28.cell? ⟨gb192, 0, none⟩ = some (.int .i64 0) := (qs BK192.out 0).trans rfl; have hcz32_1 : w28.cell? ⟨gb192, 1, none⟩ = some (.slice none 0 0) := (qs BK192.out 1).trans rfl; have hfz32_0 := qu BK192.out 0; have hfz32_1 := qu BK192.out 1) | ((with_reducible refine gate_callee (f := 26) rfl ?_); refine goesL_ (some 56) rfl rfl Try.func26 ze rfl #[.pointer (some ⟨gb168, 0, none⟩)] rfl zcm ?_; (with_reducible refine (spec_l04Var.calls kj19 gb168 t189 t190 t191 t193 t194 t195 t196 w _ ?side1 ?side2 A26.out).mono ?_); (case side1 => repeat (first | (with_reducible first | exact HI168.out | apply IsS56.alloc | apply IsS56.drewN | apply IsS56.drew | apply IsS56.set_0 | apply IsS56.set_1 | apply IsS56.set_2 | apply IsS56.far (hne := NB168_165.out) | apply IsS56.far (hne := NB168_173.out) | apply IsS56.far (hne := NB168_192.out)) | apply IsS56.far (hne := NB168_165.out) | apply IsS56.far (hne := NB168_173.out) | apply IsS56.far (hne := NB168_192.out) | exact HI168.out)); (case side2 => repeat (first | (with_reducible first | exact HB.out | apply ql | apply qm | apply qn | refine qt ?_ (IsS56.ge HI168.out) | refine qt ?_ GE165.out | refine qt ?_ GE173.out | refine qt ?_ GE192.out) | exact HB.out)); rintro e w33 ⟨rfl, hi, hb, hk⟩; refine ⟨_, rfl, ?_⟩; have n0_ := qo (Kd.S_mono (Kd.S_keep (IsS56.apartS (show IsS56 w _ gb168 t189 t190 t191 from by repeat (first | (with_reducible first | exact HI168.out | apply IsS56.alloc | apply IsS56.drewN | apply IsS56.drew | apply IsS56.set_0 | apply IsS56.set_1 | apply IsS56.set_2 | apply IsS56.far (hne := NB168_165.out) | apply IsS56.far (hne := NB168_173.out) | apply IsS56.far (hne := NB168_192.out)) | apply IsS56.far (hne := NB168_165.out) | apply IsS56.far (hne := NB168_173.out) | apply IsS56.far (hne := NB168_192.out) | exact HI168.out)) (by (with_reducible repeat (first | apply Kd.S_alloc | apply Kd.S_drewN | apply Kd.S_drew)); exact (Kd.S_mono (Kd.S_far (p := ⟨gb192, 1, none⟩) (Kd.S_far (p := ⟨gb192, 0, none⟩) (Kd.S_mono HO_174003.out (fun k_ hk => (⟨hk, hk.2⟩ : _ ∧ k_ ≠ gb192))) (fun _ hk => hk.2) (.int .i64 t188)) (fun _ hk => hk.2) (.slice none 0 0)) (fun _ h_ => h_.1))) za7) hk (fun _ h => h.2)) (fun _ h => h.1)); have n1_ := qo (KeepBut.blk hk (g' := gb165) (o := .cells #[.int .i64 0, .int .i64 0, .int .i64 0, .slice none 0 0] 24 (0, 0)) (by (with_reducible repeat (first | refine qi ?_ _ | refine qj ?_ | refine qk ?_ _)); refine blk_far ?_ NB165_192.out _; (with_reducible repeat (first | refine qi ?_ _ | refine qj ?_ | refine qk ?_ _)); refine blk_far ?_ NB165_192.out _; (with_reducible repeat (first | refine qi ?_ _ | refine qj ?_ | refine qk ?_ _)); exact BK165.out) NB165_168.out zbh); have n2_ := qo (KeepBut.blk hk (g' := gb173) (o := .cells #[.int .i64 t169, .int .i64 t174, .int .i64 t178, u174003] 24 (0, 0)) (by (with_reducible repeat (first | refine qi ?_ _ | refine qj ?_ | refine qk ?_ _)); refine blk_far ?_ NB173_192.out _; (with_reducible repeat (first | refine qi ?_ _ | refine qj ?_ | refine qk ?_ _)); refine blk_far ?_ NB173_192.out _; (with_reducible repeat (first | refine qi ?_ _ | refine qj ?_ | refine qk ?_ _)); exact BK173.out) NB173_168.out zbh); have n3_ := qo (KeepBut.blk hk (g' := gb192) (o := .cells #[.int .i64 t188, .slice none 0 0] 60 (0, 0)) (by (with_reducible repeat (first | refine qi ?_ _ | refine qj ?_ | refine qk ?_ _)); refine blk_put (cs := #[.int .i64 t188, .slice none 0 0]) ?_ 1 _ rfl; (with_reducible repeat (first | refine qi ?_ _ | refine qj ?_ | refine qk ?_ _)); refine blk_put (cs := #[.int .i64 0, .slice none 0 0]) ?_ 0 _ rfl; (with_reducible repeat (first | refine qi ?_ _ | refine qj ?_ | refine qk ?_ _)); exact BK192.out) NB192_168.out zbh); have n4_ := qo (hb); have n5_ := qo (hi); clear HO_174003; clear BK165; clear BK173; clear BK192; clear HB; clear HI168; have HO_174003 := n0_; have BK165 := n1_; have BK173 := n2_; have BK192 := n3_; have HB := n4_; have HI168 := n5_; clear n0_ n1_ n2_ n3_ n4_ n5_; (try clear hb); (try clear hb2); (try clear hk); (try clear hi)))
      go_loopg [12] kj19 (fun kq v12 w' => ∃ (x12_3 : Int) (x169000_3 : ByteArray) (x169001_3 : Int) (x169002_3 : Bool) (x193001_3 : List Int) (u193001 : Value), v12 = .int .i64 x12_3 ∧ Aside0 (spec_ReadMeta.l1 kq a0 t182 x9_1 t193 x12_3 x169000_3 x169001_3 x169002_3 t169 t174 t178 x174003_1 t188 x193001_3 = some (r1, r2, r3, r4, r5)) ∧ Aside0 (kq ≤ kj19) ∧ Aside0 (Kd.S k60 60 w' w.heap.size (fun k_ => some k_ ≠ (u193001 : Value).ownBlock ∧ k_ ≠ gb192) u174003 x174003_1) ∧ Aside0 (Kd.R (Kd.int .i64) 3 w' w.heap.size (fun _ => True) u193001 x193001_3) ∧ Aside0 (w'.heap[gb165]? = some (.cells #[.int .i64 0, .int .i64 0, .int .i64 0, (.slice none 0 0)] 24 (0, 0))) ∧ Aside0 (w'.heap[gb173]? = some (.cells #[.int .i64 t169, .int .i64 t174, .int .i64 t178, u174003] 24 (0, 0))) ∧ Aside0 (w'.heap[gb192]? = some (.cells #[.int .i64 t188, u193001] 60 (0, 0))) ∧ Aside0 (IsS56 w w' gb168 x169000_3 x169001_3 x169002_3) ∧ Aside0 (Below w.heap.size w w'))
      case atStart => exact ⟨(0), (t194), (t195), (t196), (([] : List Int)), (.slice none 0 0), zc, H', ⟨Nat.le_refl _⟩, ⟨by (with_reducible repeat (first | apply Kd.S_alloc | apply Kd.S_drewN | apply Kd.S_drew)); exact Kd.S_mono HO_174003.out (fun _ hk => ⟨(by simp [Value.ownBlock]), hk.2⟩)⟩, ⟨by first | exact Kd.R_nil _ _ _ _ _ | exact Kd.N_nil _ _ _ _ _ | exact Kd.V_nil _ _ _ _ _ | exact Kd.Q_nil _ _ _ _ _ | exact Kd.S_nil _ _ _ _ _⟩, ⟨zq⟩, ⟨z4⟩, ⟨zaw⟩, ⟨zg⟩, ⟨zj⟩⟩
      case round =>
       clear H'
       (try clear c1); (try clear c2); (try clear p2); (try clear c3); (try clear c6); (try clear c12); (try clear c13); (try clear c21); (try clear c21b0); (try clear c22); (try clear c22b0); (try clear c24); (try clear c25); (try clear c26); (try clear c29); (try clear c30); (try clear c31); (try clear hcz14_0); (try clear hcz14_1); (try clear hcz14_2); (try clear hcz14_3); (try clear hcz16_0); (try clear hcz16_1); (try clear hcz16_2); (try clear hcz16_3); (try clear hcz18_0); (try clear hcz18_1); (try clear hcz18_2); (try clear hcz18_3); (try clear hcz23_0); (try clear hcz23_1); (try clear hcz23_2); (try clear hcz32_0); (try clear hcz32_1); (try clear hfz14_0); (try clear hfz14_1); (try clear hfz14_2); (try clear hfz14_3); (try clear hfz16_0); (try clear hfz16_1); (try clear hfz16_2); (try clear hfz16_3); (try clear hfz18_0); (try clear hfz18_1); (try clear hfz18_2); (try clear hfz18_3); (try clear hfz23_0); (try clear hfz23_1); (try clear hfz23_2); (try clear hfz32_0); (try clear hfz32_1); (try clear p2)
       obtain ⟨x12_3, x169000_3, x169001_3, x169002_3, x193001_3, u193001, rfl, HA, HK3, HO_174003, HO_193001, BK165, BK173, BK192, HI168, HB⟩ := hrel
       cases gk with
       | zero => exact absurd HA.out (by simp [spec_ReadMeta.l1])
       | succ k3 =>
        have H := HA.out
        clear HA
        simp only [spec_ReadMeta.l1] at H
        by_cases c34 : x12_3 < t193
        ·rw [if_pos c34] at H
         have c34b0 : decide (x12_3 < t193) = true := decide_eq_true c34
         clear c34
         by_cases c35 : x12_3 < 50
         ·rw [if_pos c35] at H
          have c35b0 : decide (x12_3 < 50) = true := decide_eq_true c35
          clear c35
          by_cases c36 : x169002_3 = true
          ·subst c36
           have H1 : (if x174003_1.length < 4398046511104 then (spec_ReadMeta.l0 k3 a0 t182 (wrap64 (x9_1 + 1)) x169000_3 x169001_3 true t169 t174 t178 (x174003_1 ++ [(⟨t188, x193001_3⟩ : S60)])) else (none)) = some (r1, r2, r3, r4, r5) := by rw [if_pos rfl] at H; exact H
           clear H
           have H := H1
           clear H1
           by_cases c37 : x174003_1.length < 4398046511104
           ·rw [if_pos c37] at H
            have LMc37 := qo c37
            clear c37
            obtain ⟨y197, hy197⟩ : ∃ y_ : List (S60), y_ = (x174003_1 ++ [(⟨t188, x193001_3⟩ : S60)]) := ⟨_, rfl⟩
            replace H : (spec_ReadMeta.l0 k3 a0 t182 (wrap64 (x9_1 + 1)) x169000_3 x169001_3 true t169 t174 t178 y197) = some (r1, r2, r3, r4, r5) := by first | (rw [hy197]; with_reducible exact H) | (have H2_ := (Option.bind_some _ _).symm.trans H; rw [hy197]; with_reducible exact H2_) | (have H2_ := (Option.bind_some _ _).symm.trans H; with_reducible exact H2_) | with_reducible exact H | (rw [hy197]; exact H) | exact H
            have Ny197 := qo hy197
            clear hy197
            have H' := qo H
            clear H
            obtain ⟨HGz38, hgz38⟩ := HI168.out
            have hcz38_0 := cellS56_0 HGz38
            have hcz38_1 := cellS56_1 HGz38
            have hcz38_2 := cellS56_2 HGz38
            have hfz38_0 := qu HGz38 0
            have hfz38_1 := qu HGz38 1
            have hfz38_2 := qu HGz38 2
            clear HGz38 hgz38
            have hnb39 := NB173_165.out
            have hnc39 := NB165_173.out
            have hnb40 := NB173_192.out
            have hnc40 := NB192_173.out
            have hnb41 := NB173_168.out
            have hnc41 := NB168_173.out
            have hcz42_0 : wr.cell? ⟨gb173, 0, none⟩ = some (.int .i64 t169) := (qs BK173.out 0).trans rfl
            have hcz42_1 : wr.cell? ⟨gb173, 1, none⟩ = some (.int .i64 t174) := (qs BK173.out 1).trans rfl
            have hcz42_2 : wr.cell? ⟨gb173, 2, none⟩ = some (.int .i64 t178) := (qs BK173.out 2).trans rfl
            have hcz42_3 : wr.cell? ⟨gb173, 3, none⟩ = some (u174003) := (qs BK173.out 3).trans rfl
            have hfz42_0 := qu BK173.out 0
            have hfz42_1 := qu BK173.out 1
            have hfz42_2 := qu BK173.out 2
            have hfz42_3 := qu BK173.out 3
            have hnb43 := NB192_165.out
            have hnc43 := NB165_192.out
            have hnb44 := NB192_168.out
            have hnc44 := NB168_192.out
            have hcz45_0 : wr.cell? ⟨gb192, 0, none⟩ = some (.int .i64 t188) := (qs BK192.out 0).trans rfl
            have hcz45_1 : wr.cell? ⟨gb192, 1, none⟩ = some (u193001) := (qs BK192.out 1).trans rfl
            have hfz45_0 := qu BK192.out 0
            have hfz45_1 := qu BK192.out 1
            obtain ⟨Ao47, co47, eo47⟩ := Kd.R_slice HO_193001.out
            subst eo47
            go_wp2_with (first | ((with_reducible refine gate_builtin (b := .append) (xs := #[.tmp 81, .tmp 83]) rfl ?_); at_builtin; refine Kd.S_append k60 (w0 := w) w.heap.size rfl (.tmp 81) (.tmp 83) 22 60 (.agg #[(.int .i64 0), (.slice none 0 0)]) 32 rfl Try.underlying22 info60 rfl za7 zck u174003 x174003_1 (⟨t188, x193001_3⟩ : S60) [.int .i64 t188, .slice Ao47 x193001_3.length co47] (fun k_ => k_ ≠ gb192) (fun k_ => some k_ = (.slice Ao47 x193001_3.length co47 : Value).ownBlock) rfl rfl ?aP (fun k_ hk_ => ((Kd.R_mono (ok' := fun k_ => ((fun k_ => k_ ≠ gb192)) k_ ∧ some k_ ≠ (u174003 : Value).ownBlock) (Kd.R_types (Kd.R_apart' (HO_193001.out) (Kd.S_typed HO_174003.out) za7) BK192.out za7) (fun k_ hk => ⟨hk.2, hk.1.2⟩))).1 k_ hk_.symm) ?aF ?aO ?aB ?aS ?aL ?_; (case aP => exact k60_mkM _ _ _ (⟨t188, x193001_3⟩ : S60) (Kd.R_mono (Kd.R_tight rfl (Kd.R_mono (ok' := fun k_ => ((fun k_ => k_ ≠ gb192)) k_ ∧ some k_ ≠ (u174003 : Value).ownBlock) (Kd.R_types (Kd.R_apart' (HO_193001.out) (Kd.S_typed HO_174003.out) za7) BK192.out za7) (fun k_ hk => ⟨hk.2, hk.1.2⟩))) (fun _ h_ => h_))); (case aB => exact zj); (case aF => exact (fun k_ hk => Kd.freshB (g := gb192) (o := .cells #[.int .i64 t188, .slice Ao47 x193001_3.length co47] 60 (0, 0)) zaw k_ hk)); (case aO => exact zb3); (case aS => exact (qp zj)); (case aL => have := LMc37.out; omega); intro v198 w46 ho hb hg hat; rw [← Ny197.out] at ho; have n0_ := qo (blk_grown (g := gb165) (o := .cells #[.int .i64 0, .int .i64 0, .int .i64 0, .slice none 0 0] 24 (0, 0)) zq hg (Kd.S_ne HO_174003.out BK165.out za7)); have n1_ := qo (blk_grown (g := gb173) (o := .cells #[.int .i64 t169, .int .i64 t174, .int .i64 t178, u174003] 24 (0, 0)) z4 hg (Kd.S_ne HO_174003.out BK173.out za7)); have n2_ := qo (blk_grown (g := gb192) (o := .cells #[.int .i64 t188, .slice Ao47 x193001_3.length co47] 60 (0, 0)) zaw hg (Kd.S_away HO_174003.out (fun _ hk => hk.2))); have n3_ := qo (IsS56.grown zg hg (IsS56.own_neS HI168.out HO_174003.out za7)); have n4_ := qo (hb); have n5_ := qo (ho); clear BK165; clear BK173; clear BK192; clear HI168; clear HB; clear HO_174003; clear HO_193001; have BK165 := n0_; have BK173 := n1_; have BK192 := n2_; have HI168 := n3_; have HB := n4_; have HO199 := n5_; clear n0_ n1_ n2_ n3_ n4_ n5_; clear ho hb hg hat; obtain ⟨Ao48, co48, eo48⟩ := Kd.S_slice HO199.out; subst eo48; have hcz49_0 : w46.cell? ⟨gb173, 0, none⟩ = some (.int .i64 t169) := (qs BK173.out 0).trans rfl; have hcz49_1 : w46.cell? ⟨gb173, 1, none⟩ = some (.int .i64 t174) := (qs BK173.out 1).trans rfl; have hcz49_2 : w46.cell? ⟨gb173, 2, none⟩ = some (.int .i64 t178) := (qs BK173.out 2).trans rfl; have hcz49_3 : w46.cell? ⟨gb173, 3, none⟩ = some (u174003) := (qs BK173.out 3).trans rfl; have hfz49_0 := qu BK173.out 0; have hfz49_1 := qu BK173.out 1; have hfz49_2 := qu BK173.out 2; have hfz49_3 := qu BK173.out 3))
            go_roundg k3
            case measure => have := HK1.out; have := HJ19.out; have := HK3.out; omega
            case rel => exact ⟨(wrap64 (x9_1 + 1)), (x169000_3), (x169001_3), (true), (y197), (.slice Ao48 y197.length co48), zc, H', ⟨zcj⟩, ⟨by (with_reducible repeat (first | apply Kd.S_alloc | apply Kd.S_drewN | apply Kd.S_drew)); exact Kd.S_mono (Kd.S_far (p := ⟨gb173, 3, none⟩) (Kd.S_types HO199.out BK173.out za7) (fun _ hk => hk.2) (.slice Ao48 y197.length co48)) (fun _ hk => trivial)⟩, ⟨zal⟩, ⟨zaz⟩, ⟨zg⟩, ⟨zj⟩⟩
           ·rw [if_neg c37] at H
            exact absurd H zbh
          ·replace c36 := Bool.eq_false_iff.mpr c36
           subst c36
           have H1 : ((spec_l04Var.f k3 x169000_3 x169001_3 false).bind fun bt200 => (if x193001_3.length < 17592186044416 then (spec_ReadMeta.l1 k3 a0 t182 x9_1 t193 (wrap64 (x12_3 + 1)) bt200.2.1 bt200.2.2.1 bt200.2.2.2 t169 t174 t178 x174003_1 t188 (x193001_3 ++ [bt200.1])) else (none))) = some (r1, r2, r3, r4, r5) := by rw [if_neg (show ¬ (false = true) by decide)] at H; exact H
           clear H
           have H := H1
           clear H1
           replace H := Option.bind_eq_some_iff.mp H
           obtain ⟨⟨t200, t201, t202, t203⟩, A500, H⟩ := H
           replace H : (if x193001_3.length < 17592186044416 then (spec_ReadMeta.l1 k3 a0 t182 x9_1 t193 (wrap64 (x12_3 + 1)) t201 t202 t203 t169 t174 t178 x174003_1 t188 (x193001_3 ++ [t200])) else (none)) = some (r1, r2, r3, r4, r5) := H
           have A50 := qo A500
           clear A500
           by_cases c51 : x193001_3.length < 17592186044416
           ·rw [if_pos c51] at H
            have LMc51 := qo c51
            clear c51
            obtain ⟨y204, hy204⟩ : ∃ y_ : List Int, y_ = (x193001_3 ++ [t200]) := ⟨_, rfl⟩
            replace H : (spec_ReadMeta.l1 k3 a0 t182 x9_1 t193 (wrap64 (x12_3 + 1)) t201 t202 t203 t169 t174 t178 x174003_1 t188 y204) = some (r1, r2, r3, r4, r5) := by first | (rw [hy204]; with_reducible exact H) | (have H2_ := (Option.bind_some _ _).symm.trans H; rw [hy204]; with_reducible exact H2_) | (have H2_ := (Option.bind_some _ _).symm.trans H; with_reducible exact H2_) | with_reducible exact H | (rw [hy204]; exact H) | exact H
            have Ny204 := qo hy204
            clear hy204
            have H' := qo H
            clear H
            obtain ⟨HGz52, hgz52⟩ := HI168.out
            have hcz52_0 := cellS56_0 HGz52
            have hcz52_1 := cellS56_1 HGz52
            have hcz52_2 := cellS56_2 HGz52
            have hfz52_0 := qu HGz52 0
            have hfz52_1 := qu HGz52 1
            have hfz52_2 := qu HGz52 2
            clear HGz52 hgz52
            try go_wp2
            have n0_ := qo (Kd.S_drew HO_174003.out)
            have n1_ := qo (Kd.R_drew HO_193001.out)
            have n2_ := qo (qj BK165.out)
            have n3_ := qo (qj BK173.out)
            have n4_ := qo (qj BK192.out)
            have n5_ := qo (IsS56.drew HI168.out)
            have n6_ := qo (qn HB.out)
            clear HO_174003
            clear HO_193001
            clear BK165
            clear BK173
            clear BK192
            clear HI168
            clear HB
            have HO_174003 := n0_
            have HO_193001 := n1_
            have BK165 := n2_
            have BK173 := n3_
            have BK192 := n4_
            have HI168 := n5_
            have HB := n6_
            clear n0_ n1_ n2_ n3_ n4_ n5_ n6_
            refine start_ (n := 8) (S := fun w' => w'.cell? ⟨gb192, 0, none⟩ = some (.int .i64 t188) ∧ w'.cell? ⟨gb192, 1, none⟩ = some (u193001)) (ds := [7]) (bz 8 0) ze rfl rfl ⟨(qs BK192.out 0).trans rfl, (qs BK192.out 1).trans rfl⟩ (fun hHeld => ?_); refine with_tabW spec_ReadMeta.tab15 spec_ReadMeta.bits15 (fun HT_ HW_ => ?_)
            generalize wr.drew = w53 at HO_174003 HO_193001 BK165 BK173 BK192 HI168 HB hHeld ⊢
            refine pure_ (i := 0) (N := some 73) (v := ?_) (a' := ?_) (bz 8 1) rfl rfl (any_of HT_.out ze) (fun _ _ _ h => h) (Or.inl ⟨zae, ?_⟩) ?_ ?_; rotate_left; (intro w'; go_simp; with_reducible rfl); rotate_left; (simp only [Act.put, qa, qb, qc, i64_w, i32_w]; rfl)
            refine pure_ (i := 2) (N := some 75) (v := ?_) (a' := ?_) (bz 8 5) rfl rfl (any_of HT_.out ze) (fun _ _ _ h => h) (Or.inl ⟨zae, ?_⟩) ?_ ?_; rotate_left; (intro w'; go_simp; with_reducible rfl); rotate_left; (simp only [Act.put, qa, qb, qc, i64_w, i32_w]; rfl)
            refine take_ (i := 1) (N := some 74) (v := ?_) (a' := ?_) (bz 8 7) rfl rfl (take_ofW HT_.out HW_.out ze) (fun _ _ _ h => h) (Or.inl ⟨zae, ?_⟩) hHeld ?_ ?_; rotate_left; (rintro w' ⟨s0, s1⟩; go_simp; with_reducible rfl); rotate_left; (simp only [Act.put, qa, qb, qc, i64_w, i32_w]; rfl)
            refine one_ (i := 3) (N := some 76) (bz 8 15) rfl rfl (one_of HT_.out ze) za7 (fun K hK => ?_)
            refine goes_ Try.func26 ze rfl #[.pointer (some ⟨gb168, 0, none⟩)] zae rfl rfl zcm ?_
            with_reducible refine (spec_l04Var.calls k3 gb168 x169000_3 x169001_3 false t200 t201 t202 t203 w _ ?side1 ?side2 A50.out).mono ?_
            (case side1 => repeat (first | (with_reducible first | exact HI168.out | apply IsS56.alloc | apply IsS56.drewN | apply IsS56.drew | apply IsS56.set_0 | apply IsS56.set_1 | apply IsS56.set_2 | apply IsS56.far (hne := NB168_165.out) | apply IsS56.far (hne := NB168_173.out) | apply IsS56.far (hne := NB168_192.out)) | apply IsS56.far (hne := NB168_165.out) | apply IsS56.far (hne := NB168_173.out) | apply IsS56.far (hne := NB168_192.out) | exact HI168.out))
            (case side2 => repeat (first | (with_reducible first | exact HB.out | apply ql | apply qm | apply qn | refine qt ?_ (IsS56.ge HI168.out) | refine qt ?_ GE165.out | refine qt ?_ GE173.out | refine qt ?_ GE192.out) | exact HB.out))
            rintro e w54 ⟨rfl, hi, hb, hk⟩
            refine ⟨_, rfl, ?_⟩
            have n0_ := qo (Kd.S_mono (Kd.S_keep (IsS56.apartS (show IsS56 w _ gb168 x169000_3 x169001_3 false from by repeat (first | (with_reducible first | exact HI168.out | apply IsS56.alloc | apply IsS56.drewN | apply IsS56.drew | apply IsS56.set_0 | apply IsS56.set_1 | apply IsS56.set_2 | apply IsS56.far (hne := NB168_165.out) | apply IsS56.far (hne := NB168_173.out) | apply IsS56.far (hne := NB168_192.out)) | apply IsS56.far (hne := NB168_165.out) | apply IsS56.far (hne := NB168_173.out) | apply IsS56.far (hne := NB168_192.out) | exact HI168.out)) zas za7) hk (fun _ h => h.2)) (fun _ h => h.1))
            have n1_ := qo (Kd.R_mono (Kd.R_keep (IsS56.apart (show IsS56 w _ gb168 x169000_3 x169001_3 false from by repeat (first | (with_reducible first | exact HI168.out | apply IsS56.alloc | apply IsS56.drewN | apply IsS56.drew | apply IsS56.set_0 | apply IsS56.set_1 | apply IsS56.set_2 | apply IsS56.far (hne := NB168_165.out) | apply IsS56.far (hne := NB168_173.out) | apply IsS56.far (hne := NB168_192.out)) | apply IsS56.far (hne := NB168_165.out) | apply IsS56.far (hne := NB168_173.out) | apply IsS56.far (hne := NB168_192.out) | exact HI168.out)) (by (with_reducible repeat (first | apply Kd.R_alloc | apply Kd.R_drewN | apply Kd.R_drew)); exact HO_193001.out) za7) hk (fun _ h => h.2)) (fun _ h => h.1))
            have n2_ := qo (KeepBut.blk hk (g' := gb165) (o := .cells #[.int .i64 0, .int .i64 0, .int .i64 0, .slice none 0 0] 24 (0, 0)) zq NB165_168.out zbh)
            have n3_ := qo (KeepBut.blk hk (g' := gb173) (o := .cells #[.int .i64 t169, .int .i64 t174, .int .i64 t178, u174003] 24 (0, 0)) z4 NB173_168.out zbh)
            have n4_ := qo (KeepBut.blk hk (g' := gb192) (o := .cells #[.int .i64 t188, u193001] 60 (0, 0)) zaw NB192_168.out zbh)
            have n5_ := qo (hb)
            have n6_ := qo (hi)
            clear HO_174003
            clear HO_193001
            clear BK165
            clear BK173
            clear BK192
            clear HB
            clear HI168
            have HO_174003 := n0_
            have HO_193001 := n1_
            have BK165 := n2_
            have BK173 := n3_
            have BK192 := n4_
            have HB := n5_
            have HI168 := n6_
            clear n0_ n1_ n2_ n3_ n4_ n5_ n6_
            (try clear hb)
            (try clear hb2)
            (try clear hk)
            (try clear hi)
            refine hK.out _ _ ⟨(qs BK192.out 0).trans rfl, (qs BK192.out 1).trans rfl⟩ (fun hHeld => ?_)
            clear hK K
            refine norm_ (a' := ?_) ?_ ?_; rotate_left; (show Act.put _ (some 76) _ = _; simp only [Act.put, qa, qb, qc, i64_w, i32_w]; rfl)
            refine one_ (i := 4) (N := some 77) (bz 8 31) rfl rfl (one_of HT_.out ze) za7 (fun K hK => ?_)
            refine value_ (w1 := ?_) (v := ?_) zae rfl ?_ ?_
            rotate_left 2
            ·go_simp
             constructor
             ·rfl
             ·rfl
            refine hK.out _ _ ⟨(qs (qk BK192.out _) 0).trans rfl, (qs (qk BK192.out _) 1).trans rfl⟩ (fun hHeld => ?_)
            clear hK K
            refine norm_ (a' := ?_) ?_ ?_; rotate_left; (show Act.put _ (some 77) _ = _; simp only [Act.put, qa, qb, qc, i64_w, i32_w]; rfl)
            refine one_ (i := 5) (N := some 78) (bz 8 63) rfl rfl (one_of HT_.out ze) za7 (fun K hK => ?_)
            refine Kd.R_append_step (Kd.int .i64) (w0 := w) w.heap.size zae (.tmp 74) (.tmp 77) 58 3 (.int .i64 0) 8 rfl Try.underlying58 info3 rfl za7 zck u193001 x193001_3 t200 [.int .i64 t200] (fun _ => True) (fun _ => False) rfl rfl ?aP (fun _ hk => hk.elim) ?aF ?aO ?aB ?aS ?aL ?_
            (case aP => exact rfl)
            (case aB => exact zj)
            (case aF => exact (fun _ _ => trivial))
            (case aO => exact (by (with_reducible repeat (first | apply Kd.R_alloc | apply Kd.R_drewN | apply Kd.R_drew)); exact HO_193001.out))
            (case aS => exact (qp zj))
            (case aL => have := LMc51.out; omega)
            intro v205 w55 ho hb hg hat
            rw [← Ny204.out] at ho
            have n0_ := qo (Kd.S_after (ok := (fun k_ => k_ ≠ gb192)) (by (with_reducible repeat (first | apply Kd.S_alloc | apply Kd.S_drewN | apply Kd.S_drew)); exact Kd.S_mono HO_174003.out (fun _ hk => ⟨hk.2, hk.1⟩)) hg hat)
            have n1_ := qo (blk_grown (g := gb165) (o := .cells #[.int .i64 0, .int .i64 0, .int .i64 0, .slice none 0 0] 24 (0, 0)) zq hg (Kd.R_ne HO_193001.out BK165.out za7))
            have n2_ := qo (blk_grown (g := gb173) (o := .cells #[.int .i64 t169, .int .i64 t174, .int .i64 t178, u174003] 24 (0, 0)) z4 hg (Kd.R_ne HO_193001.out BK173.out za7))
            have n3_ := qo (blk_grown (g := gb192) (o := .cells #[.int .i64 t188, u193001] 60 (0, 0)) zaw hg (Kd.R_ne HO_193001.out BK192.out za7))
            have n4_ := qo (IsS56.grown zg hg (IsS56.own_ne HI168.out HO_193001.out za7))
            have n5_ := qo (hb)
            have n6_ := qo (ho)
            clear HO_174003
            clear BK165
            clear BK173
            clear BK192
            clear HI168
            clear HB
            clear HO_193001
            have HO_174003 := n0_
            have BK165 := n1_
            have BK173 := n2_
            have BK192 := n3_
            have HI168 := n4_
            have HB := n5_
            have HO206 := n6_
            clear n0_ n1_ n2_ n3_ n4_ n5_ n6_
            clear ho hb hg hat
            obtain ⟨Ao56, co56, eo56⟩ := Kd.R_slice HO206.out
            (first | subst eo56 | (injection eo56 with f1_ f2_ f3_; have f4_ := f1_.symm; have f5_ := f3_.symm; clear f1_ f2_ f3_; subst f4_; subst f5_))
            refine hK.out _ _ ⟨(qs BK192.out 0).trans rfl, (qs BK192.out 1).trans rfl⟩ (fun hHeld => ?_)
            clear hK K
            refine norm_ (a' := ?_) ?_ ?_; rotate_left; (show Act.put _ (some 78) _ = _; simp only [Act.put, qa, qb, qc, i64_w, i32_w]; rfl)
            refine pure_ (i := 6) (N := some 79) (v := ?_) (a' := ?_) (bz 8 127) rfl rfl (any_of HT_.out ze) (fun _ _ _ h => h) (Or.inl ⟨zae, ?_⟩) ?_ ?_; rotate_left; (intro w'; go_simp; with_reducible rfl); rotate_left; (simp only [Act.put, qa, qb, qc, i64_w, i32_w]; rfl)
            refine last_ (i := 7) (N := none) (bz 8 255) rfl rfl (one_of HT_.out ze) za7 (fun K hK => ?_)
            have hs57 : w55.cell? ⟨gb192, 1, none⟩ = some (u193001) := (qs BK192.out 1).trans rfl
            have hfs57 := qu BK192.out 1
            have hns57_0 := NB165_192.out
            have hns57_1 := NB173_192.out
            have hms57_0 := NB192_165.out
            have hms57_1 := NB192_173.out
            refine skip_ (w1 := ?_) zae rfl ?_ ?_
            rotate_left
            ·go_simp
             rfl
            refine hK.out _ _ ?_
            clear hK K
            refine done_ (done_of HT_.out ze) ?_
            try go_wp2
            go_roundg k3
            case measure => have := HK1.out; have := HJ19.out; have := HK3.out; omega
            case rel => exact ⟨(wrap64 (x12_3 + 1)), (t201), (t202), (t203), (y204), (.slice Ao56 y204.length co56), zc, H', ⟨zcj⟩, ⟨by (with_reducible repeat (first | apply Kd.S_alloc | apply Kd.S_drewN | apply Kd.S_drew)); exact Kd.S_mono (Kd.S_far (p := ⟨gb192, 1, none⟩) (Kd.S_mono HO_174003.out (fun k_ hk => (⟨hk, hk.1⟩ : _ ∧ k_ ≠ gb192))) (fun _ hk => hk.2) (.slice Ao56 y204.length co56)) (fun _ hk => ⟨hk.1.2, hk.1.1⟩)⟩, ⟨by (with_reducible repeat (first | apply Kd.R_alloc | apply Kd.R_drewN | apply Kd.R_drew)); exact Kd.R_mono (Kd.R_far (p := ⟨gb192, 1, none⟩) (Kd.R_types HO206.out BK192.out za7) (fun _ hk => hk.2) (.slice Ao56 y204.length co56)) (fun _ hk => trivial)⟩, ⟨by (with_reducible repeat (first | refine qi ?_ _ | refine qj ?_ | refine qk ?_ _)); refine blk_far ?_ NB165_192.out _; (with_reducible repeat (first | refine qi ?_ _ | refine qj ?_ | refine qk ?_ _)); exact BK165.out⟩, ⟨by (with_reducible repeat (first | refine qi ?_ _ | refine qj ?_ | refine qk ?_ _)); refine blk_far ?_ NB173_192.out _; (with_reducible repeat (first | refine qi ?_ _ | refine qj ?_ | refine qk ?_ _)); exact BK173.out⟩, ⟨by (with_reducible repeat (first | refine qi ?_ _ | refine qj ?_ | refine qk ?_ _)); refine blk_put (cs := #[.int .i64 t188, u193001]) ?_ 1 _ rfl; (with_reducible repeat (first | refine qi ?_ _ | refine qj ?_ | refine qk ?_ _)); exact BK192.out⟩, ⟨zg⟩, ⟨zj⟩⟩
           ·rw [if_neg c51] at H
            exact absurd H zbh
         ·rw [if_neg c35] at H
          have c35b0 : decide (x12_3 < 50) = false := decide_eq_false c35
          clear c35
          by_cases c58 : x174003_1.length < 4398046511104
          ·rw [if_pos c58] at H
           have LMc58 := qo c58
           clear c58
           obtain ⟨y207, hy207⟩ : ∃ y_ : List (S60), y_ = (x174003_1 ++ [(⟨t188, x193001_3⟩ : S60)]) := ⟨_, rfl⟩
           replace H : (spec_ReadMeta.l0 k3 a0 t182 (wrap64 (x9_1 + 1)) x169000_3 x169001_3 x169002_3 t169 t174 t178 y207) = some (r1, r2, r3, r4, r5) := by first | (rw [hy207]; with_reducible exact H) | (have H2_ := (Option.bind_some _ _).symm.trans H; rw [hy207]; with_reducible exact H2_) | (have H2_ := (Option.bind_some _ _).symm.trans H; with_reducible exact H2_) | with_reducible exact H | (rw [hy207]; exact H) | exact H
           have Ny207 := qo hy207
           clear hy207
           have H' := qo H
           clear H
           have hnb59 := NB173_165.out
           have hnc59 := NB165_173.out
           have hnb60 := NB173_192.out
           have hnc60 := NB192_173.out
           have hnb61 := NB173_168.out
           have hnc61 := NB168_173.out
           have hcz62_0 : wr.cell? ⟨gb173, 0, none⟩ = some (.int .i64 t169) := (qs BK173.out 0).trans rfl
           have hcz62_1 : wr.cell? ⟨gb173, 1, none⟩ = some (.int .i64 t174) := (qs BK173.out 1).trans rfl
           have hcz62_2 : wr.cell? ⟨gb173, 2, none⟩ = some (.int .i64 t178) := (qs BK173.out 2).trans rfl
           have hcz62_3 : wr.cell? ⟨gb173, 3, none⟩ = some (u174003) := (qs BK173.out 3).trans rfl
           have hfz62_0 := qu BK173.out 0
           have hfz62_1 := qu BK173.out 1
           have hfz62_2 := qu BK173.out 2
           have hfz62_3 := qu BK173.out 3
           have hnb63 := NB192_165.out
           have hnc63 := NB165_192.out
           have hnb64 := NB192_168.out
           have hnc64 := NB168_192.out
           have hcz65_0 : wr.cell? ⟨gb192, 0, none⟩ = some (.int .i64 t188) := (qs BK192.out 0).trans rfl
           have hcz65_1 : wr.cell? ⟨gb192, 1, none⟩ = some (u193001) := (qs BK192.out 1).trans rfl
           have hfz65_0 := qu BK192.out 0
           have hfz65_1 := qu BK192.out 1
           obtain ⟨Ao67, co67, eo67⟩ := Kd.R_slice HO_193001.out
           subst eo67
           go_wp2_with (first | ((with_reducible refine gate_builtin (b := .append) (xs := #[.tmp 81, .tmp 83]) rfl ?_); at_builtin; refine Kd.S_append k60 (w0 := w) w.heap.size rfl (.tmp 81) (.tmp 83) 22 60 (.agg #[(.int .i64 0), (.slice none 0 0)]) 32 rfl Try.underlying22 info60 rfl za7 zck u174003 x174003_1 (⟨t188, x193001_3⟩ : S60) [.int .i64 t188, .slice Ao67 x193001_3.length co67] (fun k_ => k_ ≠ gb192) (fun k_ => some k_ = (.slice Ao67 x193001_3.length co67 : Value).ownBlock) rfl rfl ?aP (fun k_ hk_ => ((Kd.R_mono (ok' := fun k_ => ((fun k_ => k_ ≠ gb192)) k_ ∧ some k_ ≠ (u174003 : Value).ownBlock) (Kd.R_types (Kd.R_apart' (HO_193001.out) (Kd.S_typed HO_174003.out) za7) BK192.out za7) (fun k_ hk => ⟨hk.2, hk.1.2⟩))).1 k_ hk_.symm) ?aF ?aO ?aB ?aS ?aL ?_; (case aP => exact k60_mkM _ _ _ (⟨t188, x193001_3⟩ : S60) (Kd.R_mono (Kd.R_tight rfl (Kd.R_mono (ok' := fun k_ => ((fun k_ => k_ ≠ gb192)) k_ ∧ some k_ ≠ (u174003 : Value).ownBlock) (Kd.R_types (Kd.R_apart' (HO_193001.out) (Kd.S_typed HO_174003.out) za7) BK192.out za7) (fun k_ hk => ⟨hk.2, hk.1.2⟩))) (fun _ h_ => h_))); (case aB => exact zj); (case aF => exact (fun k_ hk => Kd.freshB (g := gb192) (o := .cells #[.int .i64 t188, .slice Ao67 x193001_3.length co67] 60 (0, 0)) zaw k_ hk)); (case aO => exact zb3); (case aS => exact (qp zj)); (case aL => have := LMc58.out; omega); intro v208 w66 ho hb hg hat; rw [← Ny207.out] at ho; have n0_ := qo (blk_grown (g := gb165) (o := .cells #[.int .i64 0, .int .i64 0, .int .i64 0, .slice none 0 0] 24 (0, 0)) zq hg (Kd.S_ne HO_174003.out BK165.out za7)); have n1_ := qo (blk_grown (g := gb173) (o := .cells #[.int .i64 t169, .int .i64 t174, .int .i64 t178, u174003] 24 (0, 0)) z4 hg (Kd.S_ne HO_174003.out BK173.out za7)); have n2_ := qo (blk_grown (g := gb192) (o := .cells #[.int .i64 t188, .slice Ao67 x193001_3.length co67] 60 (0, 0)) zaw hg (Kd.S_away HO_174003.out (fun _ hk => hk.2))); have n3_ := qo (IsS56.grown zg hg (IsS56.own_neS HI168.out HO_174003.out za7)); have n4_ := qo (hb); have n5_ := qo (ho); clear BK165; clear BK173; clear BK192; clear HI168; clear HB; clear HO_174003; clear HO_193001; have BK165 := n0_; have BK173 := n1_; have BK192 := n2_; have HI168 := n3_; have HB := n4_; have HO209 := n5_; clear n0_ n1_ n2_ n3_ n4_ n5_; clear ho hb hg hat; obtain ⟨Ao68, co68, eo68⟩ := Kd.S_slice HO209.out; subst eo68; have hcz69_0 : w66.cell? ⟨gb173, 0, none⟩ = some (.int .i64 t169) := (qs BK173.out 0).trans rfl; have hcz69_1 : w66.cell? ⟨gb173, 1, none⟩ = some (.int .i64 t174) := (qs BK173.out 1).trans rfl; have hcz69_2 : w66.cell? ⟨gb173, 2, none⟩ = some (.int .i64 t178) := (qs BK173.out 2).trans rfl; have hcz69_3 : w66.cell? ⟨gb173, 3, none⟩ = some (u174003) := (qs BK173.out 3).trans rfl; have hfz69_0 := qu BK173.out 0; have hfz69_1 := qu BK173.out 1; have hfz69_2 := qu BK173.out 2; have hfz69_3 := qu BK173.out 3))
           go_roundg k3
           case measure => have := HK1.out; have := HJ19.out; have := HK3.out; omega
           case rel => exact ⟨(wrap64 (x9_1 + 1)), (x169000_3), (x169001_3), (x169002_3), (y207), (.slice Ao68 y207.length co68), zc, H', ⟨zcj⟩, ⟨by (with_reducible repeat (first | apply Kd.S_alloc | apply Kd.S_drewN | apply Kd.S_drew)); exact Kd.S_mono (Kd.S_far (p := ⟨gb173, 3, none⟩) (Kd.S_types HO209.out BK173.out za7) (fun _ hk => hk.2) (.slice Ao68 y207.length co68)) (fun _ hk => trivial)⟩, ⟨zal⟩, ⟨zaz⟩, ⟨zg⟩, ⟨zj⟩⟩
          ·rw [if_neg c58] at H
           exact absurd H zbh
        ·rw [if_neg c34] at H
         have c34b0 : decide (x12_3 < t193) = false := decide_eq_false c34
         clear c34
         by_cases c70 : x174003_1.length < 4398046511104
         ·rw [if_pos c70] at H
          have LMc70 := qo c70
          clear c70
          obtain ⟨y210, hy210⟩ : ∃ y_ : List (S60), y_ = (x174003_1 ++ [(⟨t188, x193001_3⟩ : S60)]) := ⟨_, rfl⟩
          replace H : (spec_ReadMeta.l0 k3 a0 t182 (wrap64 (x9_1 + 1)) x169000_3 x169001_3 x169002_3 t169 t174 t178 y210) = some (r1, r2, r3, r4, r5) := by first | (rw [hy210]; with_reducible exact H) | (have H2_ := (Option.bind_some _ _).symm.trans H; rw [hy210]; with_reducible exact H2_) | (have H2_ := (Option.bind_some _ _).symm.trans H; with_reducible exact H2_) | with_reducible exact H | (rw [hy210]; exact H) | exact H
          have Ny210 := qo hy210
          clear hy210
          have H' := qo H
          clear H
          have hnb71 := NB173_165.out
          have hnc71 := NB165_173.out
          have hnb72 := NB173_192.out
          have hnc72 := NB192_173.out
          have hnb73 := NB173_168.out
          have hnc73 := NB168_173.out
          have hcz74_0 : wr.cell? ⟨gb173, 0, none⟩ = some (.int .i64 t169) := (qs BK173.out 0).trans rfl
          have hcz74_1 : wr.cell? ⟨gb173, 1, none⟩ = some (.int .i64 t174) := (qs BK173.out 1).trans rfl
          have hcz74_2 : wr.cell? ⟨gb173, 2, none⟩ = some (.int .i64 t178) := (qs BK173.out 2).trans rfl
          have hcz74_3 : wr.cell? ⟨gb173, 3, none⟩ = some (u174003) := (qs BK173.out 3).trans rfl
          have hfz74_0 := qu BK173.out 0
          have hfz74_1 := qu BK173.out 1
          have hfz74_2 := qu BK173.out 2
          have hfz74_3 := qu BK173.out 3
          have hnb75 := NB192_165.out
          have hnc75 := NB165_192.out
          have hnb76 := NB192_168.out
          have hnc76 := NB168_192.out
          have hcz77_0 : wr.cell? ⟨gb192, 0, none⟩ = some (.int .i64 t188) := (qs BK192.out 0).trans rfl
          have hcz77_1 : wr.cell? ⟨gb192, 1, none⟩ = some (u193001) := (qs BK192.out 1).trans rfl
          have hfz77_0 := qu BK192.out 0
          have hfz77_1 := qu BK192.out 1
          obtain ⟨Ao79, co79, eo79⟩ := Kd.R_slice HO_193001.out
          subst eo79
          go_wp2_with (first | ((with_reducible refine gate_builtin (b := .append) (xs := #[.tmp 81, .tmp 83]) rfl ?_); at_builtin; refine Kd.S_append k60 (w0 := w) w.heap.size rfl (.tmp 81) (.tmp 83) 22 60 (.agg #[(.int .i64 0), (.slice none 0 0)]) 32 rfl Try.underlying22 info60 rfl za7 zck u174003 x174003_1 (⟨t188, x193001_3⟩ : S60) [.int .i64 t188, .slice Ao79 x193001_3.length co79] (fun k_ => k_ ≠ gb192) (fun k_ => some k_ = (.slice Ao79 x193001_3.length co79 : Value).ownBlock) rfl rfl ?aP (fun k_ hk_ => ((Kd.R_mono (ok' := fun k_ => ((fun k_ => k_ ≠ gb192)) k_ ∧ some k_ ≠ (u174003 : Value).ownBlock) (Kd.R_types (Kd.R_apart' (HO_193001.out) (Kd.S_typed HO_174003.out) za7) BK192.out za7) (fun k_ hk => ⟨hk.2, hk.1.2⟩))).1 k_ hk_.symm) ?aF ?aO ?aB ?aS ?aL ?_; (case aP => exact k60_mkM _ _ _ (⟨t188, x193001_3⟩ : S60) (Kd.R_mono (Kd.R_tight rfl (Kd.R_mono (ok' := fun k_ => ((fun k_ => k_ ≠ gb192)) k_ ∧ some k_ ≠ (u174003 : Value).ownBlock) (Kd.R_types (Kd.R_apart' (HO_193001.out) (Kd.S_typed HO_174003.out) za7) BK192.out za7) (fun k_ hk => ⟨hk.2, hk.1.2⟩))) (fun _ h_ => h_))); (case aB => exact zj); (case aF => exact (fun k_ hk => Kd.freshB (g := gb192) (o := .cells #[.int .i64 t188, .slice Ao79 x193001_3.length co79] 60 (0, 0)) zaw k_ hk)); (case aO => exact zb3); (case aS => exact (qp zj)); (case aL => have := LMc70.out; omega); intro v211 w78 ho hb hg hat; rw [← Ny210.out] at ho; have n0_ := qo (blk_grown (g := gb165) (o := .cells #[.int .i64 0, .int .i64 0, .int .i64 0, .slice none 0 0] 24 (0, 0)) zq hg (Kd.S_ne HO_174003.out BK165.out za7)); have n1_ := qo (blk_grown (g := gb173) (o := .cells #[.int .i64 t169, .int .i64 t174, .int .i64 t178, u174003] 24 (0, 0)) z4 hg (Kd.S_ne HO_174003.out BK173.out za7)); have n2_ := qo (blk_grown (g := gb192) (o := .cells #[.int .i64 t188, .slice Ao79 x193001_3.length co79] 60 (0, 0)) zaw hg (Kd.S_away HO_174003.out (fun _ hk => hk.2))); have n3_ := qo (IsS56.grown zg hg (IsS56.own_neS HI168.out HO_174003.out za7)); have n4_ := qo (hb); have n5_ := qo (ho); clear BK165; clear BK173; clear BK192; clear HI168; clear HB; clear HO_174003; clear HO_193001; have BK165 := n0_; have BK173 := n1_; have BK192 := n2_; have HI168 := n3_; have HB := n4_; have HO212 := n5_; clear n0_ n1_ n2_ n3_ n4_ n5_; clear ho hb hg hat; obtain ⟨Ao80, co80, eo80⟩ := Kd.S_slice HO212.out; subst eo80; have hcz81_0 : w78.cell? ⟨gb173, 0, none⟩ = some (.int .i64 t169) := (qs BK173.out 0).trans rfl; have hcz81_1 : w78.cell? ⟨gb173, 1, none⟩ = some (.int .i64 t174) := (qs BK173.out 1).trans rfl; have hcz81_2 : w78.cell? ⟨gb173, 2, none⟩ = some (.int .i64 t178) := (qs BK173.out 2).trans rfl; have hcz81_3 : w78.cell? ⟨gb173, 3, none⟩ = some (u174003) := (qs BK173.out 3).trans rfl; have hfz81_0 := qu BK173.out 0; have hfz81_1 := qu BK173.out 1; have hfz81_2 := qu BK173.out 2; have hfz81_3 := qu BK173.out 3))
          go_roundg k3
          case measure => have := HK1.out; have := HJ19.out; have := HK3.out; omega
          case rel => exact ⟨(wrap64 (x9_1 + 1)), (x169000_3), (x169001_3), (x169002_3), (y210), (.slice Ao80 y210.length co80), zc, H', ⟨zcj⟩, ⟨by (with_reducible repeat (first | apply Kd.S_alloc | apply Kd.S_drewN | apply Kd.S_drew)); exact Kd.S_mono (Kd.S_far (p := ⟨gb173, 3, none⟩) (Kd.S_types HO212.out BK173.out za7) (fun _ hk => hk.2) (.slice Ao80 y210.length co80)) (fun _ hk => trivial)⟩, ⟨zal⟩, ⟨zaz⟩, ⟨zg⟩, ⟨zj⟩⟩
         ·rw [if_neg c70] at H
          exact absurd H zbh
     ·replace c24 := Bool.eq_false_iff.mpr c24
      subst c24
      have H1 : ((spec_MetaText.f kj19 t169 t174 t178 x174003_1).bind fun bt186 => (if x169002_1 = true then (some (0, 0, 0, ([] : List (S60)), false)) else (if bt186.2 = true then (if bt186.1.toList = a0.toList then (some (t169, t174, t178, x174003_1, true)) else (some (0, 0, 0, ([] : List (S60)), false))) else (some (0, 0, 0, ([] : List (S60)), false))))) = some (r1, r2, r3, r4, r5) := by rw [if_neg (show ¬ (false = true) by decide)] at H; exact H
      clear H
      have H := H1
      clear H1
      replace H := Option.bind_eq_some_iff.mp H
      obtain ⟨⟨t186, t187⟩, A820, H⟩ := H
      replace H : (if x169002_1 = true then (some (0, 0, 0, ([] : List (S60)), false)) else (if t187 = true then (if t186.toList = a0.toList then (some (t169, t174, t178, x174003_1, true)) else (some (0, 0, 0, ([] : List (S60)), false))) else (some (0, 0, 0, ([] : List (S60)), false)))) = some (r1, r2, r3, r4, r5) := H
      have A82 := qo A820
      clear A820
      by_cases c83 : x169002_1 = true
      ·subst c83
       have H1 : (some (0, 0, 0, ([] : List (S60)), false)) = some (r1, r2, r3, r4, r5) := by rw [if_pos rfl] at H; exact H
       clear H
       have H := H1
       clear H1
       simp only [Option.some.injEq, Prod.mk.injEq] at H
       obtain ⟨rfl, rfl, rfl, rfl, rfl⟩ := H
       have hnb84 := NB173_165.out
       have hnc84 := NB165_173.out
       have hnb85 := NB173_168.out
       have hnc85 := NB168_173.out
       have hcz86_0 : wc.cell? ⟨gb173, 0, none⟩ = some (.int .i64 t169) := (qs BK173.out 0).trans rfl
       have hcz86_1 : wc.cell? ⟨gb173, 1, none⟩ = some (.int .i64 t174) := (qs BK173.out 1).trans rfl
       have hcz86_2 : wc.cell? ⟨gb173, 2, none⟩ = some (.int .i64 t178) := (qs BK173.out 2).trans rfl
       have hcz86_3 : wc.cell? ⟨gb173, 3, none⟩ = some (u174003) := (qs BK173.out 3).trans rfl
       have hfz86_0 := qu BK173.out 0
       have hfz86_1 := qu BK173.out 1
       have hfz86_2 := qu BK173.out 2
       have hfz86_3 := qu BK173.out 3
       obtain ⟨Ao87, co87, eo87⟩ := Kd.S_slice HO_174003.out
       subst eo87
       go_wp2_with (first | ((with_reducible refine gate_callee (f := 20) rfl ?_); refine goesL_ (some 88) rfl rfl Try.func20 ze rfl #[.agg #[.int .i64 t169, .int .i64 t174, .int .i64 t178, .slice Ao87 x174003_1.length co87]] rfl zcm ?_; (with_reducible refine (spec_MetaText.calls kj19 t169 t174 t178 _ _ x174003_1 t186 t187 _ ?side1 ?side2 A82.out).mono ?_); (case side1 => repeat (first | exact (Kd.S_reads' HO_174003.out).2.2 | (with_reducible refine Kd.C_alloc ?_ _) | (with_reducible refine Kd.C_drewN ?_ _) | (with_reducible refine Kd.C_drew ?_))); (case side2 => exact (Kd.S_reads' HO_174003.out).2.1); rintro e w88 ⟨rfl, hb⟩; refine ⟨_, rfl, ?_⟩; have n0_ := qo (Kd.S_below zas hb); have n1_ := qo (qr (g := gb165) (o := .cells #[.int .i64 0, .int .i64 0, .int .i64 0, .slice none 0 0] 24 (0, 0)) zq hb); have n2_ := qo (qr (g := gb173) (o := .cells #[.int .i64 t169, .int .i64 t174, .int .i64 t178, .slice Ao87 x174003_1.length co87] 24 (0, 0)) z4 hb); have n3_ := qo (IsS56.below zn hb); have n4_ := qo (qq zi hb); clear HO_174003; clear BK165; clear BK173; clear HI168; clear HB; have HO_174003 := n0_; have BK165 := n1_; have BK173 := n2_; have HI168 := n3_; have HB := n4_; clear n0_ n1_ n2_ n3_ n4_; (try clear hb); (try clear hb2); (try clear hk); (try clear hi); obtain ⟨HGz89, hgz89⟩ := HI168.out; have hcz89_0 := cellS56_0 HGz89; have hcz89_1 := cellS56_1 HGz89; have hcz89_2 := cellS56_2 HGz89; have hfz89_0 := qu HGz89 0; have hfz89_1 := qu HGz89 1; have hfz89_2 := qu HGz89 2; clear HGz89 hgz89; have hnb90 := NB165_168.out; have hnc90 := NB168_165.out; have hcz91_0 : w88.cell? ⟨gb165, 0, none⟩ = some (.int .i64 0) := (qs BK165.out 0).trans rfl; have hcz91_1 : w88.cell? ⟨gb165, 1, none⟩ = some (.int .i64 0) := (qs BK165.out 1).trans rfl; have hcz91_2 : w88.cell? ⟨gb165, 2, none⟩ = some (.int .i64 0) := (qs BK165.out 2).trans rfl; have hcz91_3 : w88.cell? ⟨gb165, 3, none⟩ = some (.slice none 0 0) := (qs BK165.out 3).trans rfl; have hfz91_0 := qu BK165.out 0; have hfz91_1 := qu BK165.out 1; have hfz91_2 := qu BK165.out 2; have hfz91_3 := qu BK165.out 3))
       refine bodyPost_ret (results_ct rfl _ _ gb165 24 #[.int .i64 0, .int .i64 0, .int .i64 0, .slice none 0 0] (0, 0) _ rfl zu Try.underlying24 rfl ze) rfl ?_
       exact ⟨_, zd, zam, zi⟩
      ·replace c83 := Bool.eq_false_iff.mpr c83
       subst c83
       have H1 : (if t187 = true then (if t186.toList = a0.toList then (some (t169, t174, t178, x174003_1, true)) else (some (0, 0, 0, ([] : List (S60)), false))) else (some (0, 0, 0, ([] : List (S60)), false))) = some (r1, r2, r3, r4, r5) := by rw [if_neg (show ¬ (false = true) by decide)] at H; exact H
       clear H
       have H := H1
       clear H1
       by_cases c92 : t187 = true
       ·subst c92
        have H1 : (if t186.toList = a0.toList then (some (t169, t174, t178, x174003_1, true)) else (some (0, 0, 0, ([] : List (S60)), false))) = some (r1, r2, r3, r4, r5) := by rw [if_pos rfl] at H; exact H
        clear H
        have H := H1
        clear H1
        by_cases c93 : t186.toList = a0.toList
        ·rw [if_pos c93] at H
         have c93b0 : (t186.toList == a0.toList) = true := beq_iff_eq.mpr c93
         have c93b1 : (t186.toList != a0.toList) = false := bne_eq_false_iff_eq.mpr c93
         clear c93
         simp only [Option.some.injEq, Prod.mk.injEq] at H
         obtain ⟨rfl, rfl, rfl, rfl, rfl⟩ := H
         have hnb94 := NB173_165.out
         have hnc94 := NB165_173.out
         have hnb95 := NB173_168.out
         have hnc95 := NB168_173.out
         have hcz96_0 : wc.cell? ⟨gb173, 0, none⟩ = some (.int .i64 t169) := (qs BK173.out 0).trans rfl
         have hcz96_1 : wc.cell? ⟨gb173, 1, none⟩ = some (.int .i64 t174) := (qs BK173.out 1).trans rfl
         have hcz96_2 : wc.cell? ⟨gb173, 2, none⟩ = some (.int .i64 t178) := (qs BK173.out 2).trans rfl
         have hcz96_3 : wc.cell? ⟨gb173, 3, none⟩ = some (u174003) := (qs BK173.out 3).trans rfl
         have hfz96_0 := qu BK173.out 0
         have hfz96_1 := qu BK173.out 1
         have hfz96_2 := qu BK173.out 2
         have hfz96_3 := qu BK173.out 3
         obtain ⟨Ao97, co97, eo97⟩ := Kd.S_slice HO_174003.out
         subst eo97
         go_wp2_with (first | ((with_reducible refine gate_callee (f := 20) rfl ?_); refine goesL_ (some 88) rfl rfl Try.func20 ze rfl #[.agg #[.int .i64 t169, .int .i64 t174, .int .i64 t178, .slice Ao97 x174003_1.length co97]] rfl zcm ?_; (with_reducible refine (spec_MetaText.calls kj19 t169 t174 t178 _ _ x174003_1 t186 true _ ?side1 ?side2 A82.out).mono ?_); (case side1 => repeat (first | exact (Kd.S_reads' HO_174003.out).2.2 | (with_reducible refine Kd.C_alloc ?_ _) | (with_reducible refine Kd.C_drewN ?_ _) | (with_reducible refine Kd.C_drew ?_))); (case side2 => exact (Kd.S_reads' HO_174003.out).2.1); rintro e w98 ⟨rfl, hb⟩; refine ⟨_, rfl, ?_⟩; have n0_ := qo (Kd.S_below zas hb); have n1_ := qo (qr (g := gb165) (o := .cells #[.int .i64 0, .int .i64 0, .int .i64 0, .slice none 0 0] 24 (0, 0)) zq hb); have n2_ := qo (qr (g := gb173) (o := .cells #[.int .i64 t169, .int .i64 t174, .int .i64 t178, .slice Ao97 x174003_1.length co97] 24 (0, 0)) z4 hb); have n3_ := qo (IsS56.below zn hb); have n4_ := qo (qq zi hb); clear HO_174003; clear BK165; clear BK173; clear HI168; clear HB; have HO_174003 := n0_; have BK165 := n1_; have BK173 := n2_; have HI168 := n3_; have HB := n4_; clear n0_ n1_ n2_ n3_ n4_; (try clear hb); (try clear hb2); (try clear hk); (try clear hi); obtain ⟨HGz99, hgz99⟩ := HI168.out; have hcz99_0 := cellS56_0 HGz99; have hcz99_1 := cellS56_1 HGz99; have hcz99_2 := cellS56_2 HGz99; have hfz99_0 := qu HGz99 0; have hfz99_1 := qu HGz99 1; have hfz99_2 := qu HGz99 2; clear HGz99 hgz99; have hcz100_0 : w98.cell? ⟨gb173, 0, none⟩ = some (.int .i64 t169) := (qs BK173.out 0).trans rfl; have hcz100_1 : w98.cell? ⟨gb173, 1, none⟩ = some (.int .i64 t174) := (qs BK173.out 1).trans rfl; have hcz100_2 : w98.cell? ⟨gb173, 2, none⟩ = some (.int .i64 t178) := (qs BK173.out 2).trans rfl; have hcz100_3 : w98.cell? ⟨gb173, 3, none⟩ = some (.slice Ao97 x174003_1.length co97) := (qs BK173.out 3).trans rfl; have hfz100_0 := qu BK173.out 0; have hfz100_1 := qu BK173.out 1; have hfz100_2 := qu BK173.out 2; have hfz100_3 := qu BK173.out 3; have hnb101 := NB165_168.out; have hnc101 := NB168_165.out; have hcz102_0 : w98.cell? ⟨gb165, 0, none⟩ = some (.int .i64 0) := (qs BK165.out 0).trans rfl; have hcz102_1 : w98.cell? ⟨gb165, 1, none⟩ = some (.int .i64 0) := (qs BK165.out 1).trans rfl; have hcz102_2 : w98.cell? ⟨gb165, 2, none⟩ = some (.int .i64 0) := (qs BK165.out 2).trans rfl; have hcz102_3 : w98.cell? ⟨gb165, 3, none⟩ = some (.slice none 0 0) := (qs BK165.out 3).trans rfl; have hfz102_0 := qu BK165.out 0; have hfz102_1 := qu BK165.out 1; have hfz102_2 := qu BK165.out 2; have hfz102_3 := qu BK165.out 3))
         refine bodyPost_ret (results_ct rfl _ _ gb165 24 #[.int .i64 t169, .int .i64 t174, .int .i64 t178, .slice Ao97 x174003_1.length co97] (0, 0) _ rfl (by (with_reducible repeat (first | refine qi ?_ _ | refine qj ?_ | refine qk ?_ _)); refine blk_put (cs := #[.int .i64 t169, .int .i64 t174, .int .i64 t178, .slice none 0 0]) ?_ 3 _ rfl; (with_reducible repeat (first | refine qi ?_ _ | refine qj ?_ | refine qk ?_ _)); refine blk_put (cs := #[.int .i64 t169, .int .i64 t174, .int .i64 0, .slice none 0 0]) ?_ 2 _ rfl; (with_reducible repeat (first | refine qi ?_ _ | refine qj ?_ | refine qk ?_ _)); refine blk_put (cs := #[.int .i64 t169, .int .i64 0, .int .i64 0, .slice none 0 0]) ?_ 1 _ rfl; (with_reducible repeat (first | refine qi ?_ _ | refine qj ?_ | refine qk ?_ _)); refine blk_put (cs := #[.int .i64 0, .int .i64 0, .int .i64 0, .slice none 0 0]) ?_ 0 _ rfl; (with_reducible repeat (first | refine qi ?_ _ | refine qj ?_ | refine qk ?_ _)); exact BK165.out) Try.underlying24 rfl ze) rfl ?_
         exact ⟨_, zd, by (with_reducible repeat (first | apply Kd.S_alloc | apply Kd.S_drewN | apply Kd.S_drew)); exact Kd.S_mono (Kd.S_far (p := ⟨gb165, 3, none⟩) (Kd.S_far (p := ⟨gb165, 2, none⟩) (Kd.S_far (p := ⟨gb165, 1, none⟩) (Kd.S_far (p := ⟨gb165, 0, none⟩) (Kd.S_types HO_174003.out BK165.out za7) (fun _ hk => hk.2) (.int .i64 t169)) (fun _ hk => hk.2) (.int .i64 t174)) (fun _ hk => hk.2) (.int .i64 t178)) (fun _ hk => hk.2) (.slice Ao97 x174003_1.length co97)) (fun _ hk => trivial), zi⟩
        ·rw [if_neg c93] at H
         have c93b0 : (t186.toList == a0.toList) = false := beq_eq_false_iff_ne.mpr c93
         have c93b1 : (t186.toList != a0.toList) = true := bne_iff_ne.mpr c93
         simp only [Option.some.injEq, Prod.mk.injEq] at H
         obtain ⟨rfl, rfl, rfl, rfl, rfl⟩ := H
         have hnb103 := NB173_165.out
         have hnc103 := NB165_173.out
         have hnb104 := NB173_168.out
         have hnc104 := NB168_173.out
         have hcz105_0 : wc.cell? ⟨gb173, 0, none⟩ = some (.int .i64 t169) := (qs BK173.out 0).trans rfl
         have hcz105_1 : wc.cell? ⟨gb173, 1, none⟩ = some (.int .i64 t174) := (qs BK173.out 1).trans rfl
         have hcz105_2 : wc.cell? ⟨gb173, 2, none⟩ = some (.int .i64 t178) := (qs BK173.out 2).trans rfl
         have hcz105_3 : wc.cell? ⟨gb173, 3, none⟩ = some (u174003) := (qs BK173.out 3).trans rfl
         have hfz105_0 := qu BK173.out 0
         have hfz105_1 := qu BK173.out 1
         have hfz105_2 := qu BK173.out 2
         have hfz105_3 := qu BK173.out 3
         obtain ⟨Ao106, co106, eo106⟩ := Kd.S_slice HO_174003.out
         subst eo106
         go_wp2_with (first | ((with_reducible refine gate_callee (f := 20) rfl ?_); refine goesL_ (some 88) rfl rfl Try.func20 ze rfl #[.agg #[.int .i64 t169, .int .i64 t174, .int .i64 t178, .slice Ao106 x174003_1.length co106]] rfl zcm ?_; (with_reducible refine (spec_MetaText.calls kj19 t169 t174 t178 _ _ x174003_1 t186 true _ ?side1 ?side2 A82.out).mono ?_); (case side1 => repeat (first | exact (Kd.S_reads' HO_174003.out).2.2 | (with_reducible refine Kd.C_alloc ?_ _) | (with_reducible refine Kd.C_drewN ?_ _) | (with_reducible refine Kd.C_drew ?_))); (case side2 => exact (Kd.S_reads' HO_174003.out).2.1); rintro e w107 ⟨rfl, hb⟩; refine ⟨_, rfl, ?_⟩; have n0_ := qo (Kd.S_below zas hb); have n1_ := qo (qr (g := gb165) (o := .cells #[.int .i64 0, .int .i64 0, .int .i64 0, .slice none 0 0] 24 (0, 0)) zq hb); have n2_ := qo (qr (g := gb173) (o := .cells #[.int .i64 t169, .int .i64 t174, .int .i64 t178, .slice Ao106 x174003_1.length co106] 24 (0, 0)) z4 hb); have n3_ := qo (IsS56.below zn hb); have n4_ := qo (qq zi hb); clear HO_174003; clear BK165; clear BK173; clear HI168; clear HB; have HO_174003 := n0_; have BK165 := n1_; have BK173 := n2_; have HI168 := n3_; have HB := n4_; clear n0_ n1_ n2_ n3_ n4_; (try clear hb); (try clear hb2); (try clear hk); (try clear hi); obtain ⟨HGz108, hgz108⟩ := HI168.out; have hcz108_0 := cellS56_0 HGz108; have hcz108_1 := cellS56_1 HGz108; have hcz108_2 := cellS56_2 HGz108; have hfz108_0 := qu HGz108 0; have hfz108_1 := qu HGz108 1; have hfz108_2 := qu HGz108 2; clear HGz108 hgz108; have hnb109 := NB165_168.out; have hnc109 := NB168_165.out; have hcz110_0 : w107.cell? ⟨gb165, 0, none⟩ = some (.int .i64 0) := (qs BK165.out 0).trans rfl; have hcz110_1 : w107.cell? ⟨gb165, 1, none⟩ = some (.int .i64 0) := (qs BK165.out 1).trans rfl; have hcz110_2 : w107.cell? ⟨gb165, 2, none⟩ = some (.int .i64 0) := (qs BK165.out 2).trans rfl; have hcz110_3 : w107.cell? ⟨gb165, 3, none⟩ = some (.slice none 0 0) := (qs BK165.out 3).trans rfl; have hfz110_0 := qu BK165.out 0; have hfz110_1 := qu BK165.out 1; have hfz110_2 := qu BK165.out 2; have hfz110_3 := qu BK165.out 3))
         refine bodyPost_ret (results_ct rfl _ _ gb165 24 #[.int .i64 0, .int .i64 0, .int .i64 0, .slice none 0 0] (0, 0) _ rfl zu Try.underlying24 rfl ze) rfl ?_
         exact ⟨_, zd, zam, zi⟩
       ·replace c92 := Bool.eq_false_iff.mpr c92
        subst c92
        have H1 : (some (0, 0, 0, ([] : List (S60)), false)) = some (r1, r2, r3, r4, r5) := by rw [if_neg (show ¬ (false = true) by decide)] at H; exact H
        clear H
        have H := H1
        clear H1
        simp only [Option.some.injEq, Prod.mk.injEq] at H
        obtain ⟨rfl, rfl, rfl, rfl, rfl⟩ := H
        have hnb111 := NB173_165.out
        have hnc111 := NB165_173.out
        have hnb112 := NB173_168.out
        have hnc112 := NB168_173.out
        have hcz113_0 : wc.cell? ⟨gb173, 0, none⟩ = some (.int .i64 t169) := (qs BK173.out 0).trans rfl
        have hcz113_1 : wc.cell? ⟨gb173, 1, none⟩ = some (.int .i64 t174) := (qs BK173.out 1).trans rfl
        have hcz113_2 : wc.cell? ⟨gb173, 2, none⟩ = some (.int .i64 t178) := (qs BK173.out 2).trans rfl
        have hcz113_3 : wc.cell? ⟨gb173, 3, none⟩ = some (u174003) := (qs BK173.out 3).trans rfl
        have hfz113_0 := qu BK173.out 0
        have hfz113_1 := qu BK173.out 1
        have hfz113_2 := qu BK173.out 2
        have hfz113_3 := qu BK173.out 3
        obtain ⟨Ao114, co114, eo114⟩ := Kd.S_slice HO_174003.out
        subst eo114
        go_wp2_with (first | ((with_reducible refine gate_callee (f := 20) rfl ?_); refine goesL_ (some 88) rfl rfl Try.func20 ze rfl #[.agg #[.int .i64 t169, .int .i64 t174, .int .i64 t178, .slice Ao114 x174003_1.length co114]] rfl zcm ?_; (with_reducible refine (spec_MetaText.calls kj19 t169 t174 t178 _ _ x174003_1 t186 false _ ?side1 ?side2 A82.out).mono ?_); (case side1 => repeat (first | exact (Kd.S_reads' HO_174003.out).2.2 | (with_reducible refine Kd.C_alloc ?_ _) | (with_reducible refine Kd.C_drewN ?_ _) | (with_reducible refine Kd.C_drew ?_))); (case side2 => exact (Kd.S_reads' HO_174003.out).2.1); rintro e w115 ⟨rfl, hb⟩; refine ⟨_, rfl, ?_⟩; have n0_ := qo (Kd.S_below zas hb); have n1_ := qo (qr (g := gb165) (o := .cells #[.int .i64 0, .int .i64 0, .int .i64 0, .slice none 0 0] 24 (0, 0)) zq hb); have n2_ := qo (qr (g := gb173) (o := .cells #[.int .i64 t169, .int .i64 t174, .int .i64 t178, .slice Ao114 x174003_1.length co114] 24 (0, 0)) z4 hb); have n3_ := qo (IsS56.below zn hb); have n4_ := qo (qq zi hb); clear HO_174003; clear BK165; clear BK173; clear HI168; clear HB; have HO_174003 := n0_; have BK165 := n1_; have BK173 := n2_; have HI168 := n3_; have HB := n4_; clear n0_ n1_ n2_ n3_ n4_; (try clear hb); (try clear hb2); (try clear hk); (try clear hi); obtain ⟨HGz116, hgz116⟩ := HI168.out; have hcz116_0 := cellS56_0 HGz116; have hcz116_1 := cellS56_1 HGz116; have hcz116_2 := cellS56_2 HGz116; have hfz116_0 := qu HGz116 0; have hfz116_1 := qu HGz116 1; have hfz116_2 := qu HGz116 2; clear HGz116 hgz116; have hnb117 := NB165_168.out; have hnc117 := NB168_165.out; have hcz118_0 : w115.cell? ⟨gb165, 0, none⟩ = some (.int .i64 0) := (qs BK165.out 0).trans rfl; have hcz118_1 : w115.cell? ⟨gb165, 1, none⟩ = some (.int .i64 0) := (qs BK165.out 1).trans rfl; have hcz118_2 : w115.cell? ⟨gb165, 2, none⟩ = some (.int .i64 0) := (qs BK165.out 2).trans rfl; have hcz118_3 : w115.cell? ⟨gb165, 3, none⟩ = some (.slice none 0 0) := (qs BK165.out 3).trans rfl; have hfz118_0 := qu BK165.out 0; have hfz118_1 := qu BK165.out 1; have hfz118_2 := qu BK165.out 2; have hfz118_3 := qu BK165.out 3))
        refine bodyPost_ret (results_ct rfl _ _ gb165 24 #[.int .i64 0, .int .i64 0, .int .i64 0, .slice none 0 0] (0, 0) _ rfl zu Try.underlying24 rfl ze) rfl ?_
        exact ⟨_, zd, zam, zi⟩

end Go.Proofs.Yteokilffbcbllaa.VFnExactBestMeta
