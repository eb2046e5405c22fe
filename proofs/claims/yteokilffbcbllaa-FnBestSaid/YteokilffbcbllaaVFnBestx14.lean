-- Written by a program of this repo (wip/myprint.py), over the kit's print; functions that the print does not take stand in it by hand-proved contracts.
import Derived.Test.YteokilffbcbllaaVFnBestx0
import Derived.Test.YteokilffbcbllaaVFnBestx9
import Derived.Test.YteokilffbcbllaaVFnBestx10
import Derived.Test.YteokilffbcbllaaVFnBestx11
import Derived.Test.YteokilffbcbllaaVFnBestx13
namespace Go.Proofs.Yteokilffbcbllaa.VFnBest
open Go.RowKit Go.Proofs.YteokilffbcbllaaW.PrintWords Go.Proofs.YteokilffbcbllaaW.PrintLast Go.Proofs.YteokilffbcbllaaW.PrintMore
attribute [local go_sem] max2_int min2_int max_two min_two max_three min_three max_four min_four   -- for this text's walks alone
attribute [local go_sem high] str_leq str_gtr str_geq str_lss
set_option linter.unusedVariables false
set_option linter.unusedSimpArgs false

/-! ### impl_ReadMeta: function 7 -/
mutual
def impl_ReadMeta.l0 : Nat → ByteArray → ByteArray → Int → Int → ByteArray → Int → Bool → Int → Int → Int → List (S60) → Option (Int × Int × Int × (List (S60)) × Bool)
  | 0, _, _, _, _, _, _, _, _, _, _, _ => none
  | k + 1, x0, x4, x31, x32, x254000, x254001, x254002, x259000, x259001, x259002, x259003 => if x32 < x31 then ((impl_reader_num.f k x254000 x254001 x254002 1000000000).bind fun bt273 => ((impl_reader_num.f k bt273.2.1 bt273.2.2.1 bt273.2.2.2 40).bind fun bt278 => (impl_ReadMeta.l1 k x0 x4 x31 x32 bt278.1 0 bt278.2.1 bt278.2.2.1 bt278.2.2.2 x259000 x259001 x259002 x259003 bt273.1 ([] : List Int)))) else ((impl_MetaText.f k x259000 x259001 x259002 x259003).bind fun bt271 => (if x254002 = true then (some (0, 0, 0, ([] : List (S60)), false)) else (if x254001 = (x4.size : Int) then (if bt271.2 = true then (if bt271.1.toList = x0.toList then (some (x259000, x259001, x259002, x259003, true)) else (some (0, 0, 0, ([] : List (S60)), false))) else (some (0, 0, 0, ([] : List (S60)), false))) else (some (0, 0, 0, ([] : List (S60)), false)))))
def impl_ReadMeta.l1 : Nat → ByteArray → ByteArray → Int → Int → Int → Int → ByteArray → Int → Bool → Int → Int → Int → List (S60) → Int → List Int → Option (Int × Int × Int × (List (S60)) × Bool)
  | 0, _, _, _, _, _, _, _, _, _, _, _, _, _, _, _ => none
  | k + 1, x0, x4, x31, x32, x38, x39, x254000, x254001, x254002, x259000, x259001, x259002, x259003, x278000, x278001 => if x39 < x38 then ((impl_reader_num.f k x254000 x254001 x254002 1000000000).bind fun bt282 => (if x278001.length < 17592186044416 then (impl_ReadMeta.l1 k x0 x4 x31 x32 x38 (wrap64 (x39 + 1)) bt282.2.1 bt282.2.2.1 bt282.2.2.2 x259000 x259001 x259002 x259003 x278000 (x278001 ++ [bt282.1])) else (none))) else (if x259003.length < 4398046511104 then (impl_ReadMeta.l0 k x0 x4 x31 (wrap64 (x32 + 1)) x254000 x254001 x254002 x259000 x259001 x259002 (x259003 ++ [(⟨x278000, x278001⟩ : S60)])) else (none))
end
def impl_ReadMeta.f (k : Nat) (a0 : ByteArray) : Option (Int × Int × Int × (List (S60)) × Bool) := (impl_Unsealed.f k a0).bind fun bt251 => ((impl_reader_num.f k bt251.1 0 (!bt251.2) 1000000000).bind fun bt254 => ((impl_reader_num.f k bt254.2.1 bt254.2.2.1 bt254.2.2.2 1000000000).bind fun bt259 => ((impl_reader_num.f k bt259.2.1 bt259.2.2.1 bt259.2.2.2 1000000000).bind fun bt263 => ((impl_reader_num.f k bt263.2.1 bt263.2.2.1 bt263.2.2.2 20).bind fun bt267 => (impl_ReadMeta.l0 k a0 bt251.1 bt267.1 0 bt267.2.1 bt267.2.2.1 bt267.2.2.2 bt254.1 bt259.1 bt263.1 ([] : List (S60)))))))
theorem impl_ReadMeta.mono_l : ∀ k, (∀ y0 y1 y2 y3 y4 y5 y6 y7 y8 y9 y10, LeO (impl_ReadMeta.l0 k y0 y1 y2 y3 y4 y5 y6 y7 y8 y9 y10) (impl_ReadMeta.l0 (k + 1) y0 y1 y2 y3 y4 y5 y6 y7 y8 y9 y10)) ∧ (∀ y0 y1 y2 y3 y4 y5 y6 y7 y8 y9 y10 y11 y12 y13 y14, LeO (impl_ReadMeta.l1 k y0 y1 y2 y3 y4 y5 y6 y7 y8 y9 y10 y11 y12 y13 y14) (impl_ReadMeta.l1 (k + 1) y0 y1 y2 y3 y4 y5 y6 y7 y8 y9 y10 y11 y12 y13 y14))
  | 0 => ⟨fun _ _ _ _ _ _ _ _ _ _ _ r h => by simp [impl_ReadMeta.l0] at h, fun _ _ _ _ _ _ _ _ _ _ _ _ _ _ _ r h => by simp [impl_ReadMeta.l1] at h⟩
  | k + 1 => by
    obtain ⟨ih0, ih1⟩ := impl_ReadMeta.mono_l k
    refine ⟨?_, ?_⟩
    · intro y0 y1 y2 y3 y4 y5 y6 y7 y8 y9 y10
      unfold impl_ReadMeta.l0
      exact qv
    · intro y0 y1 y2 y3 y4 y5 y6 y7 y8 y9 y10 y11 y12 y13 y14
      unfold impl_ReadMeta.l1
      exact qv
theorem impl_ReadMeta.mono : ∀ a0 k, LeO (impl_ReadMeta.f k a0) (impl_ReadMeta.f (k + 1) a0) := by
  intro a0 k
  obtain ⟨ih0, ih1⟩ := impl_ReadMeta.mono_l k
  unfold impl_ReadMeta.f
  exact qv
def impl_ReadMeta.T11 : Bool × List (List Nat × List Nat) := (true, [([], []), ([0], [0]), ([], []), ([2], [2]), ([3], [3]), ([1, 4, 3], [1, 4]), ([0, 1, 2, 3, 4, 5], []), ([6, 5, 5, 0, 1, 2, 3, 4, 5], [5, 6])])
def impl_ReadMeta.B11 : List Nat := [0, 1, 0, 4, 12, 31, 63, 127]
theorem impl_ReadMeta.tab11 : rtab .any (opsOf Try.f7 11) = impl_ReadMeta.T11 := by kernel_rfl
theorem impl_ReadMeta.bits11 : waitsOk impl_ReadMeta.T11.2 impl_ReadMeta.B11 = true := by kernel_rfl
set_option maxHeartbeats 8000000 in
set_option maxRecDepth 100000 in
theorem impl_ReadMeta.calls (k : Nat) (a0 : ByteArray) (r1 : Int) (r2 : Int) (r3 : Int) (r4 : List (S60)) (r5 : Bool) (w : World) (h : impl_ReadMeta.f k a0 = some (r1, r2, r3, r4, r5)) :
    Calls Try.prog 7 #[.string a0] w fun e w' => ∃ v3_ : Value, e = .returned (.tuple #[.agg #[.int .i64 r1, .int .i64 r2, .int .i64 r3, v3_], .bool r5]) ∧ Kd.S k60 60 w' w.heap.size (fun _ => True) v3_ r4 ∧ Below w.heap.size w w' := by
  have hu24 := Try.underlying24
  have hu63 := Try.underlying63
  have hu60 := Try.underlying60
  have HB := Aside0.mk (Below.refl w.heap.size w)
  unfold impl_ReadMeta.f at h
  have H := h
  clear h
  replace H := qi H
  obtain ⟨⟨t251, t252⟩, A2, H⟩ := H
  dsimp only at H
  replace H := qi H
  obtain ⟨⟨t254, t255, t256, t257⟩, A3, H⟩ := H
  dsimp only at H
  replace H := qi H
  obtain ⟨⟨t259, t260, t261, t262⟩, A4, H⟩ := H
  dsimp only at H
  replace H := qi H
  obtain ⟨⟨t263, t264, t265, t266⟩, A5, H⟩ := H
  dsimp only at H
  replace H := qi H
  obtain ⟨⟨t267, t268, t269, t270⟩, A6, H⟩ := H
  dsimp only at H
  have H' := Aside0.mk H
  clear H
  go_enter Try.func7, Try.ntmps7
  go_wp2_with (first | ((with_reducible refine gate_dst (N := 2) rfl ?_); (try (refine gate_guard zdy ?_; dsimp only)); refine qB 2 #[.int .i64 0, .int .i64 0, .int .i64 0, .slice none 0 0] 24 ?_; intro gb250 hg w7 hbox hb; have BK250 := Aside0.mk (hbox); have GW250 := Aside0.mk ((zef : w.heap.size ≤ gb250)); have GE250 := GW250; replace HB := Aside0.mk (below_step za hb); clear hb hbox hg) | ((with_reducible refine gate_callee (f := 27) rfl ?_); refine qG (some 13) Try.func27 #[.string a0] ?_; (with_reducible refine (impl_Unsealed.calls k a0 t251 t252 _ A2.out).mono ?_); rintro e w8 ⟨rfl, hb⟩; refine ⟨_, rfl, ?_⟩; replace BK250 := Aside0.mk (bB BK250.out hb); replace HB := Aside0.mk (below_step zc8 hb); try clear hb) | ((with_reducible refine gate_dst (N := 20) rfl ?_); (try (refine gate_guard zdy ?_; dsimp only)); refine qB 20 #[.string t251, .int .i64 0, .bool (!t252)] 63 ?_; intro gb253 hg w9 hbox hb; have HI253 := Aside0.mk ((show IsS63 w w9 gb253 t251 0 (!t252) from ⟨hbox, (by rw [hg]; exact (below_size zc8) : w.heap.size ≤ gb253)⟩)); replace HB := Aside0.mk (below_step zc8 hb); have NB250_253 := Aside0.mk ((zeb : gb250 ≠ gb253)); have NB253_250 := Aside0.mk NB250_253.out.symm; replace BK250 := Aside0.mk (bB BK250.out hb); clear hb hbox hg) | ((with_reducible refine gate_callee (f := 28) rfl ?_); refine qG (some 22) Try.func28 #[.pointer (some ⟨gb253, 0, none⟩), .int .i64 1000000000] ?_; (with_reducible refine (impl_reader_num.calls k gb253 t251 0 (!t252) 1000000000 t254 t255 t256 t257 w _ ?side1 ?side2 A3.out).mono ?_); (case side1 => exact (by repeat (first | (with_reducible first | exact HI253.out | apply IsS63.alloc | apply IsS63.drewN | apply IsS63.drew | apply IsS63.set_0 | apply IsS63.set_1 | apply IsS63.set_2 | apply IsS63.far (hne := NB253_250.out)) | apply IsS63.far (hne := NB253_250.out) | exact HI253.out))); (case side2 => exact zcp); rintro e w10 ⟨rfl, hi, hb, hk⟩; refine ⟨_, rfl, ?_⟩; replace BK250 := Aside0.mk (KeepBut.blk hk (bP BK250.out) NB250_253.out zdw); replace HB := Aside0.mk (hb); replace HI253 := Aside0.mk (hi); try clear hb hk hi) | ((with_reducible refine gate_dst (N := 7) rfl ?_); (try (refine gate_guard zdy ?_; dsimp only)); refine qB 7 #[.int .i64 0, .int .i64 0, .int .i64 0, .slice none 0 0] 24 ?_; intro gb258 hg w11 hbox hb; have BK258 := Aside0.mk (hbox); have GW258 := Aside0.mk ((by rw [hg]; exact (below_size zcp) : w.heap.size ≤ gb258)); have GE258 := GW258; replace HB := Aside0.mk (below_step zcp hb); have NB250_258 := Aside0.mk ((zeb : gb250 ≠ gb258)); have NB258_250 := Aside0.mk NB250_258.out.symm; replace BK250 := Aside0.mk (bB BK250.out hb); have NB253_258 := Aside0.mk ((by rw [hg]; exact Nat.ne_of_lt (IsS63.lt (show IsS63 w _ gb253 t255 t256 t257 from by repeat (first | (with_reducible first | exact HI253.out | apply IsS63.alloc | apply IsS63.drewN | apply IsS63.drew | apply IsS63.set_0 | apply IsS63.set_1 | apply IsS63.set_2 | apply IsS63.far (hne := NB253_250.out)) | apply IsS63.far (hne := NB253_250.out) | exact HI253.out))) : gb253 ≠ gb258)); have NB258_253 := Aside0.mk NB253_258.out.symm; replace HI253 := Aside0.mk (IsS63.below (by repeat (first | (with_reducible first | exact HI253.out | apply IsS63.alloc | apply IsS63.drewN | apply IsS63.drew | apply IsS63.set_0 | apply IsS63.set_1 | apply IsS63.set_2 | apply IsS63.far (hne := NB253_250.out)) | apply IsS63.far (hne := NB253_250.out) | exact HI253.out)) hb); clear hb hbox hg; have hnb12 := NB258_250.out; have hnc12 := NB250_258.out; have hnb13 := NB258_253.out; have hnc13 := NB253_258.out; obtain ⟨hcz14_0, hcz14_1, hcz14_2, hcz14_3, hfz14_0, hfz14_1, hfz14_2, hfz14_3⟩ := qk4 BK258.out) | ((with_reducible refine gate_callee (f := 28) rfl ?_); refine qG (some 25) Try.func28 #[.pointer (some ⟨gb253, 0, none⟩), .int .i64 1000000000] ?_; (with_reducible refine (impl_reader_num.calls k gb253 t255 t256 t257 1000000000 t259 t260 t261 t262 w _ ?side1 ?side2 A4.out).mono ?_); (case side1 => exact zt); (case side2 => exact zs); rintro e w15 ⟨rfl, hi, hb, hk⟩; refine ⟨_, rfl, ?_⟩; replace BK250 := Aside0.mk (KeepBut.blk hk (bK BK250.out NB250_258.out) NB250_253.out zdw); replace BK258 := Aside0.mk (KeepBut.blk hk (g' := gb258) (o := .cells #[.int .i64 t254, .int .i64 0, .int .i64 0, .slice none 0 0] 24 (0, 0)) (p4 BK258.out) NB258_253.out zdw); replace HB := Aside0.mk (hb); replace HI253 := Aside0.mk (hi); try clear hb hk hi; obtain ⟨hcz16_0, hcz16_1, hcz16_2, hcz16_3, hfz16_0, hfz16_1, hfz16_2, hfz16_3⟩ := qk4 BK258.out) | ((with_reducible refine gate_callee (f := 28) rfl ?_); refine qG (some 28) Try.func28 #[.pointer (some ⟨gb253, 0, none⟩), .int .i64 1000000000] ?_; (with_reducible refine (impl_reader_num.calls k gb253 t260 t261 t262 1000000000 t263 t264 t265 t266 w _ ?side1 ?side2 A5.out).mono ?_); (case side1 => exact zt); (case side2 => exact zs); rintro e w17 ⟨rfl, hi, hb, hk⟩; refine ⟨_, rfl, ?_⟩; replace BK250 := Aside0.mk (KeepBut.blk hk (bK BK250.out NB250_258.out) NB250_253.out zdw); replace BK258 := Aside0.mk (KeepBut.blk hk (g' := gb258) (o := .cells #[.int .i64 t254, .int .i64 t259, .int .i64 0, .slice none 0 0] 24 (0, 0)) (by (with_reducible repeat (first | refine blk_drewN ?_ _ | refine blk_drew ?_ | refine blk_alloc ?_ _)); refine blk_put (cs := #[.int .i64 t254, .int .i64 0, .int .i64 0, .slice none 0 0]) ?_ 1 _ rfl; (with_reducible repeat (first | refine blk_drewN ?_ _ | refine blk_drew ?_ | refine blk_alloc ?_ _)); exact BK258.out) NB258_253.out zdw); replace HB := Aside0.mk (hb); replace HI253 := Aside0.mk (hi); try clear hb hk hi; obtain ⟨hcz18_0, hcz18_1, hcz18_2, hcz18_3, hfz18_0, hfz18_1, hfz18_2, hfz18_3⟩ := qk4 BK258.out) | ((with_reducible refine gate_callee (f := 28) rfl ?_); refine qG (some 31) Try.func28 #[.pointer (some ⟨gb253, 0, none⟩), .int .i64 20] ?_; (with_reducible refine (impl_reader_num.calls k gb253 t264 t265 t266 20 t267 t268 t269 t270 w _ ?side1 ?side2 A6.out).mono ?_); (case side1 => exact zt); (case side2 => exact zs); rintro e w19 ⟨rfl, hi, hb, hk⟩; refine ⟨_, rfl, ?_⟩; replace BK250 := Aside0.mk (KeepBut.blk hk (bK BK250.out NB250_258.out) NB250_253.out zdw); replace BK258 := Aside0.mk (KeepBut.blk hk (g' := gb258) (o := .cells #[.int .i64 t254, .int .i64 t259, .int .i64 t263, .slice none 0 0] 24 (0, 0)) (by (with_reducible repeat (first | refine blk_drewN ?_ _ | refine blk_drew ?_ | refine blk_alloc ?_ _)); refine blk_put (cs := #[.int .i64 t254, .int .i64 t259, .int .i64 0, .slice none 0 0]) ?_ 2 _ rfl; (with_reducible repeat (first | refine blk_drewN ?_ _ | refine blk_drew ?_ | refine blk_alloc ?_ _)); exact BK258.out) NB258_253.out zdw); replace HB := Aside0.mk (hb); replace HI253 := Aside0.mk (hi); try clear hb hk hi))
  go_loopg [32] k (fun kq v32 w' => ∃ (x32_1 : Int) (x254000_1 : ByteArray) (x254001_1 : Int) (x254002_1 : Bool) (x259003_1 : List (S60)) (u259003 : Value), v32 = .int .i64 x32_1 ∧ Aside0 (impl_ReadMeta.l0 kq a0 t251 t267 x32_1 x254000_1 x254001_1 x254002_1 t254 t259 t263 x259003_1 = some (r1, r2, r3, r4, r5)) ∧ Aside0 (kq ≤ k) ∧ Aside0 (Kd.S k60 60 w' w.heap.size (fun _ => True) u259003 x259003_1) ∧ Aside0 (w'.heap[gb250]? = some (.cells #[.int .i64 0, .int .i64 0, .int .i64 0, (.slice none 0 0)] 24 (0, 0))) ∧ Aside0 (w'.heap[gb258]? = some (.cells #[.int .i64 t254, .int .i64 t259, .int .i64 t263, u259003] 24 (0, 0))) ∧ Aside0 (IsS63 w w' gb253 x254000_1 x254001_1 x254002_1) ∧ Aside0 (Below w.heap.size w w'))
  case atStart => exact ⟨(0), (t268), (t269), (t270), (([] : List (S60))), (.slice none 0 0), zd, H', ⟨Nat.le_refl _⟩, ⟨za9⟩, ⟨by (with_reducible repeat (first | refine blk_drewN ?_ _ | refine blk_drew ?_ | refine blk_alloc ?_ _)); exact BK250.out⟩, ⟨by (with_reducible repeat (first | refine blk_drewN ?_ _ | refine blk_drew ?_ | refine blk_alloc ?_ _)); exact BK258.out⟩, ⟨zt⟩, ⟨zs⟩⟩
  case round =>
    clear H'
    (try clear hcz14_0); (try clear hcz14_1); (try clear hcz14_2 hcz14_3 hfz14_2 hfz14_3); (try clear hcz16_0 hcz16_1 hcz16_2 hcz16_3 hfz16_0 hfz16_1 hfz16_2 hfz16_3); (try clear hcz18_0 hcz18_1 hcz18_2 hcz18_3 hfz18_0 hfz18_1 hfz18_2 hfz18_3); (try clear hfz14_0); (try clear hfz14_1)
    try clear BK250 BK258 HI253 HB
    obtain ⟨x32_1, x254000_1, x254001_1, x254002_1, x259003_1, u259003, rfl, HA, HK1, HO_259003, BK250, BK258, HI253, HB⟩ := hrel
    cases gk with
    | zero => exact absurd HA.out (by simp [impl_ReadMeta.l0])
    | succ k1 =>
      have H := HA.out
      clear HA
      simp only [impl_ReadMeta.l0] at H
      by_cases c20 : x32_1 < t267
      case neg =>
        rw [if_neg c20] at H
        have c20b0 := decide_eq_false c20
        clear c20
        replace H := qi H
        obtain ⟨⟨t271, t272⟩, A50, H⟩ := H
        dsimp only at H
        by_cases c51 : x254002_1 = true
        case pos =>
          subst c51
          rw [if_pos rfl] at H
          simp only [Option.some.injEq, Prod.mk.injEq] at H
          obtain ⟨rfl, rfl, rfl, rfl, rfl⟩ := H
          have hnb52 := NB258_250.out
          have hnc52 := NB250_258.out
          have hnb53 := NB258_253.out
          have hnc53 := NB253_258.out
          obtain ⟨_, _, _, _, _, _, _, _⟩ := qk4 BK258.out
          obtain ⟨Ao55, co55, eo55⟩ := Kd.S_slice HO_259003.out
          subst eo55
          go_wp2_with (first | ((with_reducible refine gate_callee (f := 29) rfl ?_); refine qG (some 58) Try.func29 #[.agg #[.int .i64 t254, .int .i64 t259, .int .i64 t263, .slice Ao55 x259003_1.length co55]] ?_; (with_reducible refine (impl_MetaText.calls k1 t254 t259 t263 _ _ x259003_1 t271 t272 _ ?side1 ?side2 A50.out).mono ?_); (case side1 => exact zb1); (case side2 => exact (Kd.S_reads' HO_259003.out).2.1); rintro e w56 ⟨rfl, hb⟩; refine ⟨_, rfl, ?_⟩; replace HO_259003 := Aside0.mk (Kd.S_below zcc hb); replace BK250 := Aside0.mk (bB BK250.out hb); replace BK258 := Aside0.mk (bB BK258.out hb); replace HB := Aside0.mk (below_step zs hb); replace HI253 := Aside0.mk (IsS63.below zt hb); try clear hb; obtain ⟨_, _, _, _, _, _⟩ := qk3 HI253.out.1; have hnb58 := NB250_253.out; have hnc58 := NB253_250.out; obtain ⟨_, _, _, _, _, _, _, _⟩ := qk4 BK250.out))
          refine bodyPost_ret (results_ct rfl _ _ gb250 24 #[.int .i64 0, .int .i64 0, .int .i64 0, .slice none 0 0] (0, 0) _ rfl (p4 BK250.out) Try.underlying24 rfl za5) rfl ?_
          exact ⟨_, zc, za9, zs⟩
        replace c51 := Bool.eq_false_iff.mpr c51
        subst c51
        rw [if_neg (qj)] at H
        by_cases c60 : x254001_1 = (t251.size : Int)
        case neg =>
          rw [if_neg c60] at H
          have c60b0 : (x254001_1 == (t251.size : Int)) = false := beq_eq_false_iff_ne.mpr c60
          have c60b1 : (x254001_1 != (t251.size : Int)) = true := bne_iff_ne.mpr c60
          simp only [Option.some.injEq, Prod.mk.injEq] at H
          obtain ⟨rfl, rfl, rfl, rfl, rfl⟩ := H
          have hnb88 := NB258_250.out
          have hnc88 := NB250_258.out
          have hnb89 := NB258_253.out
          have hnc89 := NB253_258.out
          obtain ⟨_, _, _, _, _, _, _, _⟩ := qk4 BK258.out
          obtain ⟨Ao91, co91, eo91⟩ := Kd.S_slice HO_259003.out
          subst eo91
          go_wp2_with (first | ((with_reducible refine gate_callee (f := 29) rfl ?_); refine qG (some 58) Try.func29 #[.agg #[.int .i64 t254, .int .i64 t259, .int .i64 t263, .slice Ao91 x259003_1.length co91]] ?_; (with_reducible refine (impl_MetaText.calls k1 t254 t259 t263 _ _ x259003_1 t271 t272 _ ?side1 ?side2 A50.out).mono ?_); (case side1 => exact zb1); (case side2 => exact (Kd.S_reads' HO_259003.out).2.1); rintro e w92 ⟨rfl, hb⟩; refine ⟨_, rfl, ?_⟩; replace BK250 := Aside0.mk (bB BK250.out hb); replace HB := Aside0.mk (below_step zs hb); replace HI253 := Aside0.mk (IsS63.below zt hb); try clear hb; obtain ⟨_, _, _, _, _, _⟩ := qk3 HI253.out.1; have hnb94 := NB250_253.out; have hnc94 := NB253_250.out; obtain ⟨_, _, _, _, _, _, _, _⟩ := qk4 BK250.out))
          refine bodyPost_ret (results_ct rfl _ _ gb250 24 #[.int .i64 0, .int .i64 0, .int .i64 0, .slice none 0 0] (0, 0) _ rfl (p4 BK250.out) Try.underlying24 rfl za5) rfl ?_
          exact ⟨_, zc, za9, zs⟩

        rw [if_pos c60] at H
        have c60b0 : (x254001_1 == (t251.size : Int)) = true := beq_iff_eq.mpr c60
        have c60b1 : (x254001_1 != (t251.size : Int)) = false := bne_eq_false_iff_eq.mpr c60
        clear c60
        by_cases c61 : t272 = true
        case neg =>
          replace c61 := Bool.eq_false_iff.mpr c61
          subst c61
          rw [if_neg (qj)] at H
          simp only [Option.some.injEq, Prod.mk.injEq] at H
          obtain ⟨rfl, rfl, rfl, rfl, rfl⟩ := H
          have hnb80 := NB258_250.out
          have hnc80 := NB250_258.out
          have hnb81 := NB258_253.out
          have hnc81 := NB253_258.out
          obtain ⟨_, _, _, _, _, _, _, _⟩ := qk4 BK258.out
          obtain ⟨Ao83, co83, eo83⟩ := Kd.S_slice HO_259003.out
          subst eo83
          go_wp2_with (first | ((with_reducible refine gate_callee (f := 29) rfl ?_); refine qG (some 58) Try.func29 #[.agg #[.int .i64 t254, .int .i64 t259, .int .i64 t263, .slice Ao83 x259003_1.length co83]] ?_; (with_reducible refine (impl_MetaText.calls k1 t254 t259 t263 _ _ x259003_1 t271 false _ ?side1 ?side2 A50.out).mono ?_); (case side1 => exact zb1); (case side2 => exact (Kd.S_reads' HO_259003.out).2.1); rintro e w84 ⟨rfl, hb⟩; refine ⟨_, rfl, ?_⟩; replace HO_259003 := Aside0.mk (Kd.S_below zcc hb); replace BK250 := Aside0.mk (bB BK250.out hb); replace BK258 := Aside0.mk (bB BK258.out hb); replace HB := Aside0.mk (below_step zs hb); replace HI253 := Aside0.mk (IsS63.below zt hb); try clear hb; obtain ⟨_, _, _, _, _, _⟩ := qk3 HI253.out.1; have hnb86 := NB250_253.out; have hnc86 := NB253_250.out; obtain ⟨_, _, _, _, _, _, _, _⟩ := qk4 BK250.out))
          refine bodyPost_ret (results_ct rfl _ _ gb250 24 #[.int .i64 0, .int .i64 0, .int .i64 0, .slice none 0 0] (0, 0) _ rfl (p4 BK250.out) Try.underlying24 rfl za5) rfl ?_
          exact ⟨_, zc, za9, zs⟩
        subst c61
        rw [if_pos rfl] at H
        by_cases c62 : t271.toList = a0.toList
        case neg =>
          rw [if_neg c62] at H
          have c62b0 : (t271.toList == a0.toList) = false := beq_eq_false_iff_ne.mpr c62
          have c62b1 : (t271.toList != a0.toList) = true := bne_iff_ne.mpr c62
          simp only [Option.some.injEq, Prod.mk.injEq] at H
          obtain ⟨rfl, rfl, rfl, rfl, rfl⟩ := H
          have hnb72 := NB258_250.out
          have hnc72 := NB250_258.out
          have hnb73 := NB258_253.out
          have hnc73 := NB253_258.out
          obtain ⟨_, _, _, _, _, _, _, _⟩ := qk4 BK258.out
          obtain ⟨Ao75, co75, eo75⟩ := Kd.S_slice HO_259003.out
          subst eo75
          go_wp2_with (first | ((with_reducible refine gate_callee (f := 29) rfl ?_); refine qG (some 58) Try.func29 #[.agg #[.int .i64 t254, .int .i64 t259, .int .i64 t263, .slice Ao75 x259003_1.length co75]] ?_; (with_reducible refine (impl_MetaText.calls k1 t254 t259 t263 _ _ x259003_1 t271 true _ ?side1 ?side2 A50.out).mono ?_); (case side1 => exact zb1); (case side2 => exact (Kd.S_reads' HO_259003.out).2.1); rintro e w76 ⟨rfl, hb⟩; refine ⟨_, rfl, ?_⟩; replace HO_259003 := Aside0.mk (Kd.S_below zcc hb); replace BK250 := Aside0.mk (bB BK250.out hb); replace BK258 := Aside0.mk (bB BK258.out hb); replace HB := Aside0.mk (below_step zs hb); replace HI253 := Aside0.mk (IsS63.below zt hb); try clear hb; obtain ⟨_, _, _, _, _, _⟩ := qk3 HI253.out.1; have hnb78 := NB250_253.out; have hnc78 := NB253_250.out; obtain ⟨_, _, _, _, _, _, _, _⟩ := qk4 BK250.out))
          refine bodyPost_ret (results_ct rfl _ _ gb250 24 #[.int .i64 0, .int .i64 0, .int .i64 0, .slice none 0 0] (0, 0) _ rfl (p4 BK250.out) Try.underlying24 rfl za5) rfl ?_
          exact ⟨_, zc, za9, zs⟩
        rw [if_pos c62] at H
        have c62b0 : (t271.toList == a0.toList) = true := beq_iff_eq.mpr c62
        have c62b1 : (t271.toList != a0.toList) = false := bne_eq_false_iff_eq.mpr c62
        clear c62
        simp only [Option.some.injEq, Prod.mk.injEq] at H
        obtain ⟨rfl, rfl, rfl, rfl, rfl⟩ := H
        have hnb63 := NB258_250.out
        have hnc63 := NB250_258.out
        have hnb64 := NB258_253.out
        have hnc64 := NB253_258.out
        obtain ⟨_, _, _, _, _, _, _, _⟩ := qk4 BK258.out
        obtain ⟨Ao66, co66, eo66⟩ := Kd.S_slice HO_259003.out
        subst eo66
        go_wp2_with (first | ((with_reducible refine gate_callee (f := 29) rfl ?_); refine qG (some 58) Try.func29 #[.agg #[.int .i64 t254, .int .i64 t259, .int .i64 t263, .slice Ao66 x259003_1.length co66]] ?_; (with_reducible refine (impl_MetaText.calls k1 t254 t259 t263 _ _ x259003_1 t271 true _ ?side1 ?side2 A50.out).mono ?_); (case side1 => exact zb1); (case side2 => exact (Kd.S_reads' HO_259003.out).2.1); rintro e w67 ⟨rfl, hb⟩; refine ⟨_, rfl, ?_⟩; replace HO_259003 := Aside0.mk (Kd.S_below zcc hb); replace BK250 := Aside0.mk (bB BK250.out hb); replace BK258 := Aside0.mk (bB BK258.out hb); replace HB := Aside0.mk (below_step zs hb); replace HI253 := Aside0.mk (IsS63.below zt hb); try clear hb; obtain ⟨_, _, _, _, _, _⟩ := qk3 HI253.out.1; obtain ⟨_, _, _, _, _, _, _, _⟩ := qk4 BK258.out; have hnb70 := NB250_253.out; have hnc70 := NB253_250.out; obtain ⟨_, _, _, _, _, _, _, _⟩ := qk4 BK250.out))
        refine bodyPost_ret (results_ct rfl _ _ gb250 24 #[.int .i64 t254, .int .i64 t259, .int .i64 t263, .slice Ao66 x259003_1.length co66] (0, 0) _ rfl (p4 BK250.out) Try.underlying24 rfl za5) rfl ?_
        exact ⟨_, zc, Kd.S_mono (sK HO_259003.out BK250.out) (fun _ _ => trivial), zs⟩
      rw [if_pos c20] at H
      have c20b0 := decide_eq_true c20
      clear c20
      replace H := qi H
      obtain ⟨⟨t273, t274, t275, t276⟩, A21, H⟩ := H
      dsimp only at H
      replace H := qi H
      obtain ⟨⟨t278, t279, t280, t281⟩, A22, H⟩ := H
      dsimp only at H
      have H' := Aside0.mk H
      clear H
      go_wp2_with (first | ((with_reducible refine gate_callee (f := 28) rfl ?_); refine qG (some 35) Try.func28 #[.pointer (some ⟨gb253, 0, none⟩), .int .i64 1000000000] ?_; (with_reducible refine (impl_reader_num.calls k1 gb253 x254000_1 x254001_1 x254002_1 1000000000 t273 t274 t275 t276 w _ ?side1 ?side2 A21.out).mono ?_); (case side1 => exact zt); (case side2 => exact zs); rintro e w23 ⟨rfl, hi, hb, hk⟩; refine ⟨_, rfl, ?_⟩; replace HO_259003 := Aside0.mk (Kd.S_mono (Kd.S_keep (IsS63.apartS (show IsS63 w _ gb253 x254000_1 x254001_1 x254002_1 from by repeat (first | (with_reducible first | exact HI253.out | apply IsS63.alloc | apply IsS63.drewN | apply IsS63.drew | apply IsS63.set_0 | apply IsS63.set_1 | apply IsS63.set_2 | apply IsS63.far (hne := NB253_250.out) | apply IsS63.far (hne := NB253_258.out)) | apply IsS63.far (hne := NB253_250.out) | apply IsS63.far (hne := NB253_258.out) | exact HI253.out)) zcc zbf) hk (fun _ h => h.2)) (fun _ h => h.1)); replace BK250 := Aside0.mk (KeepBut.blk hk (bP BK250.out) NB250_253.out zdw); replace BK258 := Aside0.mk (KeepBut.blk hk (bP BK258.out) NB258_253.out zdw); replace HB := Aside0.mk (hb); replace HI253 := Aside0.mk (hi); try clear hb hk hi) | ((with_reducible refine gate_dst (N := 8) rfl ?_); (try (refine gate_guard zdy ?_; dsimp only)); refine qB 8 #[.int .i64 0, .slice none 0 0] 60 ?_; intro gb277 hg w24 hbox hb; replace HO_259003 := Aside0.mk (Kd.S_below (Kd.S_elderB zcc gb277 (Nat.le_of_eq hg.symm)) hb); have BK277 := Aside0.mk (hbox); have GW277 := Aside0.mk ((by rw [hg]; exact (below_size zs) : w.heap.size ≤ gb277)); have GE277 := GW277; replace HB := Aside0.mk (below_step zs hb); have NB250_277 := Aside0.mk ((zeb : gb250 ≠ gb277)); have NB277_250 := Aside0.mk NB250_277.out.symm; replace BK250 := Aside0.mk (bB BK250.out hb); have NB258_277 := Aside0.mk ((by rw [hg]; exact Nat.ne_of_lt (bL BK258.out) : gb258 ≠ gb277)); have NB277_258 := Aside0.mk NB258_277.out.symm; replace BK258 := Aside0.mk (bB BK258.out hb); have NB253_277 := Aside0.mk ((by rw [hg]; exact Nat.ne_of_lt (IsS63.lt (show IsS63 w _ gb253 t274 t275 t276 from by repeat (first | (with_reducible first | exact HI253.out | apply IsS63.alloc | apply IsS63.drewN | apply IsS63.drew | apply IsS63.set_0 | apply IsS63.set_1 | apply IsS63.set_2 | apply IsS63.far (hne := NB253_250.out) | apply IsS63.far (hne := NB253_258.out)) | apply IsS63.far (hne := NB253_250.out) | apply IsS63.far (hne := NB253_258.out) | exact HI253.out))) : gb253 ≠ gb277)); have NB277_253 := Aside0.mk NB253_277.out.symm; replace HI253 := Aside0.mk (IsS63.below zt hb); clear hb hbox hg; have hnb25 := NB277_250.out; have hnc25 := NB250_277.out; have hnb26 := NB277_258.out; have hnc26 := NB258_277.out; have hnb27 := NB277_253.out; have hnc27 := NB253_277.out; obtain ⟨hcz28_0, hcz28_1, hfz28_0, hfz28_1⟩ := qk2 BK277.out) | ((with_reducible refine gate_callee (f := 28) rfl ?_); refine qG (some 38) Try.func28 #[.pointer (some ⟨gb253, 0, none⟩), .int .i64 40] ?_; (with_reducible refine (impl_reader_num.calls k1 gb253 t274 t275 t276 40 t278 t279 t280 t281 w _ ?side1 ?side2 A22.out).mono ?_); (case side1 => exact zy); (case side2 => exact z7); rintro e w29 ⟨rfl, hi, hb, hk⟩; refine ⟨_, rfl, ?_⟩; replace HO_259003 := Aside0.mk (Kd.S_mono (Kd.S_keep (IsS63.apartS (show IsS63 w _ gb253 t274 t275 t276 from by repeat (first | (with_reducible first | exact HI253.out | apply IsS63.alloc | apply IsS63.drewN | apply IsS63.drew | apply IsS63.set_0 | apply IsS63.set_1 | apply IsS63.set_2 | apply IsS63.far (hne := NB253_250.out) | apply IsS63.far (hne := NB253_258.out) | apply IsS63.far (hne := NB253_277.out)) | apply IsS63.far (hne := NB253_250.out) | apply IsS63.far (hne := NB253_258.out) | apply IsS63.far (hne := NB253_277.out) | exact HI253.out)) (by (with_reducible repeat (first | apply Kd.S_alloc | apply Kd.S_drewN | apply Kd.S_drew)); exact (Kd.S_mono (Kd.S_far (p := ⟨gb277, 1, none⟩) (Kd.S_far (p := ⟨gb277, 0, none⟩) (Kd.S_mono HO_259003.out (fun k_ hk => (⟨hk, hk.2⟩ : _ ∧ k_ ≠ gb277))) (fun _ hk => hk.2) (.int .i64 t273)) (fun _ hk => hk.2) (.slice none 0 0)) (fun _ h_ => h_.1))) zbf) hk (fun _ h => h.2)) (fun _ h => h.1)); replace BK250 := Aside0.mk (KeepBut.blk hk (bK BK250.out NB250_277.out) NB250_253.out zdw); replace BK258 := Aside0.mk (KeepBut.blk hk (bK BK258.out NB258_277.out) NB258_253.out zdw); replace BK277 := Aside0.mk (KeepBut.blk hk (g' := gb277) (o := .cells #[.int .i64 t273, .slice none 0 0] 60 (0, 0)) (p2 BK277.out) NB277_253.out zdw); replace HB := Aside0.mk (hb); replace HI253 := Aside0.mk (hi); try clear hb hk hi))
      go_loopg [39] k1 (fun kq v39 w' => ∃ (x39_2 : Int) (x254000_2 : ByteArray) (x254001_2 : Int) (x254002_2 : Bool) (x278001_2 : List Int) (u278001 : Value), v39 = .int .i64 x39_2 ∧ Aside0 (impl_ReadMeta.l1 kq a0 t251 t267 x32_1 t278 x39_2 x254000_2 x254001_2 x254002_2 t254 t259 t263 x259003_1 t273 x278001_2 = some (r1, r2, r3, r4, r5)) ∧ Aside0 (kq ≤ k1) ∧ Aside0 (Kd.S k60 60 w' w.heap.size (fun k_ => some k_ ≠ (u278001 : Value).ownBlock ∧ k_ ≠ gb277) u259003 x259003_1) ∧ Aside0 (Kd.R (Kd.int .i64) 3 w' w.heap.size (fun _ => True) u278001 x278001_2) ∧ Aside0 (w'.heap[gb250]? = some (.cells #[.int .i64 0, .int .i64 0, .int .i64 0, (.slice none 0 0)] 24 (0, 0))) ∧ Aside0 (w'.heap[gb258]? = some (.cells #[.int .i64 t254, .int .i64 t259, .int .i64 t263, u259003] 24 (0, 0))) ∧ Aside0 (w'.heap[gb277]? = some (.cells #[.int .i64 t273, u278001] 60 (0, 0))) ∧ Aside0 (IsS63 w w' gb253 x254000_2 x254001_2 x254002_2) ∧ Aside0 (Below w.heap.size w w'))
      case atStart => exact ⟨(0), (t279), (t280), (t281), (([] : List Int)), (.slice none 0 0), zd, H', ⟨Nat.le_refl _⟩, ⟨by (with_reducible repeat (first | apply Kd.S_alloc | apply Kd.S_drewN | apply Kd.S_drew)); exact Kd.S_mono HO_259003.out (fun _ hk => ⟨(by simp [Value.ownBlock]), hk.2⟩)⟩, ⟨zb3⟩, ⟨by (with_reducible repeat (first | refine blk_drewN ?_ _ | refine blk_drew ?_ | refine blk_alloc ?_ _)); exact BK250.out⟩, ⟨by (with_reducible repeat (first | refine blk_drewN ?_ _ | refine blk_drew ?_ | refine blk_alloc ?_ _)); exact BK258.out⟩, ⟨by (with_reducible repeat (first | refine blk_drewN ?_ _ | refine blk_drew ?_ | refine blk_alloc ?_ _)); exact BK277.out⟩, ⟨zy⟩, ⟨z7⟩⟩
      case round =>
        clear H'
        (try clear c20); (try clear c20b0); (try clear hcz14_0); (try clear hcz14_1); (try clear hcz14_2 hcz14_3 hfz14_2 hfz14_3); (try clear hcz16_0 hcz16_1 hcz16_2 hcz16_3 hfz16_0 hfz16_1 hfz16_2 hfz16_3); (try clear hcz18_0 hcz18_1 hcz18_2 hcz18_3 hfz18_0 hfz18_1 hfz18_2 hfz18_3); (try clear hcz28_0 hcz28_1 hfz28_0 hfz28_1); (try clear hfz14_0); (try clear hfz14_1)
        try clear HO_259003 BK250 BK258 BK277 HI253 HB
        obtain ⟨x39_2, x254000_2, x254001_2, x254002_2, x278001_2, u278001, rfl, HA, HK2, HO_259003, HO_278001, BK250, BK258, BK277, HI253, HB⟩ := hrel
        cases gk with
        | zero => exact absurd HA.out (by simp [impl_ReadMeta.l1])
        | succ k2 =>
          have H := HA.out
          clear HA
          simp only [impl_ReadMeta.l1] at H
          by_cases c30 : x39_2 < t278
          case neg =>
            rw [if_neg c30] at H
            have c30b0 := decide_eq_false c30
            clear c30
            by_cases c38 : x259003_1.length < 4398046511104
            case neg => exact qn c38 H
            rw [if_pos c38] at H
            have LMc38 := Aside0.mk c38
            clear c38
            obtain ⟨y289, hy289⟩ : ∃ y_ : List (S60), y_ = (x259003_1 ++ [(⟨t273, x278001_2⟩ : S60)]) := ⟨_, rfl⟩
            replace H : (impl_ReadMeta.l0 k2 a0 t251 t267 (wrap64 (x32_1 + 1)) x254000_2 x254001_2 x254002_2 t254 t259 t263 y289) = some (r1, r2, r3, r4, r5) := by first | (rw [hy289]; with_reducible exact H) | (have H2_ := (Option.bind_some _ _).symm.trans H; rw [hy289]; with_reducible exact H2_) | (have H2_ := (Option.bind_some _ _).symm.trans H; with_reducible exact H2_) | with_reducible exact H | (rw [hy289]; exact H) | exact H
            have Ny289 := Aside0.mk hy289
            clear hy289
            have H' := Aside0.mk H
            clear H
            have hnb39 := NB258_250.out
            have hnc39 := NB250_258.out
            have hnb40 := NB258_277.out
            have hnc40 := NB277_258.out
            have hnb41 := NB258_253.out
            have hnc41 := NB253_258.out
            obtain ⟨_, _, _, _, _, _, _, _⟩ := qk4 BK258.out
            have hnb43 := NB277_250.out
            have hnc43 := NB250_277.out
            have hnb44 := NB277_253.out
            have hnc44 := NB253_277.out
            obtain ⟨_, _, _, _⟩ := qk2 BK277.out
            obtain ⟨Ao47, co47, eo47⟩ := Kd.R_slice HO_278001.out
            subst eo47
            go_wp2_with (first | ((with_reducible refine gate_builtin (b := .append) (xs := #[.tmp 50, .tmp 52]) rfl ?_); (try (refine gate_guard zdy ?_; dsimp only)); at_builtin; refine Kd.S_append k60 (w0 := w) w.heap.size rfl (.tmp 50) (.tmp 52) 22 60 (.agg #[(.int .i64 0), (.slice none 0 0)]) 32 rfl Try.underlying22 info60 rfl zbf zd4 u259003 x259003_1 (⟨t273, x278001_2⟩ : S60) [.int .i64 t273, .slice Ao47 x278001_2.length co47] (fun k_ => k_ ≠ gb277) (fun k_ => some k_ = (.slice Ao47 x278001_2.length co47 : Value).ownBlock) rfl rfl ?aP (fun k_ hk_ => ((Kd.R_mono (ok' := fun k_ => ((fun k_ => k_ ≠ gb277)) k_ ∧ some k_ ≠ (u259003 : Value).ownBlock) (Kd.R_types (Kd.R_apart' (HO_278001.out) (Kd.S_typed HO_259003.out) zbf) BK277.out zbf) (fun k_ hk => ⟨hk.2, hk.1.2⟩))).1 k_ hk_.symm) ?aF ?aO ?aB ?aS ?aL ?_; (case aP => exact k60_mkM _ _ _ (⟨t273, x278001_2⟩ : S60) (Kd.R_mono (Kd.R_tight rfl (Kd.R_mono (ok' := fun k_ => ((fun k_ => k_ ≠ gb277)) k_ ∧ some k_ ≠ (u259003 : Value).ownBlock) (Kd.R_types (Kd.R_apart' (HO_278001.out) (Kd.S_typed HO_259003.out) zbf) BK277.out zbf) (fun k_ hk => ⟨hk.2, hk.1.2⟩))) (fun _ h_ => h_))); (case aB => exact z7); (case aF => exact (fun k_ hk => Kd.freshB (bP BK277.out) k_ hk)); (case aO => exact (by (with_reducible repeat (first | apply Kd.S_alloc | apply Kd.S_drewN | apply Kd.S_drew)); exact Kd.S_mono HO_259003.out (fun k_ hk => ⟨hk.2, fun e_ => hk.1 e_⟩))); (case aS => exact (below_size z7)); (case aL => have := LMc38.out; omega); intro v290 w46 ho hb hg hat; rw [← Ny289.out] at ho; replace BK250 := Aside0.mk (blk_grown (bP BK250.out) hg (Kd.S_ne HO_259003.out BK250.out zbf)); replace BK258 := Aside0.mk (blk_grown (bP BK258.out) hg (Kd.S_ne HO_259003.out BK258.out zbf)); replace HI253 := Aside0.mk (IsS63.grown zy hg (IsS63.own_neS HI253.out HO_259003.out zbf)); replace HB := Aside0.mk (hb); have HO291 := Aside0.mk (ho); clear HO_259003 HO_278001; clear ho hb hg hat; obtain ⟨Ao48, co48, eo48⟩ := Kd.S_slice HO291.out; subst eo48; obtain ⟨_, _, _, _, _, _, _, _⟩ := qk4 BK258.out))
            go_roundg k2
            case measure => have := HK1.out; have := HK2.out; omega
            case rel => exact ⟨(wrap64 (x32_1 + 1)), (x254000_2), (x254001_2), (x254002_2), (y289), (.slice Ao48 y289.length co48), zd, H', ⟨zcm⟩, ⟨Kd.S_mono (sK HO291.out BK258.out) (fun _ _ => trivial)⟩, ⟨by (with_reducible repeat (first | refine blk_drewN ?_ _ | refine blk_drew ?_ | refine blk_alloc ?_ _)); refine blk_far ?_ NB250_258.out _; (with_reducible repeat (first | refine blk_drewN ?_ _ | refine blk_drew ?_ | refine blk_alloc ?_ _)); exact BK250.out⟩, ⟨by (with_reducible repeat (first | refine blk_drewN ?_ _ | refine blk_drew ?_ | refine blk_alloc ?_ _)); refine blk_put (cs := #[.int .i64 t254, .int .i64 t259, .int .i64 t263, u259003]) ?_ 3 _ rfl; (with_reducible repeat (first | refine blk_drewN ?_ _ | refine blk_drew ?_ | refine blk_alloc ?_ _)); exact BK258.out⟩, ⟨zy⟩, ⟨z7⟩⟩
          rw [if_pos c30] at H
          have c30b0 := decide_eq_true c30
          clear c30
          replace H := qi H
          obtain ⟨⟨t282, t283, t284, t285⟩, A31, H⟩ := H
          dsimp only at H
          by_cases c32 : x278001_2.length < 17592186044416
          case neg => exact qn c32 H
          rw [if_pos c32] at H
          have LMc32 := Aside0.mk c32
          clear c32
          obtain ⟨y286, hy286⟩ : ∃ y_ : List Int, y_ = (x278001_2 ++ [t282]) := ⟨_, rfl⟩
          replace H : (impl_ReadMeta.l1 k2 a0 t251 t267 x32_1 t278 (wrap64 (x39_2 + 1)) t283 t284 t285 t254 t259 t263 x259003_1 t273 y286) = some (r1, r2, r3, r4, r5) := by first | (rw [hy286]; with_reducible exact H) | (have H2_ := (Option.bind_some _ _).symm.trans H; rw [hy286]; with_reducible exact H2_) | (have H2_ := (Option.bind_some _ _).symm.trans H; with_reducible exact H2_) | with_reducible exact H | (rw [hy286]; exact H) | exact H
          have Ny286 := Aside0.mk hy286
          clear hy286
          have H' := Aside0.mk H
          clear H
          try go_wp2
          replace HO_259003 := Aside0.mk (Kd.S_drew HO_259003.out)
          replace HO_278001 := Aside0.mk (Kd.R_drew HO_278001.out)
          replace BK250 := Aside0.mk (blk_drew BK250.out)
          replace BK258 := Aside0.mk (blk_drew BK258.out)
          replace BK277 := Aside0.mk (blk_drew BK277.out)
          replace HI253 := Aside0.mk (IsS63.drew HI253.out)
          replace HB := Aside0.mk (below_drew1 HB.out)
          refine start_ (n := 8) (S := fun w' => w'.cell? ⟨gb277, 0, none⟩ = some (.int .i64 t273) ∧ w'.cell? ⟨gb277, 1, none⟩ = some (u278001)) (ds := [7]) (bz 8 0) za5 rfl rfl ⟨qx BK277 0, qx BK277 1⟩ (fun hHeld => ?_); refine with_tabW impl_ReadMeta.tab11 impl_ReadMeta.bits11 (fun HT_ HW_ => ?_)
          generalize wr.drew = w33 at HO_259003 HO_278001 BK250 BK258 BK277 HI253 HB hHeld ⊢
          refine ql 0 (some 41) (bz 8 1) HT_ ?_
          refine ql 2 (some 43) (bz 8 5) HT_ ?_
          refine qt 1 (some 42) (bz 8 7) HT_ HW_ hHeld ?_
          refine qs 3 (some 44) (bz 8 15) HT_ rfl rfl (fun K hK => ?_)
          refine goes_ Try.func28 za5 rfl #[.pointer (some ⟨gb253, 0, none⟩), .int .i64 1000000000] zdy rfl rfl zv ?_
          with_reducible refine (impl_reader_num.calls k2 gb253 x254000_2 x254001_2 x254002_2 1000000000 t282 t283 t284 t285 w _ ?side1 ?side2 A31.out).mono ?_
          (case side1 => exact zy)
          (case side2 => exact z7)
          rintro e w34 ⟨rfl, hi, hb, hk⟩
          refine ⟨_, rfl, ?_⟩
          replace HO_259003 := Aside0.mk (Kd.S_mono (Kd.S_keep (IsS63.apartS (show IsS63 w _ gb253 x254000_2 x254001_2 x254002_2 from by repeat (first | (with_reducible first | exact HI253.out | apply IsS63.alloc | apply IsS63.drewN | apply IsS63.drew | apply IsS63.set_0 | apply IsS63.set_1 | apply IsS63.set_2 | apply IsS63.far (hne := NB253_250.out) | apply IsS63.far (hne := NB253_258.out) | apply IsS63.far (hne := NB253_277.out)) | apply IsS63.far (hne := NB253_250.out) | apply IsS63.far (hne := NB253_258.out) | apply IsS63.far (hne := NB253_277.out) | exact HI253.out)) zcc zbf) hk (fun _ h => h.2)) (fun _ h => h.1))
          replace HO_278001 := Aside0.mk (Kd.R_mono (Kd.R_keep (IsS63.apart (show IsS63 w _ gb253 x254000_2 x254001_2 x254002_2 from by repeat (first | (with_reducible first | exact HI253.out | apply IsS63.alloc | apply IsS63.drewN | apply IsS63.drew | apply IsS63.set_0 | apply IsS63.set_1 | apply IsS63.set_2 | apply IsS63.far (hne := NB253_250.out) | apply IsS63.far (hne := NB253_258.out) | apply IsS63.far (hne := NB253_277.out)) | apply IsS63.far (hne := NB253_250.out) | apply IsS63.far (hne := NB253_258.out) | apply IsS63.far (hne := NB253_277.out) | exact HI253.out)) (by (with_reducible repeat (first | apply Kd.R_alloc | apply Kd.R_drewN | apply Kd.R_drew)); exact HO_278001.out) zbf) hk (fun _ h => h.2)) (fun _ h => h.1))
          replace BK250 := Aside0.mk (KeepBut.blk hk (bP BK250.out) NB250_253.out zdw)
          replace BK258 := Aside0.mk (KeepBut.blk hk (bP BK258.out) NB258_253.out zdw)
          replace BK277 := Aside0.mk (KeepBut.blk hk (bP BK277.out) NB277_253.out zdw)
          replace HB := Aside0.mk (hb)
          replace HI253 := Aside0.mk (hi)
          try clear hb hk hi
          refine hK.out _ _ ⟨qx BK277 0, qx BK277 1⟩ (fun hHeld => ?_)
          clear hK K
          refine qr (some 44) ?_
          refine qs 4 (some 45) (bz 8 31) HT_ rfl rfl (fun K hK => ?_)
          refine value_ (w1 := ?_) (v := ?_) zdy rfl ?_ ?_
          rotate_left 2
          · go_simp
            constructor
            · rfl
            · rfl
          refine hK.out _ _ ⟨(blk_cell (blk_alloc BK277.out _) 0).trans rfl, (blk_cell (blk_alloc BK277.out _) 1).trans rfl⟩ (fun hHeld => ?_)
          clear hK K
          refine qr (some 45) ?_
          refine qs 5 (some 46) (bz 8 63) HT_ rfl rfl (fun K hK => ?_)
          refine Kd.R_append_step (Kd.int .i64) (w0 := w) w.heap.size zdy (.tmp 42) (.tmp 45) 58 3 (.int .i64 0) 8 rfl Try.underlying58 info3 rfl zbf zd4 u278001 x278001_2 t282 [.int .i64 t282] (fun _ => True) (fun _ => False) rfl rfl ?aP (fun _ hk => hk.elim) ?aF ?aO ?aB ?aS ?aL ?_
          (case aP => exact rfl)
          (case aB => exact z7)
          (case aF => exact (fun _ _ => trivial))
          (case aO => exact (by (with_reducible repeat (first | apply Kd.R_alloc | apply Kd.R_drewN | apply Kd.R_drew)); exact HO_278001.out))
          (case aS => exact (below_size z7))
          (case aL => have := LMc32.out; omega)
          intro v287 w35 ho hb hg hat
          rw [← Ny286.out] at ho
          replace HO_259003 := Aside0.mk (Kd.S_after (ok := (fun k_ => k_ ≠ gb277)) (by (with_reducible repeat (first | apply Kd.S_alloc | apply Kd.S_drewN | apply Kd.S_drew)); exact Kd.S_mono HO_259003.out (fun _ hk => ⟨hk.2, hk.1⟩)) hg hat)
          replace BK250 := Aside0.mk (blk_grown (bP BK250.out) hg (Kd.R_ne HO_278001.out BK250.out zbf))
          replace BK258 := Aside0.mk (blk_grown (bP BK258.out) hg (Kd.R_ne HO_278001.out BK258.out zbf))
          replace BK277 := Aside0.mk (blk_grown (bP BK277.out) hg (Kd.R_ne HO_278001.out BK277.out zbf))
          replace HI253 := Aside0.mk (IsS63.grown zy hg (IsS63.own_ne HI253.out HO_278001.out zbf))
          replace HB := Aside0.mk (hb)
          have HO288 := Aside0.mk (ho)
          clear HO_278001
          clear ho hb hg hat
          obtain ⟨Ao36, co36, eo36⟩ := Kd.R_slice HO288.out
          (first | subst eo36 | (injection eo36 with f1_ f2_ f3_; have f4_ := f1_.symm; have f5_ := f3_.symm; clear f1_ f2_ f3_; subst f4_; subst f5_))
          refine hK.out _ _ ⟨qx BK277 0, qx BK277 1⟩ (fun hHeld => ?_)
          clear hK K
          refine qr (some 46) ?_
          refine ql 6 (some 47) (bz 8 127) HT_ ?_
          refine last_ (i := 7) (N := none) (bz 8 255) rfl rfl (one_of HT_.out za5) zbf (fun K hK => ?_)
          have hs37 : w35.cell? ⟨gb277, 1, none⟩ = some (u278001) := qx BK277 1
          have hfs37 := blk_frozen BK277.out 1
          have hns37_0 := NB250_277.out
          have hns37_1 := NB258_277.out
          have hms37_0 := NB277_250.out
          have hms37_1 := NB277_258.out
          refine skip_ (w1 := ?_) zdy rfl ?_ ?_
          rotate_left
          · go_simp
            rfl
          refine hK.out _ _ ?_
          clear hK K
          refine qu HT_ ?_
          try go_wp2
          go_roundg k2
          case measure => have := HK1.out; have := HK2.out; omega
          case rel => exact ⟨(wrap64 (x39_2 + 1)), (t283), (t284), (t285), (y286), (.slice Ao36 y286.length co36), zd, H', ⟨zcm⟩, ⟨by (with_reducible repeat (first | apply Kd.S_alloc | apply Kd.S_drewN | apply Kd.S_drew)); exact Kd.S_mono (Kd.S_far (p := ⟨gb277, 1, none⟩) (Kd.S_mono HO_259003.out (fun k_ hk => (⟨hk, hk.1⟩ : _ ∧ k_ ≠ gb277))) (fun _ hk => hk.2) (.slice Ao36 y286.length co36)) (fun _ hk => ⟨hk.1.2, hk.1.1⟩)⟩, ⟨Kd.R_mono (rK HO288.out BK277.out) (fun _ _ => trivial)⟩, ⟨by (with_reducible repeat (first | refine blk_drewN ?_ _ | refine blk_drew ?_ | refine blk_alloc ?_ _)); refine blk_far ?_ NB250_277.out _; (with_reducible repeat (first | refine blk_drewN ?_ _ | refine blk_drew ?_ | refine blk_alloc ?_ _)); exact BK250.out⟩, ⟨by (with_reducible repeat (first | refine blk_drewN ?_ _ | refine blk_drew ?_ | refine blk_alloc ?_ _)); refine blk_far ?_ NB258_277.out _; (with_reducible repeat (first | refine blk_drewN ?_ _ | refine blk_drew ?_ | refine blk_alloc ?_ _)); exact BK258.out⟩, ⟨by (with_reducible repeat (first | refine blk_drewN ?_ _ | refine blk_drew ?_ | refine blk_alloc ?_ _)); refine blk_put (cs := #[.int .i64 t273, u278001]) ?_ 1 _ rfl; (with_reducible repeat (first | refine blk_drewN ?_ _ | refine blk_drew ?_ | refine blk_alloc ?_ _)); exact BK277.out⟩, ⟨zy⟩, ⟨z7⟩⟩
/-! ### impl_isPage: function 68 -/
def impl_isPage.f (l0_0 : List ByteArray) (l0_1 : List (S83)) (a1 : Int) : Option (Bool) := (impl_in.f a1 0 (wrap64 ((l0_0.length : Int) - 1))).bind fun t293 => (some t293)
set_option maxHeartbeats 8000000 in
set_option maxRecDepth 100000 in
theorem impl_isPage.calls (A0_0 : Option Addr) (c0_0 : Nat) (l0_0 : List ByteArray) (A0_1 : Option Addr) (c0_1 : Nat) (l0_1 : List (S83)) (a1 : Int) (r : Bool) (w : World) (hr0_0 : Kd.C Kd.string w A0_0 l0_0.length l0_0) (hc0_0 : l0_0.length ≤ c0_0) (hr0_1 : Kd.C k83 w A0_1 l0_1.length l0_1) (hc0_1 : l0_1.length ≤ c0_1) (h : impl_isPage.f l0_0 l0_1 a1 = some r) :
    Calls Try.prog 68 #[.agg #[.slice A0_0 l0_0.length c0_0, .slice A0_1 l0_1.length c0_1], .int .i64 a1] w fun e w' => e = .returned (.bool r) ∧ Below w.heap.size w w' := by
  have hu38 := Try.underlying38
  clear hr0_0 hc0_0
  clear hr0_1 hc0_1
  have HB := Aside0.mk (Below.refl w.heap.size w)
  unfold impl_isPage.f at h
  have H := h
  clear h
  replace H := qi H
  obtain ⟨t293, A3, H⟩ := H
  obtain rfl := Option.some.inj H
  go_enter Try.func68, Try.ntmps68
  go_wp2_with (first | ((with_reducible refine gate_dst (N := 2) rfl ?_); refine qB 2 #[.slice A0_0 l0_0.length c0_0, .slice A0_1 l0_1.length c0_1] 38 ?_; intro gb292 hg w4 hbox hb; have BK292 := Aside0.mk (hbox); have GW292 := Aside0.mk ((zef : w.heap.size ≤ gb292)); have GE292 := GW292; replace HB := Aside0.mk (below_step za hb); clear hb hbox hg; obtain ⟨_, _, _, _⟩ := qk2 BK292.out) | ((with_reducible refine gate_callee (f := 58) rfl ?_); refine qG (some 10) Try.func58 #[.int .i64 a1, .int .i64 0, .int .i64 (wrap64 ((l0_0.length : Int) - 1))] ?_; (with_reducible refine (impl_in.calls a1 0 (wrap64 ((l0_0.length : Int) - 1)) t293 _ A3.out).mono ?_); rintro e w' ⟨rfl, ⟨nd, rfl⟩⟩; refine ⟨_, rfl, ?_⟩))
  go_ret
  exact ⟨zc, by repeat (first | (with_reducible first | exact HB.out | apply below_alloc | apply pw_below_drewN | apply below_drew1 | refine below_set ?_ GE292.out) | exact HB.out)⟩

/-! ### impl_ReadPage: function 38 -/
def impl_ReadPage.l0 : Nat → Int → Int → List ByteArray → List (S83) → Option (ByteArray)
  | 0, _, _, _, _ => none
  | k + 1, x1, x5, x295000, x295001 => if x5 ≥ 0 then (if 0 ≤ x5 then (if x5 < (x295001.length : Int) then (if ((rd_T83 x295001 x5).f0) = x1 then (some ((rd_T83 x295001 x5).f1)) else (impl_ReadPage.l0 k x1 (wrap64 (x5 - 1)) x295000 x295001)) else (none)) else (none)) else (if 0 ≤ x1 then (if x1 < (x295000.length : Int) then (some (rdOf ByteArray.empty x295000 x1)) else (none)) else (none))
def impl_ReadPage.f (k : Nat) (l0_0 : List ByteArray) (l0_1 : List (S83)) (a1 : Int) : Option (ByteArray) := (impl_isPage.f l0_0 l0_1 a1).bind fun t295 => (if t295 = true then (impl_ReadPage.l0 k a1 (wrap64 ((l0_1.length : Int) - 1)) l0_0 l0_1) else (some (⟨#[]⟩ : ByteArray)))
theorem impl_ReadPage.mono_l : ∀ k, (∀ y0 y1 y2 y3, LeO (impl_ReadPage.l0 k y0 y1 y2 y3) (impl_ReadPage.l0 (k + 1) y0 y1 y2 y3))
  | 0 => fun _ _ _ _ r h => by simp [impl_ReadPage.l0] at h
  | k + 1 => by
    have ih0 := impl_ReadPage.mono_l k
    · intro y0 y1 y2 y3
      unfold impl_ReadPage.l0
      exact qv
theorem impl_ReadPage.mono : ∀ a0 a1 a2 k, LeO (impl_ReadPage.f k a0 a1 a2) (impl_ReadPage.f (k + 1) a0 a1 a2) := by
  intro a0 a1 a2 k
  have ih0 := impl_ReadPage.mono_l k
  unfold impl_ReadPage.f
  exact qv
set_option maxHeartbeats 8000000 in
set_option maxRecDepth 100000 in
theorem impl_ReadPage.calls (k : Nat) (A0_0 : Option Addr) (c0_0 : Nat) (l0_0 : List ByteArray) (A0_1 : Option Addr) (c0_1 : Nat) (l0_1 : List (S83)) (a1 : Int) (r : ByteArray) (w : World) (hr0_0 : Kd.C Kd.string w A0_0 l0_0.length l0_0) (hc0_0 : l0_0.length ≤ c0_0) (hr0_1 : Kd.C k83 w A0_1 l0_1.length l0_1) (hc0_1 : l0_1.length ≤ c0_1) (h : impl_ReadPage.f k l0_0 l0_1 a1 = some r) :
    Calls Try.prog 38 #[.agg #[.slice A0_0 l0_0.length c0_0, .slice A0_1 l0_1.length c0_1], .int .i64 a1] w fun e w' => e = .returned (.string r) ∧ Below w.heap.size w w' := by
  have hu38 := Try.underlying38
  have HR0_0 := Aside0.mk hr0_0
  have HC0_0 := Aside0.mk hc0_0
  clear hr0_0 hc0_0
  have HR0_1 := Aside0.mk hr0_1
  have HC0_1 := Aside0.mk hc0_1
  clear hr0_1 hc0_1
  have HB := Aside0.mk (Below.refl w.heap.size w)
  unfold impl_ReadPage.f at h
  have H := h
  clear h
  replace H := qi H
  obtain ⟨t295, A3, H⟩ := H
  by_cases c4 : t295 = true
  case neg =>
    replace c4 := Bool.eq_false_iff.mpr c4
    subst c4
    rw [if_neg (qj)] at H
    obtain rfl := Option.some.inj H
    go_enter Try.func38, Try.ntmps38
    go_wp2_with (first | ((with_reducible refine gate_dst (N := 2) rfl ?_); refine qB 2 #[.slice A0_0 l0_0.length c0_0, .slice A0_1 l0_1.length c0_1] 38 ?_; intro gb294 hg w18 hbox hb; have BK294 := Aside0.mk (hbox); have GW294 := Aside0.mk ((zef : w.heap.size ≤ gb294)); have GE294 := GW294; replace HB := Aside0.mk (below_step za hb); clear hb hbox hg; obtain ⟨_, _, _, _⟩ := qk2 BK294.out) | ((with_reducible refine gate_callee (f := 68) rfl ?_); refine qG (some 8) Try.func68 #[.agg #[.slice A0_0 l0_0.length c0_0, .slice A0_1 l0_1.length c0_1], .int .i64 a1] ?_; (with_reducible refine (impl_isPage.calls _ _ l0_0 _ _ l0_1 a1 false _ ?side1 ?side2 ?side3 ?side4 A3.out).mono ?_); (case side1 => exact zao); (case side2 => exact HC0_0.out); (case side3 => exact zba); (case side4 => exact HC0_1.out); rintro e w20 ⟨rfl, hb⟩; refine ⟨_, rfl, ?_⟩; replace HB := Aside0.mk (below_step zbj hb); try clear hb))
    go_ret
    exact ⟨zc, zbj⟩

  subst c4
  rw [if_pos rfl] at H
  have H' := Aside0.mk H
  clear H
  go_enter Try.func38, Try.ntmps38
  go_wp2_with (first | ((with_reducible refine gate_dst (N := 2) rfl ?_); refine qB 2 #[.slice A0_0 l0_0.length c0_0, .slice A0_1 l0_1.length c0_1] 38 ?_; intro gb294 hg w5 hbox hb; have BK294 := Aside0.mk (hbox); have GW294 := Aside0.mk ((zef : w.heap.size ≤ gb294)); have GE294 := GW294; replace HB := Aside0.mk (below_step za hb); clear hb hbox hg; obtain ⟨hcz6_0, hcz6_1, hfz6_0, hfz6_1⟩ := qk2 BK294.out) | ((with_reducible refine gate_callee (f := 68) rfl ?_); refine qG (some 8) Try.func68 #[.agg #[.slice A0_0 l0_0.length c0_0, .slice A0_1 l0_1.length c0_1], .int .i64 a1] ?_; (with_reducible refine (impl_isPage.calls _ _ l0_0 _ _ l0_1 a1 true _ ?side1 ?side2 ?side3 ?side4 A3.out).mono ?_); (case side1 => exact zao); (case side2 => exact HC0_0.out); (case side3 => exact zba); (case side4 => exact HC0_1.out); rintro e w7 ⟨rfl, hb⟩; refine ⟨_, rfl, ?_⟩; replace BK294 := Aside0.mk (bB BK294.out hb); replace HB := Aside0.mk (below_step zbj hb); try clear hb; obtain ⟨hcz8_0, hcz8_1, hfz8_0, hfz8_1⟩ := qk2 BK294.out))
  go_loopg [5] k (fun kq v5 w' => ∃ (x5_1 : Int), v5 = .int .i64 x5_1 ∧ Aside0 (impl_ReadPage.l0 kq a1 x5_1 l0_0 l0_1 = some r) ∧ Aside0 (kq ≤ k) ∧ Aside0 (w'.heap[gb294]? = some (.cells #[(.slice A0_0 l0_0.length c0_0), (.slice A0_1 l0_1.length c0_1)] 38 (0, 0))) ∧ Aside0 (Below w.heap.size w w'))
  case atStart => exact ⟨(wrap64 ((l0_1.length : Int) - 1)), zd, H', ⟨Nat.le_refl _⟩, ⟨by (with_reducible repeat (first | refine blk_drewN ?_ _ | refine blk_drew ?_ | refine blk_alloc ?_ _)); exact BK294.out⟩, ⟨zbj⟩⟩
  case round =>
    clear H'
    (try clear c4); (try clear hcz6_0 hcz6_1 hfz6_0 hfz6_1); (try clear hcz8_0 hcz8_1 hfz8_0 hfz8_1)
    try clear BK294 HB
    obtain ⟨x5_1, rfl, HA, HK1, BK294, HB⟩ := hrel
    cases gk with
    | zero => exact absurd HA.out (by simp [impl_ReadPage.l0])
    | succ k1 =>
      have H := HA.out
      clear HA
      simp only [impl_ReadPage.l0] at H
      by_cases c9 : x5_1 ≥ 0
      case neg =>
        rw [if_neg c9] at H
        have c9b0 : decide (0 ≤ x5_1) = false := decide_eq_false c9
        clear c9
        by_cases c15 : 0 ≤ a1
        case neg => exact qn c15 H
        rw [if_pos c15] at H
        have c15b0 := decide_eq_true c15
        clear c15
        by_cases c16 : a1 < (l0_0.length : Int)
        case neg => exact qn c16 H
        rw [if_pos c16] at H
        have c16b0 := decide_eq_true c16
        clear c16
        obtain rfl := Option.some.inj H
        obtain ⟨_, _, _, _⟩ := qk2 BK294.out
        have p298 : 0 ≤ (a1 : Int) := of_decide_eq_true zb
        have q298 : a1 < (l0_0.length : Int) := of_decide_eq_true zb
        obtain ⟨ad298, e298, hx298_0⟩ := Kd.at_string HR0_0.out a1 p298 q298
        cases e298
        replace hx298_0 := qw HB hx298_0
        replace p298 := eq_true p298
        replace q298 := eq_true q298
        go_wp2
        go_ret
        exact ⟨zc, zbj⟩
      rw [if_pos c9] at H
      have c9b0 : decide (0 ≤ x5_1) = true := decide_eq_true c9
      clear c9
      by_cases c10 : 0 ≤ x5_1
      case neg => exact qn c10 H
      rw [if_pos c10] at H
      have c10b0 := decide_eq_true c10
      clear c10
      by_cases c11 : x5_1 < (l0_1.length : Int)
      case neg => exact qn c11 H
      rw [if_pos c11] at H
      have c11b0 := decide_eq_true c11
      clear c11
      by_cases c12 : ((rd_T83 l0_1 x5_1).f0) = a1
      case neg =>
        rw [if_neg c12] at H
        have c12b0 : (((rd_T83 l0_1 x5_1).f0) == a1) = false := beq_eq_false_iff_ne.mpr c12
        have c12b1 : (((rd_T83 l0_1 x5_1).f0) != a1) = true := bne_iff_ne.mpr c12
        have H' := Aside0.mk H
        clear H
        obtain ⟨hcz14_0, hcz14_1, hfz14_0, hfz14_1⟩ := qk2 BK294.out
        have p296 : 0 ≤ (x5_1 : Int) := of_decide_eq_true zb
        have q296 : x5_1 < (l0_1.length : Int) := of_decide_eq_true zb
        obtain ⟨ad296, e296, hx296_0, hx296_1⟩ := at_T83 HR0_1.out x5_1 p296 q296
        cases e296
        replace hx296_0 := qw HB hx296_0
        replace hx296_1 := qw HB hx296_1
        replace p296 := eq_true p296
        replace q296 := eq_true q296
        go_wp2
        go_roundg k1
        case measure => have := HK1.out; omega
        case rel => exact ⟨(wrap64 (x5_1 - 1)), zd, H', ⟨zd3⟩, ⟨by (with_reducible repeat (first | refine blk_drewN ?_ _ | refine blk_drew ?_ | refine blk_alloc ?_ _)); exact BK294.out⟩, ⟨zbj⟩⟩
      rw [if_pos c12] at H
      have c12b0 : (((rd_T83 l0_1 x5_1).f0) == a1) = true := beq_iff_eq.mpr c12
      have c12b1 : (((rd_T83 l0_1 x5_1).f0) != a1) = false := bne_eq_false_iff_eq.mpr c12
      clear c12
      obtain rfl := Option.some.inj H
      obtain ⟨_, _, _, _⟩ := qk2 BK294.out
      have p296 : 0 ≤ (x5_1 : Int) := of_decide_eq_true zb
      have q296 : x5_1 < (l0_1.length : Int) := of_decide_eq_true zb
      obtain ⟨ad296, e296, hx296_0, hx296_1⟩ := at_T83 HR0_1.out x5_1 p296 q296
      cases e296
      replace hx296_0 := qw HB hx296_0
      replace hx296_1 := qw HB hx296_1
      replace p296 := eq_true p296
      replace q296 := eq_true q296
      have p297 : 0 ≤ (x5_1 : Int) := of_decide_eq_true zb
      have q297 : x5_1 < (l0_1.length : Int) := of_decide_eq_true zb
      obtain ⟨ad297, e297, hx297_0, hx297_1⟩ := at_T83 HR0_1.out x5_1 p297 q297
      obtain rfl : ad296 = ad297 := (by injection e297)
      replace hx297_0 := qw HB hx297_0
      replace hx297_1 := qw HB hx297_1
      replace p297 := eq_true p297
      replace q297 := eq_true q297
      go_wp2
      go_ret
      exact ⟨zc, zbj⟩
/-! ### impl_BestMeta: function 14 -/
def impl_BestMeta.pick (a b : Int × Int × Int × List (S60) × Bool) : Int × Int × Int × List (S60) × Bool := if a.2.2.2.2 = true ∧ (b.2.2.2.2 = false ∨ a.1 ≥ b.1) then (a.1, a.2.1, a.2.2.1, a.2.2.2.1, true) else if b.2.2.2.2 = true then (b.1, b.2.1, b.2.2.1, b.2.2.2.1, true) else (0, 0, 0, [], false)
def impl_BestMeta.f (k : Nat) (l0_0 : List ByteArray) (l0_1 : List (S83)) : Option (Int × Int × Int × List (S60) × Bool) := (impl_ReadPage.f k l0_0 l0_1 0).bind fun t => ((impl_ReadMeta.f k t).bind fun a => ((impl_ReadPage.f k l0_0 l0_1 1).bind fun u => ((impl_ReadMeta.f k u).bind fun b => (some (impl_BestMeta.pick a b)))))
theorem impl_BestMeta.mono : ∀ a0 a1 k, LeO (impl_BestMeta.f k a0 a1) (impl_BestMeta.f (k + 1) a0 a1) := fun a0 a1 k => LeO.bind (impl_ReadPage.mono _ _ _ _) (fun _ => LeO.bind (impl_ReadMeta.mono _ _) (fun _ => LeO.bind (impl_ReadPage.mono _ _ _ _) (fun _ => LeO.bind (impl_ReadMeta.mono _ _) (fun _ => LeO.refl _))))
theorem impl_BestMeta.calls_world {P : Program} {f : FuncId} {args : Array Value} {W : World} {post : Ending → World → Prop} (h : ∀ W', W' = W → Calls P f args W' post) : Calls P f args W post := h W rfl
theorem impl_BestMeta.row {w6 W1 W W' : World} {b : Nat} {v : Value} {xs : List (S60)} (S : Nat → Prop) (h : Kd.S k60 60 w6 W1.heap.size (fun _ => True) v xs) (hb : Below w6.heap.size w6 W) (hk : Kept W W' S) (hS : ∀ k, W1.heap.size ≤ k → k < w6.heap.size → ¬ S k) (hl : b ≤ W1.heap.size) : Kd.S k60 60 W' b (fun _ => True) v xs :=
  Kd.S_mono (Kd.S_lower (Kd.S_step (Kd.S_bound h) (fun k hk_ hlt => (hk.2 k (Nat.lt_of_lt_of_le hlt hb.size) (hS k hk_.2.1 hlt)).trans (hb.block k hlt))) hl) (fun _ _ => trivial)
set_option maxHeartbeats 16000000 in
set_option maxRecDepth 100000 in
theorem impl_BestMeta.calls (k : Nat) (A0_0 : Option Addr) (c0_0 : Nat) (l0_0 : List ByteArray) (A0_1 : Option Addr) (c0_1 : Nat) (l0_1 : List (S83)) (r1 : Int) (r2 : Int) (r3 : Int) (r4 : List (S60)) (r5 : Bool) (w : World) (hr0_0 : Kd.C Kd.string w A0_0 l0_0.length l0_0) (hc0_0 : l0_0.length ≤ c0_0) (hr0_1 : Kd.C k83 w A0_1 l0_1.length l0_1) (hc0_1 : l0_1.length ≤ c0_1) (h : impl_BestMeta.f k l0_0 l0_1 = some (r1, r2, r3, r4, r5)) :
    Calls Try.prog 14 #[.agg #[.slice A0_0 l0_0.length c0_0, .slice A0_1 l0_1.length c0_1]] w fun e w' => ∃ v3_ : Value, e = .returned (.tuple #[.agg #[.int .i64 r1, .int .i64 r2, .int .i64 r3, v3_], .bool r5]) ∧ Kd.S k60 60 w' w.heap.size (fun _ => True) v3_ r4 ∧ Below w.heap.size w w' := by
  obtain ⟨t, e1, h⟩ := Option.bind_eq_some_iff.mp h
  obtain ⟨⟨x1, x2, x3, X4, x5⟩, e2, h⟩ := Option.bind_eq_some_iff.mp h
  obtain ⟨u, e3, h⟩ := Option.bind_eq_some_iff.mp h
  obtain ⟨⟨y1, y2, y3, Y4, y5⟩, e4, h⟩ := Option.bind_eq_some_iff.mp h
  have hp := Option.some.inj h
  unfold impl_BestMeta.pick at hp
  dsimp only at hp
  clear h
  have E1 := Aside0.mk e1
  have E2 := Aside0.mk e2
  have E3 := Aside0.mk e3
  have E4 := Aside0.mk e4
  have HR0 := Aside0.mk hr0_0
  have HR1 := Aside0.mk hr0_1
  have HC0 := Aside0.mk hc0_0
  have HC1 := Aside0.mk hc0_1
  have Bw := Aside0.mk (Below.refl w.heap.size w)
  clear e1 e2 e3 e4 hr0_0 hr0_1 hc0_0 hc0_1
  have hge : (decide (y1 ≤ x1) = true ∧ x1 ≥ y1) ∨ (decide (y1 ≤ x1) = false ∧ ¬ x1 ≥ y1) := by
    by_cases c : y1 ≤ x1
    case pos => exact .inl ⟨decide_eq_true c, c⟩
    exact .inr ⟨decide_eq_false c, c⟩
  have HP := Aside0.mk hp
  clear hp
  rcases hge with ⟨hd, hg⟩ | ⟨hd, hg⟩ <;> (have HGE := Aside0.mk hg; clear hg; cases x5 <;> cases y5)
  all_goals (
    go_enter Try.func14, Try.ntmps14
    go_wp2_with (first | ((with_reducible refine gate_dst (N := 1) rfl ?_); refine qB 1 #[.slice A0_0 l0_0.length c0_0, .slice A0_1 l0_1.length c0_1] 38 ?_; intro g0 hg w1 hbox hb; have nw_ := Aside0.mk (show Below w.heap.size w w1 from below_step zac hb); clear Bw; have Bw := nw_; clear nw_; have Kg0 := Aside0.mk hbox; clear hbox hg; clear hb; have Bw1 := Aside0.mk (Below.refl w1.heap.size w1); obtain ⟨hcg0_0, hcg0_1, hfg0_0, hfg0_1⟩ := qk2 Kg0.out; ) | ((with_reducible refine gate_dst (N := 2) rfl ?_); refine qB 2 #[.int .i64 0, .int .i64 0, .int .i64 0, .slice none 0 0] 24 ?_; intro g2 hg w2 hbox hb; have Gg2_w := Aside0.mk (show w.heap.size ≤ g2 from zei); have nw_ := Aside0.mk (show Below w.heap.size w w2 from below_step zac hb); have nw1_ := Aside0.mk (show Below w1.heap.size w1 w2 from below_step (by repeat (first | (with_reducible first | exact Bw1.out | apply pw_below_drewN | apply below_drew1) | exact Bw1.out)) hb); clear Bw; have Bw := nw_; clear nw_; clear Bw1; have Bw1 := nw1_; clear nw1_; have Kg2 := Aside0.mk hbox; clear hbox hg; (try clear hcg0_0 hfg0_0 hcg0_1 hfg0_1); have k_ := Aside0.mk (blk_below Kg0.out hb); clear Kg0; have Kg0 := k_; clear k_; clear hb; have Bw2 := Aside0.mk (Below.refl w2.heap.size w2); obtain ⟨hcg0_0, hcg0_1, hfg0_0, hfg0_1⟩ := qk2 Kg0.out; obtain ⟨hcg2_0, hcg2_1, hcg2_2, hcg2_3, hfg2_0, hfg2_1, hfg2_2, hfg2_3⟩ := qk4 Kg2.out; have K0 := Kg0; have K2 := Kg2; have L2 := Aside0.mk (blk_lt Kg2.out); have L0 := Aside0.mk (blk_lt Kg0.out)) | ((with_reducible refine gate_callee (f := 38) rfl ?_); refine qG (some 10) Try.func38 #[.agg #[.slice A0_0 l0_0.length c0_0, .slice A0_1 l0_1.length c0_1], .int .i64 0] ?_; refine impl_BestMeta.calls_world ?_; intro W1 hW; have nw_ := Aside0.mk (show Below w.heap.size w W1 from zeo); have nw2_ := Aside0.mk (show Below w2.heap.size w2 W1 from zep); clear Bw; have Bw := nw_; clear nw_; clear Bw2; have Bw2 := nw2_; clear nw2_; clear hW; have C0 := Kd.C_below HR0.out Bw.out; have C1 := Kd.C_below HR1.out Bw.out; (with_reducible refine (impl_ReadPage.calls k A0_0 c0_0 l0_0 A0_1 c0_1 l0_1 0 t W1 C0 HC0.out C1 HC1.out E1.out).mono ?_); rintro e w3 ⟨rfl, hb⟩; refine ⟨_, rfl, ?_⟩; clear C0 C1; have nw_ := Aside0.mk (show Below w.heap.size w w3 from below_step Bw.out hb); have nw2_ := Aside0.mk (show Below w2.heap.size w2 w3 from below_step Bw2.out hb); clear Bw; have Bw := nw_; clear nw_; clear Bw2; have Bw2 := nw2_; clear nw2_; (try clear hcg0_0 hfg0_0 hcg0_1 hfg0_1); (try clear hcg2_0 hfg2_0 hcg2_1 hfg2_1 hcg2_2 hfg2_2 hcg2_3 hfg2_3); clear Kg0 Kg2; have Kg0 := Aside0.mk (blk_below K0.out Bw2.out); have Kg2 := Aside0.mk (blk_below K2.out Bw2.out); obtain ⟨hcg0_0, hcg0_1, hfg0_0, hfg0_1⟩ := qk2 Kg0.out; obtain ⟨hcg2_0, hcg2_1, hcg2_2, hcg2_3, hfg2_0, hfg2_1, hfg2_2, hfg2_3⟩ := qk4 Kg2.out; clear hb) | ((with_reducible refine gate_callee (f := 7) rfl ?_); refine qG (some 11) Try.func7 #[.string t] ?_; refine impl_BestMeta.calls_world ?_; intro W2 hW; have nw_ := Aside0.mk (show Below w.heap.size w W2 from zeo); have nw2_ := Aside0.mk (show Below w2.heap.size w2 W2 from zep); clear Bw; have Bw := nw_; clear nw_; clear Bw2; have Bw2 := nw2_; clear nw2_; clear hW; have M2 := Aside0.mk (Nat.lt_of_lt_of_le L2.out Bw2.out.size); (with_reducible refine (impl_ReadMeta.calls k t x1 x2 x3 X4 _ W2 E2.out).mono ?_); rintro e w4 ⟨v4, rfl, ho, hb⟩; refine ⟨_, rfl, ?_⟩; obtain ⟨Ax, cx, ex⟩ := Kd.S_slice ho; subst ex; have HO1 := Aside0.mk ho; clear ho; have nw_ := Aside0.mk (show Below w.heap.size w w4 from below_step Bw.out hb); have nw2_ := Aside0.mk (show Below w2.heap.size w2 w4 from below_step Bw2.out hb); clear Bw; have Bw := nw_; clear nw_; clear Bw2; have Bw2 := nw2_; clear nw2_; have Bw4 := Aside0.mk (Below.refl w4.heap.size w4); (try clear hcg0_0 hfg0_0 hcg0_1 hfg0_1); (try clear hcg2_0 hfg2_0 hcg2_1 hfg2_1 hcg2_2 hfg2_2 hcg2_3 hfg2_3); clear Kg0 Kg2; have Kg0 := Aside0.mk (blk_below K0.out Bw2.out); have Kg2 := Aside0.mk (blk_below K2.out Bw2.out); obtain ⟨hcg0_0, hcg0_1, hfg0_0, hfg0_1⟩ := qk2 Kg0.out; obtain ⟨hcg2_0, hcg2_1, hcg2_2, hcg2_3, hfg2_0, hfg2_1, hfg2_2, hfg2_3⟩ := qk4 Kg2.out; clear hb) | ((with_reducible refine gate_dst (N := 4) rfl ?_); refine qB 4 #[.int .i64 0, .int .i64 0, .int .i64 0, .slice none 0 0] 24 ?_; intro ga hg w5 hbox hb; have Gga_w := Aside0.mk (show w.heap.size ≤ ga from zei); have Gga_w2 := Aside0.mk (show w2.heap.size ≤ ga from zel); have Gga_w4 := Aside0.mk (show w4.heap.size ≤ ga from zem); have nw_ := Aside0.mk (show Below w.heap.size w w5 from below_step zac hb); have nw2_ := Aside0.mk (show Below w2.heap.size w2 w5 from below_step zat hb); have nw4_ := Aside0.mk (show Below w4.heap.size w4 w5 from below_step zbo hb); clear Bw; have Bw := nw_; clear nw_; clear Bw2; have Bw2 := nw2_; clear nw2_; clear Bw4; have Bw4 := nw4_; clear nw4_; have Kga := Aside0.mk hbox; clear hbox hg; (try clear hcg0_0 hfg0_0 hcg0_1 hfg0_1); (try clear hcg2_0 hfg2_0 hcg2_1 hfg2_1 hcg2_2 hfg2_2 hcg2_3 hfg2_3); clear Kg0 Kg2; have Kg0 := Aside0.mk (blk_below K0.out Bw2.out); have Kg2 := Aside0.mk (blk_below K2.out Bw2.out); obtain ⟨hcg0_0, hcg0_1, hfg0_0, hfg0_1⟩ := qk2 Kg0.out; obtain ⟨hcg2_0, hcg2_1, hcg2_2, hcg2_3, hfg2_0, hfg2_1, hfg2_2, hfg2_3⟩ := qk4 Kg2.out; obtain ⟨hcga_0, hcga_1, hcga_2, hcga_3, hfga_0, hfga_1, hfga_2, hfga_3⟩ := qk4 Kga.out; have ng0ga : g0 ≠ ga := Nat.ne_of_lt (Nat.lt_of_lt_of_le L0.out Gga_w2.out); have ngag0 : ga ≠ g0 := fun e_ => ng0ga e_.symm; have ng2ga : g2 ≠ ga := Nat.ne_of_lt (Nat.lt_of_lt_of_le L2.out Gga_w2.out); have ngag2 : ga ≠ g2 := fun e_ => ng2ga e_.symm; clear hb) | ((with_reducible refine gate_callee (f := 38) rfl ?_); refine qG (some 16) Try.func38 #[.agg #[.slice A0_0 l0_0.length c0_0, .slice A0_1 l0_1.length c0_1], .int .i64 1] ?_; refine impl_BestMeta.calls_world ?_; intro W3 hW; have nw_ := Aside0.mk (show Below w.heap.size w W3 from (by rw [hW]; exact (by repeat (first | (with_reducible first | exact Bw.out | apply pw_below_drewN | apply below_drew1 | refine below_set ?_ Gga_w.out) | exact Bw.out)))); have nw2_ := Aside0.mk (show Below w2.heap.size w2 W3 from (by rw [hW]; exact (by repeat (first | (with_reducible first | exact Bw2.out | apply pw_below_drewN | apply below_drew1 | refine below_set ?_ Gga_w2.out) | exact Bw2.out)))); have nw4_ := Aside0.mk (show Below w4.heap.size w4 W3 from (by rw [hW]; exact (by repeat (first | (with_reducible first | exact Bw4.out | apply pw_below_drewN | apply below_drew1 | refine below_set ?_ Gga_w4.out) | exact Bw4.out)))); clear Bw; have Bw := nw_; clear nw_; clear Bw2; have Bw2 := nw2_; clear nw2_; clear Bw4; have Bw4 := nw4_; clear nw4_; have hka := (show W3.heap[ga]? = some (.cells #[.int .i64 x1, .int .i64 x2, .int .i64 x3, .slice Ax X4.length cx] 24 (0, 0)) from (by rw [hW]; exact (blk_set (blk_set (blk_set (blk_set Kga.out 0 (.int .i64 x1)) 1 (.int .i64 x2)) 2 (.int .i64 x3)) 3 (.slice Ax X4.length cx)).trans rfl)); clear Kga; have Kga := Aside0.mk hka; clear hka; clear hW; have C0 := Kd.C_below HR0.out Bw.out; have C1 := Kd.C_below HR1.out Bw.out; (with_reducible refine (impl_ReadPage.calls k A0_0 c0_0 l0_0 A0_1 c0_1 l0_1 1 u W3 C0 HC0.out C1 HC1.out E3.out).mono ?_); rintro e w6 ⟨rfl, hb⟩; refine ⟨_, rfl, ?_⟩; clear C0 C1; have nw_ := Aside0.mk (show Below w.heap.size w w6 from below_step Bw.out hb); have nw2_ := Aside0.mk (show Below w2.heap.size w2 w6 from below_step Bw2.out hb); have nw4_ := Aside0.mk (show Below w4.heap.size w4 w6 from below_step Bw4.out hb); clear Bw; have Bw := nw_; clear nw_; clear Bw2; have Bw2 := nw2_; clear nw2_; clear Bw4; have Bw4 := nw4_; clear nw4_; have k_ := Aside0.mk (blk_below Kga.out hb); clear Kga; have Kga := k_; clear k_; (try clear hcga_0 hfga_0 hcga_1 hfga_1 hcga_2 hfga_2 hcga_3 hfga_3); (try clear hcg0_0 hfg0_0 hcg0_1 hfg0_1); (try clear hcg2_0 hfg2_0 hcg2_1 hfg2_1 hcg2_2 hfg2_2 hcg2_3 hfg2_3); clear Kg0 Kg2; have Kg0 := Aside0.mk (blk_below K0.out Bw2.out); have Kg2 := Aside0.mk (blk_below K2.out Bw2.out); obtain ⟨hcg0_0, hcg0_1, hfg0_0, hfg0_1⟩ := qk2 Kg0.out; obtain ⟨hcg2_0, hcg2_1, hcg2_2, hcg2_3, hfg2_0, hfg2_1, hfg2_2, hfg2_3⟩ := qk4 Kg2.out; obtain ⟨hcga_0, hcga_1, hcga_2, hcga_3, hfga_0, hfga_1, hfga_2, hfga_3⟩ := qk4 Kga.out; clear hb) | ((with_reducible refine gate_callee (f := 7) rfl ?_); refine qG (some 17) Try.func7 #[.string u] ?_; refine impl_BestMeta.calls_world ?_; intro W4 hW; have nw_ := Aside0.mk (show Below w.heap.size w W4 from zeo); have nw2_ := Aside0.mk (show Below w2.heap.size w2 W4 from zep); have nw4_ := Aside0.mk (show Below w4.heap.size w4 W4 from (by rw [hW]; exact zbo)); clear Bw; have Bw := nw_; clear nw_; clear Bw2; have Bw2 := nw2_; clear nw2_; clear Bw4; have Bw4 := nw4_; clear nw4_; have hka := (show W4.heap[ga]? = some (.cells #[.int .i64 x1, .int .i64 x2, .int .i64 x3, .slice Ax X4.length cx] 24 (0, 0)) from (by rw [hW]; exact Kga.out)); clear Kga; have Kga := Aside0.mk hka; clear hka hW; have La := Aside0.mk (blk_lt Kga.out); have N2 := Aside0.mk Bw2.out.size; (with_reducible refine (impl_ReadMeta.calls k u y1 y2 y3 Y4 _ W4 E4.out).mono ?_); rintro e w7 ⟨v7, rfl, ho, hb⟩; refine ⟨_, rfl, ?_⟩; obtain ⟨Ay, cy, ey⟩ := Kd.S_slice ho; subst ey; have HO2 := Aside0.mk ho; clear ho; have M4 := Aside0.mk hb.size; have nw_ := Aside0.mk (show Below w.heap.size w w7 from below_step Bw.out hb); have nw2_ := Aside0.mk (show Below w2.heap.size w2 w7 from below_step Bw2.out hb); have nw4_ := Aside0.mk (show Below w4.heap.size w4 w7 from below_step Bw4.out hb); clear Bw; have Bw := nw_; clear nw_; clear Bw2; have Bw2 := nw2_; clear nw2_; clear Bw4; have Bw4 := nw4_; clear nw4_; have Bw7 := Aside0.mk (Below.refl w7.heap.size w7); have k_ := Aside0.mk (blk_below Kga.out hb); clear Kga; have Kga := k_; clear k_; (try clear hcga_0 hfga_0 hcga_1 hfga_1 hcga_2 hfga_2 hcga_3 hfga_3); (try clear hcg0_0 hfg0_0 hcg0_1 hfg0_1); (try clear hcg2_0 hfg2_0 hcg2_1 hfg2_1 hcg2_2 hfg2_2 hcg2_3 hfg2_3); clear Kg0 Kg2; have Kg0 := Aside0.mk (blk_below K0.out Bw2.out); have Kg2 := Aside0.mk (blk_below K2.out Bw2.out); obtain ⟨hcg0_0, hcg0_1, hfg0_0, hfg0_1⟩ := qk2 Kg0.out; obtain ⟨hcg2_0, hcg2_1, hcg2_2, hcg2_3, hfg2_0, hfg2_1, hfg2_2, hfg2_3⟩ := qk4 Kg2.out; obtain ⟨hcga_0, hcga_1, hcga_2, hcga_3, hfga_0, hfga_1, hfga_2, hfga_3⟩ := qk4 Kga.out; clear hb) | ((with_reducible refine gate_dst (N := 6) rfl ?_); refine qB 6 #[.int .i64 0, .int .i64 0, .int .i64 0, .slice none 0 0] 24 ?_; intro gb hg w8 hbox hb; have Ggb_w := Aside0.mk (show w.heap.size ≤ gb from zei); have Ggb_w2 := Aside0.mk (show w2.heap.size ≤ gb from zel); have Ggb_w4 := Aside0.mk (show w4.heap.size ≤ gb from zem); have Ggb_w7 := Aside0.mk (show w7.heap.size ≤ gb from (by rw [hg]; exact (below_size zdp))); have nw_ := Aside0.mk (show Below w.heap.size w w8 from below_step zac hb); have nw2_ := Aside0.mk (show Below w2.heap.size w2 w8 from below_step zat hb); have nw4_ := Aside0.mk (show Below w4.heap.size w4 w8 from below_step zbo hb); have nw7_ := Aside0.mk (show Below w7.heap.size w7 w8 from below_step zdp hb); clear Bw; have Bw := nw_; clear nw_; clear Bw2; have Bw2 := nw2_; clear nw2_; clear Bw4; have Bw4 := nw4_; clear nw4_; clear Bw7; have Bw7 := nw7_; clear nw7_; have Kgb := Aside0.mk hbox; clear hbox hg; have k_ := Aside0.mk (blk_below Kga.out hb); clear Kga; have Kga := k_; clear k_; (try clear hcga_0 hfga_0 hcga_1 hfga_1 hcga_2 hfga_2 hcga_3 hfga_3); (try clear hcg0_0 hfg0_0 hcg0_1 hfg0_1); (try clear hcg2_0 hfg2_0 hcg2_1 hfg2_1 hcg2_2 hfg2_2 hcg2_3 hfg2_3); clear Kg0 Kg2; have Kg0 := Aside0.mk (blk_below K0.out Bw2.out); have Kg2 := Aside0.mk (blk_below K2.out Bw2.out); obtain ⟨hcg0_0, hcg0_1, hfg0_0, hfg0_1⟩ := qk2 Kg0.out; obtain ⟨hcg2_0, hcg2_1, hcg2_2, hcg2_3, hfg2_0, hfg2_1, hfg2_2, hfg2_3⟩ := qk4 Kg2.out; obtain ⟨hcga_0, hcga_1, hcga_2, hcga_3, hfga_0, hfga_1, hfga_2, hfga_3⟩ := qk4 Kga.out; obtain ⟨_, _, _, _, _, _, _, _⟩ := qk4 Kgb.out; have ng0gb : g0 ≠ gb := Nat.ne_of_lt (Nat.lt_of_lt_of_le L0.out Ggb_w2.out); have ngbg0 : gb ≠ g0 := fun e_ => ng0gb e_.symm; have ng2gb : g2 ≠ gb := Nat.ne_of_lt (Nat.lt_of_lt_of_le L2.out Ggb_w2.out); have ngbg2 : gb ≠ g2 := fun e_ => ng2gb e_.symm; have ngagb : ga ≠ gb := Nat.ne_of_lt (Nat.lt_of_lt_of_le (Nat.lt_of_lt_of_le La.out M4.out) Ggb_w7.out); have ngbga : gb ≠ ga := fun e_ => ngagb e_.symm; clear hb))
    first
    | (have e_ : ((x1, x2, x3, X4, true) : Int × Int × Int × List (S60) × Bool) = (r1, r2, r3, r4, r5) := (if_pos (by first | exact ⟨trivial, .inl trivial⟩ | exact ⟨trivial, .inr HGE.out⟩)).symm.trans HP.out
       simp only [Prod.mk.injEq] at e_
       obtain ⟨rfl, rfl, rfl, rfl, rfl⟩ := e_
       refine bodyPost_ret (results_ct rfl _ _ g2 24 #[.int .i64 x1, .int .i64 x2, .int .i64 x3, .slice Ax X4.length cx] (0, 0) _ rfl (by refine blk_put (cs := #[.int .i64 x1, .int .i64 x2, .int .i64 x3, .slice none 0 0]) ?_ 3 _ rfl; refine blk_put (cs := #[.int .i64 x1, .int .i64 x2, .int .i64 0, .slice none 0 0]) ?_ 2 _ rfl; refine blk_put (cs := #[.int .i64 x1, .int .i64 0, .int .i64 0, .slice none 0 0]) ?_ 1 _ rfl; refine blk_put (cs := #[.int .i64 0, .int .i64 0, .int .i64 0, .slice none 0 0]) ?_ 0 _ rfl; refine blk_far ?_ ng2gb _; refine blk_far ?_ ng2gb _; refine blk_far ?_ ng2gb _; refine blk_far ?_ ng2gb _; exact Kg2.out) Try.underlying24 rfl za5) rfl ?_
       exact ⟨_, rfl, impl_BestMeta.row (fun k => k = g2 ∨ k = gb) HO1.out Bw4.out zcz (fun k h1 h2 h3 => h3.elim (fun e => by have := M2.out; omega) (fun e => by have := Ggb_w4.out; omega)) (by have := M2.out; have := Gg2_w.out; omega), zb2⟩)
    | (have e_ : ((y1, y2, y3, Y4, true) : Int × Int × Int × List (S60) × Bool) = (r1, r2, r3, r4, r5) := (if_pos trivial).symm.trans ((if_neg zc2).symm.trans HP.out)
       simp only [Prod.mk.injEq] at e_
       obtain ⟨rfl, rfl, rfl, rfl, rfl⟩ := e_
       refine bodyPost_ret (results_ct rfl _ _ g2 24 #[.int .i64 y1, .int .i64 y2, .int .i64 y3, .slice Ay Y4.length cy] (0, 0) _ rfl (by refine blk_put (cs := #[.int .i64 y1, .int .i64 y2, .int .i64 y3, .slice none 0 0]) ?_ 3 _ rfl; refine blk_put (cs := #[.int .i64 y1, .int .i64 y2, .int .i64 0, .slice none 0 0]) ?_ 2 _ rfl; refine blk_put (cs := #[.int .i64 y1, .int .i64 0, .int .i64 0, .slice none 0 0]) ?_ 1 _ rfl; refine blk_put (cs := #[.int .i64 0, .int .i64 0, .int .i64 0, .slice none 0 0]) ?_ 0 _ rfl; refine blk_far ?_ ng2gb _; refine blk_far ?_ ng2gb _; refine blk_far ?_ ng2gb _; refine blk_far ?_ ng2gb _; exact Kg2.out) Try.underlying24 rfl za5) rfl ?_
       exact ⟨_, rfl, impl_BestMeta.row (fun k => k = g2 ∨ k = gb) HO2.out Bw7.out zcz (fun k h1 h2 h3 => h3.elim (fun e => by have := L2.out; have := N2.out; omega) (fun e => by have := Ggb_w7.out; omega)) (by have := L2.out; have := N2.out; have := Gg2_w.out; omega), zb2⟩)
    | (have e_ : ((0, 0, 0, [], false) : Int × Int × Int × List (S60) × Bool) = (r1, r2, r3, r4, r5) := (if_neg (by intro h_; cases h_)).symm.trans ((if_neg zc2).symm.trans HP.out)
       simp only [Prod.mk.injEq] at e_
       obtain ⟨rfl, rfl, rfl, rfl, rfl⟩ := e_
       refine bodyPost_ret (results_ct rfl _ _ g2 24 #[.int .i64 0, .int .i64 0, .int .i64 0, .slice none 0 0] (0, 0) _ rfl (by refine blk_put (cs := #[.int .i64 0, .int .i64 0, .int .i64 0, .slice none 0 0]) ?_ 3 _ rfl; refine blk_put (cs := #[.int .i64 0, .int .i64 0, .int .i64 0, .slice none 0 0]) ?_ 2 _ rfl; refine blk_put (cs := #[.int .i64 0, .int .i64 0, .int .i64 0, .slice none 0 0]) ?_ 1 _ rfl; refine blk_put (cs := #[.int .i64 0, .int .i64 0, .int .i64 0, .slice none 0 0]) ?_ 0 _ rfl; refine blk_far ?_ ng2gb _; refine blk_far ?_ ng2gb _; refine blk_far ?_ ng2gb _; refine blk_far ?_ ng2gb _; exact Kg2.out) Try.underlying24 rfl za5) rfl ?_
       exact ⟨_, rfl, Kd.S_nil k60 60 _ _ _, zb2⟩))

/-! ### laws_big: function 17 -/
def laws_big.f (l0 : List Int) : Option (Bool) := some (decide ((l0.length : Int) > 1048576))
set_option maxHeartbeats 8000000 in
set_option maxRecDepth 100000 in
theorem laws_big.calls (A0 : Option Addr) (c0 : Nat) (l0 : List Int) (r : Bool) (w : World) (hr0 : Kd.C (Kd.int .u8) w A0 l0.length l0) (hc0 : l0.length ≤ c0) (h : laws_big.f l0 = some r) :
    Calls Try.prog 17 #[.slice A0 l0.length c0] w fun e w' => e = .returned (.bool r) ∧ Drawn0 w w' := by
  clear hr0 hc0
  have H : (some (decide ((l0.length : Int) > 1048576))) = some r := h
  clear h
  obtain rfl := Option.some.inj H
  go_enter Try.func17, Try.ntmps17
  go_wp2
  go_ret
  exact ⟨zd, z5⟩

end Go.Proofs.Yteokilffbcbllaa.VFnBest
