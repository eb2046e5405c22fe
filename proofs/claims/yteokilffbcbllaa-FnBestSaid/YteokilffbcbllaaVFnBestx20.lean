-- Written by a program of this repo (wip/myprint.py), over the kit's print; functions that the print does not take stand in it by hand-proved contracts.
import Derived.Test.YteokilffbcbllaaVFnBestx0
import Derived.Test.YteokilffbcbllaaVFnBestx4
import Derived.Test.YteokilffbcbllaaVFnBestx15
import Derived.Test.YteokilffbcbllaaVFnBestx18
import Derived.Test.YteokilffbcbllaaVFnBestx19
namespace Go.Proofs.Yteokilffbcbllaa.VFnBest
open Go.RowKit Go.Proofs.YteokilffbcbllaaW.PrintWords Go.Proofs.YteokilffbcbllaaW.PrintLast Go.Proofs.YteokilffbcbllaaW.PrintMore
attribute [local go_sem] max2_int min2_int max_two min_two max_three min_three max_four min_four   -- for this text's walks alone
attribute [local go_sem high] str_leq str_gtr str_geq str_lss
set_option linter.unusedVariables false
set_option linter.unusedSimpArgs false

/-! ### spec_DrawBestMeta: function 23 -/
def spec_DrawBestMeta.l0 : Nat → Int → List Int → Int → Int → List ByteArray → List (S83) → Option (List ByteArray × (List (S83)))
  | 0, _, _, _, _, _, _ => none
  | k + 1, x6, x423000, x423001, x423002, x431000, x431001 => if x6 < 2 then ((spec_l06Any.f k x423000 x423001 x423002).bind fun bt431 => ((spec_MetaText.f k bt431.1 bt431.2.1 bt431.2.2.1 bt431.2.2.2.1).bind fun bt439 => ((spec_l01Once.f x423000 bt431.2.2.2.2.1 bt431.2.2.2.2.2 5).bind fun bt441 => (if bt441.1 = true then ((spec_WritePage.f k x431000 x431001 x6 (⟨#[120]⟩ : ByteArray)).bind fun bt444 => (spec_DrawBestMeta.l0 k (wrap64 (x6 + 1)) x423000 bt441.2.1 bt441.2.2 bt444.1 bt444.2.1)) else ((spec_WritePage.f k x431000 x431001 x6 bt439.1).bind fun bt451 => (spec_DrawBestMeta.l0 k (wrap64 (x6 + 1)) x423000 bt441.2.1 bt441.2.2 bt451.1 bt451.2.1)))))) else ((spec_l01Once.f x423000 x423001 x423002 8).bind fun bt458 => (if bt458.1 = true then ((spec_l01Below.f x423000 bt458.2.1 bt458.2.2 2).bind fun bt461 => (if 0 ≤ bt461.1 then (if bt461.1 ≤ (x431000.length : Int) then (some ((x431000.take (bt461.1 : Int).toNat), x431001)) else (none)) else (none))) else (some (x431000, x431001))))
def spec_DrawBestMeta.f (k : Nat) (l0 : List Int) : Option (List ByteArray × (List (S83))) := (spec_l01New.f k l0).bind fun bt419 => ((spec_DiskNew.f 30).bind fun bt423 => (spec_DrawBestMeta.l0 k 0 bt419.1 bt419.2.1 bt419.2.2 bt423.1 bt423.2.1))
theorem spec_DrawBestMeta.mono_l : ∀ k, (∀ y0 y1 y2 y3 y4 y5, LeO (spec_DrawBestMeta.l0 k y0 y1 y2 y3 y4 y5) (spec_DrawBestMeta.l0 (k + 1) y0 y1 y2 y3 y4 y5))
  | 0 => fun _ _ _ _ _ _ r h => by simp [spec_DrawBestMeta.l0] at h
  | k + 1 => by
    have ih0 := spec_DrawBestMeta.mono_l k
    · intro y0 y1 y2 y3 y4 y5
      unfold spec_DrawBestMeta.l0
      exact qv
theorem spec_DrawBestMeta.mono : ∀ a0 k, LeO (spec_DrawBestMeta.f k a0) (spec_DrawBestMeta.f (k + 1) a0) := by
  intro a0 k
  have ih0 := spec_DrawBestMeta.mono_l k
  unfold spec_DrawBestMeta.f
  exact qv
set_option maxHeartbeats 8000000 in
set_option maxRecDepth 100000 in
theorem spec_DrawBestMeta.calls (k : Nat) (A0 : Option Addr) (c0 : Nat) (l0 : List Int) (r1 : List ByteArray) (r2 : List (S83)) (w : World) (hr0 : Kd.C (Kd.int .u8) w A0 l0.length l0) (hc0 : l0.length ≤ c0) (h : spec_DrawBestMeta.f k l0 = some (r1, r2)) :
    Calls Try.prog 23 #[.slice A0 l0.length c0] w fun e w' => ∃ v0_ v1_ : Value, e = .returned (.agg #[v0_, v1_]) ∧ Kd.R Kd.string 9 w' w.heap.size (fun _ => True) v0_ r1 ∧ Kd.R k83 83 w' w.heap.size (fun _ => True) v1_ r2 ∧ Below w.heap.size w w' := by
  have hu38 := Try.underlying38
  have HR0 := Aside0.mk hr0
  have HC0 := Aside0.mk hc0
  clear hr0 hc0
  have HB := Aside0.mk (Below.refl w.heap.size w)
  unfold spec_DrawBestMeta.f at h
  have H := h
  clear h
  replace H := qi H
  obtain ⟨⟨t419, t420, t421⟩, A2, H⟩ := H
  dsimp only at H
  replace H := qi H
  obtain ⟨⟨t423, t426, t429⟩, A3, H⟩ := H
  dsimp only at H
  have H' := Aside0.mk H
  clear H
  go_enter Try.func23, Try.ntmps23
  go_wp2_with (first | ((with_reducible refine gate_dst (N := 2) rfl ?_); refine qB 2 #[.slice none 0 0, .slice none 0 0] 38 ?_; intro gb418 hg w4 hbox hb; have BK418 := Aside0.mk (hbox); have GW418 := Aside0.mk ((zef : w.heap.size ≤ gb418)); have GE418 := GW418; replace HB := Aside0.mk (below_step za hb); clear hb hbox hg) | ((with_reducible refine gate_callee (f := 44) rfl ?_); refine qG (some 10) Try.func44 #[.slice A0 l0.length c0] ?_; (with_reducible refine (spec_l01New.calls k _ _ l0 t419 t420 t421 w _ ?side1 ?side2 ?side3 A2.out).mono ?_); (case side1 => exact (by repeat (first | (with_reducible first | exact HB.out | apply below_alloc | apply pw_below_drewN | apply below_drew1 | refine below_set ?_ GE418.out) | exact HB.out))); (case side2 => exact HR0.out); (case side3 => exact HC0.out); rintro e w5 ⟨g422, rfl, hi, hb, hb2⟩; refine ⟨_, rfl, ?_⟩; replace HB := Aside0.mk (hb); have HI422 := Aside0.mk (hi); have NB422_418 := Aside0.mk (IsS102.ne_blk hi (bB BK418.out hb2) zbf); have NB418_422 := Aside0.mk (Ne.symm (IsS102.ne_blk hi (bB BK418.out hb2) zbf)); replace BK418 := Aside0.mk (bB BK418.out hb2); try clear hb hb2 hi) | ((with_reducible refine gate_callee (f := 19) rfl ?_); refine qG (some 12) Try.func19 #[.int .i64 30] ?_; (with_reducible refine (spec_DiskNew.calls 30 t423 t426 t429 _ A3.out).mono ?_); rintro e w6 ⟨v424, v427, rfl, ho0, ho1, hb⟩; refine ⟨_, rfl, ?_⟩; have HO425 := Aside0.mk (Kd.R_lower ho0 (below_size zbu)); have HO428 := Aside0.mk (Kd.R_lower ho1 (below_size zbu)); replace BK418 := Aside0.mk (bB BK418.out hb); replace HB := Aside0.mk (below_step zbu hb); replace HI422 := Aside0.mk (IsS102.below (by repeat (first | (with_reducible first | exact HI422.out | apply IsS102.alloc | apply IsS102.drewN | apply IsS102.drew | apply IsS102.set_1 | apply IsS102.set_2 | apply IsS102.far (hne := NB422_418.out)) | apply IsS102.far (hne := NB422_418.out) | exact HI422.out)) hb); try clear hb ho0 ho1) | ((with_reducible refine gate_dst (N := 4) rfl ?_); refine qB 4 #[.slice none 0 0, .slice none 0 0] 38 ?_; intro gb430 hg w7 hbox hb; replace HO425 := Aside0.mk (Kd.R_below (by (with_reducible repeat (first | apply Kd.R_alloc | apply Kd.R_drewN | apply Kd.R_drew)); exact HO425.out) hb); replace HO428 := Aside0.mk (Kd.R_below (by (with_reducible repeat (first | apply Kd.R_alloc | apply Kd.R_drewN | apply Kd.R_drew)); exact HO428.out) hb); have BK430 := Aside0.mk (hbox); have GW430 := Aside0.mk ((by rw [hg]; exact (below_size zbu) : w.heap.size ≤ gb430)); have GE430 := GW430; replace HB := Aside0.mk (below_step zbu hb); have NB418_430 := Aside0.mk ((by rw [hg]; exact Nat.ne_of_lt (bL BK418.out) : gb418 ≠ gb430)); have NB430_418 := Aside0.mk NB418_430.out.symm; replace BK418 := Aside0.mk (bB BK418.out hb); have NB422_430 := Aside0.mk ((by rw [hg]; exact Nat.ne_of_lt (IsS102.lt (show IsS102 w _ g422 t419 t420 t421 from by repeat (first | (with_reducible first | exact HI422.out | apply IsS102.alloc | apply IsS102.drewN | apply IsS102.drew | apply IsS102.set_1 | apply IsS102.set_2 | apply IsS102.far (hne := NB422_418.out)) | apply IsS102.far (hne := NB422_418.out) | exact HI422.out))) : g422 ≠ gb430)); have NB430_422 := Aside0.mk NB422_430.out.symm; replace HI422 := Aside0.mk (IsS102.below (by repeat (first | (with_reducible first | exact HI422.out | apply IsS102.alloc | apply IsS102.drewN | apply IsS102.drew | apply IsS102.set_1 | apply IsS102.set_2 | apply IsS102.far (hne := NB422_418.out)) | apply IsS102.far (hne := NB422_418.out) | exact HI422.out)) hb); clear hb hbox hg; obtain ⟨Ao8, co8, eo8⟩ := Kd.R_slice HO425.out; subst eo8; have hnb9 := NB430_418.out; have hnc9 := NB418_430.out; have hnb10 := NB430_422.out; have hnc10 := NB422_430.out; obtain ⟨hcz11_0, hcz11_1, hfz11_0, hfz11_1⟩ := qk2 BK430.out; obtain ⟨Ao12, co12, eo12⟩ := Kd.R_slice HO428.out; subst eo12))
  go_loopg [6] k (fun kq v6 w' => ∃ (x6_1 : Int) (x423001_1 : Int) (x423002_1 : Int) (x431000_1 : List ByteArray) (x431001_1 : List (S83)) (u431000 : Value) (u431001 : Value), v6 = .int .i64 x6_1 ∧ Aside0 (spec_DrawBestMeta.l0 kq x6_1 t419 x423001_1 x423002_1 x431000_1 x431001_1 = some (r1, r2)) ∧ Aside0 (kq ≤ k) ∧ Aside0 (Kd.R Kd.string 9 w' w.heap.size (fun _ => True) u431000 x431000_1) ∧ Aside0 (Kd.R k83 83 w' w.heap.size (fun _ => True) u431001 x431001_1) ∧ Aside0 (w'.heap[gb418]? = some (.cells #[(.slice none 0 0), (.slice none 0 0)] 38 (0, 0))) ∧ Aside0 (w'.heap[gb430]? = some (.cells #[u431000, u431001] 38 (0, 0))) ∧ Aside0 (IsS102 w w' g422 t419 x423001_1 x423002_1) ∧ Aside0 (Below w.heap.size w w'))
  case atStart => exact ⟨(0), (t420), (t421), (t423), (t426), (.slice Ao8 t423.length co8), (.slice Ao12 t426.length co12), zd, H', ⟨Nat.le_refl _⟩, ⟨Kd.R_mono (rK HO425.out BK430.out) (fun _ _ => trivial)⟩, ⟨Kd.R_mono (rK HO428.out BK430.out) (fun _ _ => trivial)⟩, ⟨zbi⟩, ⟨by (with_reducible repeat (first | refine blk_drewN ?_ _ | refine blk_drew ?_ | refine blk_alloc ?_ _)); refine blk_put (cs := #[.slice Ao8 t423.length co8, .slice none 0 0]) ?_ 1 _ rfl; (with_reducible repeat (first | refine blk_drewN ?_ _ | refine blk_drew ?_ | refine blk_alloc ?_ _)); refine blk_put (cs := #[.slice none 0 0, .slice none 0 0]) ?_ 0 _ rfl; (with_reducible repeat (first | refine blk_drewN ?_ _ | refine blk_drew ?_ | refine blk_alloc ?_ _)); exact BK430.out⟩, ⟨zj⟩, ⟨zh⟩⟩
  case round =>
    clear H'
    (try clear hcz11_0 hcz11_1 hfz11_0 hfz11_1)
    try clear BK418 BK430 HI422 HB
    obtain ⟨x6_1, x423001_1, x423002_1, x431000_1, x431001_1, u431000, u431001, rfl, HA, HK1, HO_431000, HO_431001, BK418, BK430, HI422, HB⟩ := hrel
    cases gk with
    | zero => exact absurd HA.out (by simp [spec_DrawBestMeta.l0])
    | succ k1 =>
      have H := HA.out
      clear HA
      simp only [spec_DrawBestMeta.l0] at H
      by_cases c13 : x6_1 < 2
      case neg =>
        rw [if_neg c13] at H
        have c13b0 := decide_eq_false c13
        clear c13
        replace H := qi H
        obtain ⟨⟨t458, t459, t460⟩, A46, H⟩ := H
        dsimp only at H
        by_cases c47 : t458 = true
        case neg =>
          replace c47 := Bool.eq_false_iff.mpr c47
          subst c47
          rw [if_neg (qj)] at H
          simp only [Option.some.injEq, Prod.mk.injEq] at H
          obtain ⟨rfl, rfl⟩ := H
          go_wp2_with (first | ((with_reducible refine gate_callee (f := 52) rfl ?_); refine qG (some 35) Try.func52 #[.pointer (some ⟨g422, 0, none⟩), .int .i64 8] ?_; (with_reducible refine (spec_l01Once.calls g422 t419 x423001_1 x423002_1 8 false t459 t460 w _ ?side1 ?side2 A46.out).mono ?_); (case side1 => exact zj); (case side2 => exact zh); rintro e w63 ⟨rfl, hi, hb, hk⟩; refine ⟨_, rfl, ?_⟩; replace HO_431000 := Aside0.mk (Kd.R_mono (Kd.R_keep (IsS102.apart (show IsS102 w _ g422 t419 x423001_1 x423002_1 from by repeat (first | (with_reducible first | exact HI422.out | apply IsS102.alloc | apply IsS102.drewN | apply IsS102.drew | apply IsS102.set_1 | apply IsS102.set_2 | apply IsS102.far (hne := NB422_418.out) | apply IsS102.far (hne := NB422_430.out)) | apply IsS102.far (hne := NB422_418.out) | apply IsS102.far (hne := NB422_430.out) | exact HI422.out)) za7 zbf) hk (fun _ h => h.2)) (fun _ h => h.1)); replace HO_431001 := Aside0.mk (Kd.R_mono (Kd.R_keep (IsS102.apart (show IsS102 w _ g422 t419 x423001_1 x423002_1 from by repeat (first | (with_reducible first | exact HI422.out | apply IsS102.alloc | apply IsS102.drewN | apply IsS102.drew | apply IsS102.set_1 | apply IsS102.set_2 | apply IsS102.far (hne := NB422_418.out) | apply IsS102.far (hne := NB422_430.out)) | apply IsS102.far (hne := NB422_418.out) | apply IsS102.far (hne := NB422_430.out) | exact HI422.out)) za8 zbf) hk (fun _ h => h.2)) (fun _ h => h.1)); replace BK418 := Aside0.mk (KeepBut.blk hk (bP BK418.out) NB418_422.out zdw); replace BK430 := Aside0.mk (KeepBut.blk hk (bP BK430.out) NB430_422.out zdw); replace HB := Aside0.mk (hb); replace HI422 := Aside0.mk (hi); try clear hb hk hi; have hnb64 := NB430_418.out; have hnc64 := NB418_430.out; have hnb65 := NB430_422.out; have hnc65 := NB422_430.out; obtain ⟨_, _, _, _⟩ := qk2 BK430.out; obtain ⟨Ao67, co67, eo67⟩ := Kd.R_slice HO_431000.out; subst eo67; have hnb68 := NB418_422.out; have hnc68 := NB422_418.out; obtain ⟨_, _, _, _⟩ := qk2 BK418.out; obtain ⟨Ao70, co70, eo70⟩ := Kd.R_slice HO_431001.out; subst eo70))
          refine bodyPost_ret (results_cell_row rfl _ _ gb418 38 #[.slice Ao67 x431000_1.length co67, .slice Ao70 x431001_1.length co70] (0, 0) _ rfl (p2 BK418.out) Try.underlying38 rfl za5) rfl ?_
          exact ⟨_, _, zc, Kd.R_mono (rK HO_431000.out BK418.out) (fun _ _ => trivial), Kd.R_mono (rK HO_431001.out BK418.out) (fun _ _ => trivial), zh⟩

        subst c47
        rw [if_pos rfl] at H
        replace H := qi H
        obtain ⟨⟨t461, t462, t463⟩, A48, H⟩ := H
        dsimp only at H
        by_cases c49 : 0 ≤ t461
        case neg => exact qn c49 H
        rw [if_pos c49] at H
        have c49b0 := eq_true c49
        have c49b1 := decide_eq_true c49
        clear c49
        by_cases c50 : t461 ≤ (x431000_1.length : Int)
        case neg => exact qn c50 H
        rw [if_pos c50] at H
        have c50b0 := eq_true c50
        have c50b1 := decide_eq_true c50
        clear c50
        obtain ⟨y464, hy464⟩ : ∃ y_ : List ByteArray, y_ = (x431000_1.take (t461 : Int).toNat) := ⟨_, rfl⟩
        replace H : (some (y464, x431001_1)) = some (r1, r2) := by first | (rw [hy464]; with_reducible exact H) | (have H2_ := (Option.bind_some _ _).symm.trans H; rw [hy464]; with_reducible exact H2_) | (have H2_ := (Option.bind_some _ _).symm.trans H; with_reducible exact H2_) | with_reducible exact H | (rw [hy464]; exact H) | exact H
        have Ny464 := Aside0.mk hy464
        clear hy464
        simp only [Option.some.injEq, Prod.mk.injEq] at H
        obtain ⟨rfl, rfl⟩ := H
        try go_wp2_with (first | ((with_reducible refine gate_callee (f := 52) rfl ?_); refine qG (some 35) Try.func52 #[.pointer (some ⟨g422, 0, none⟩), .int .i64 8] ?_; (with_reducible refine (spec_l01Once.calls g422 t419 x423001_1 x423002_1 8 true t459 t460 w _ ?side1 ?side2 A46.out).mono ?_); (case side1 => exact zj); (case side2 => exact zh); rintro e w51 ⟨rfl, hi, hb, hk⟩; refine ⟨_, rfl, ?_⟩; replace HO_431000 := Aside0.mk (Kd.R_mono (Kd.R_keep (IsS102.apart (show IsS102 w _ g422 t419 x423001_1 x423002_1 from by repeat (first | (with_reducible first | exact HI422.out | apply IsS102.alloc | apply IsS102.drewN | apply IsS102.drew | apply IsS102.set_1 | apply IsS102.set_2 | apply IsS102.far (hne := NB422_418.out) | apply IsS102.far (hne := NB422_430.out)) | apply IsS102.far (hne := NB422_418.out) | apply IsS102.far (hne := NB422_430.out) | exact HI422.out)) za7 zbf) hk (fun _ h => h.2)) (fun _ h => h.1)); replace HO_431001 := Aside0.mk (Kd.R_mono (Kd.R_keep (IsS102.apart (show IsS102 w _ g422 t419 x423001_1 x423002_1 from by repeat (first | (with_reducible first | exact HI422.out | apply IsS102.alloc | apply IsS102.drewN | apply IsS102.drew | apply IsS102.set_1 | apply IsS102.set_2 | apply IsS102.far (hne := NB422_418.out) | apply IsS102.far (hne := NB422_430.out)) | apply IsS102.far (hne := NB422_418.out) | apply IsS102.far (hne := NB422_430.out) | exact HI422.out)) za8 zbf) hk (fun _ h => h.2)) (fun _ h => h.1)); replace BK418 := Aside0.mk (KeepBut.blk hk (bP BK418.out) NB418_422.out zdw); replace BK430 := Aside0.mk (KeepBut.blk hk (bP BK430.out) NB430_422.out zdw); replace HB := Aside0.mk (hb); replace HI422 := Aside0.mk (hi); try clear hb hk hi))
        replace HO_431000 := Aside0.mk (Kd.R_drew HO_431000.out)
        replace HO_431001 := Aside0.mk (Kd.R_drew HO_431001.out)
        replace BK418 := Aside0.mk (blk_drew BK418.out)
        replace BK430 := Aside0.mk (blk_drew BK430.out)
        replace HI422 := Aside0.mk (IsS102.drew HI422.out)
        replace HB := Aside0.mk (below_drew1 HB.out)
        refine start_ (n := 7) (S := fun w' => w'.cell? ⟨gb430, 0, none⟩ = some (u431000) ∧ w'.cell? ⟨gb430, 1, none⟩ = some (u431001)) (ds := [6]) (bz 7 0) za5 rfl rfl ⟨qx BK430 0, qx BK430 1⟩ (fun hHeld => ?_)
        generalize w51.drew = w52 at HO_431000 HO_431001 BK418 BK430 HI422 HB hHeld ⊢
        refine pure_ (i := 0) (N := some 36) (v := ?_) (a' := ?_) (bz 7 1) rfl rfl za5 (fun _ _ _ h => h) (Or.inl ⟨zdy, ?_⟩) ?_ ?_; rotate_left; (intro w'; go_simp; with_reducible rfl); rotate_left; (simp only [Act.put, qa, qb, qc, i64_w, i32_w]; rfl)
        refine pure_ (i := 2) (N := some 38) (v := ?_) (a' := ?_) (bz 7 5) rfl rfl za5 (fun _ _ _ h => h) (Or.inl ⟨zdy, ?_⟩) ?_ ?_; rotate_left; (intro w'; go_simp; with_reducible rfl); rotate_left; (simp only [Act.put, qa, qb, qc, i64_w, i32_w]; rfl)
        refine take_ (i := 1) (N := some 37) (v := ?_) (a' := ?_) (bz 7 7) rfl rfl za5 (fun _ _ _ h => h) (Or.inl ⟨zdy, ?_⟩) hHeld ?_ ?_; rotate_left; (rintro w' ⟨s0, s1⟩; go_simp; with_reducible rfl); rotate_left; (simp only [Act.put, qa, qb, qc, i64_w, i32_w]; rfl)
        refine one_ (i := 3) (N := some 39) (bz 7 15) rfl rfl za5 zbf (fun K hK => ?_)
        refine goes_ Try.func53 za5 rfl #[.pointer (some ⟨g422, 0, none⟩), .int .i64 2] zdy rfl rfl zv ?_
        with_reducible refine (spec_l01Below.calls g422 t419 t459 t460 2 t461 t462 t463 w _ ?side1 ?side2 A48.out).mono ?_
        (case side1 => exact zj)
        (case side2 => exact zh)
        rintro e w53 ⟨rfl, hi, hb, hk⟩
        refine ⟨_, rfl, ?_⟩
        replace HO_431000 := Aside0.mk (Kd.R_mono (Kd.R_keep (IsS102.apart (show IsS102 w _ g422 t419 t459 t460 from by repeat (first | (with_reducible first | exact HI422.out | apply IsS102.alloc | apply IsS102.drewN | apply IsS102.drew | apply IsS102.set_1 | apply IsS102.set_2 | apply IsS102.far (hne := NB422_418.out) | apply IsS102.far (hne := NB422_430.out)) | apply IsS102.far (hne := NB422_418.out) | apply IsS102.far (hne := NB422_430.out) | exact HI422.out)) za7 zbf) hk (fun _ h => h.2)) (fun _ h => h.1))
        replace HO_431001 := Aside0.mk (Kd.R_mono (Kd.R_keep (IsS102.apart (show IsS102 w _ g422 t419 t459 t460 from by repeat (first | (with_reducible first | exact HI422.out | apply IsS102.alloc | apply IsS102.drewN | apply IsS102.drew | apply IsS102.set_1 | apply IsS102.set_2 | apply IsS102.far (hne := NB422_418.out) | apply IsS102.far (hne := NB422_430.out)) | apply IsS102.far (hne := NB422_418.out) | apply IsS102.far (hne := NB422_430.out) | exact HI422.out)) za8 zbf) hk (fun _ h => h.2)) (fun _ h => h.1))
        replace BK418 := Aside0.mk (KeepBut.blk hk (bP BK418.out) NB418_422.out zdw)
        replace BK430 := Aside0.mk (KeepBut.blk hk (bP BK430.out) NB430_422.out zdw)
        replace HB := Aside0.mk (hb)
        replace HI422 := Aside0.mk (hi)
        try clear hb hk hi
        obtain ⟨Ao54, co54, eo54⟩ := Kd.R_slice HO_431000.out
        (first | subst eo54 | (injection eo54 with f1_ f2_ f3_; have f4_ := f1_.symm; have f5_ := f3_.symm; clear f1_ f2_ f3_; subst f4_; subst f5_))
        have q55 : (t461 : Int) ≤ ((x431000_1.length : Int) : Int) := of_decide_eq_true zb
        obtain ⟨i055, hi055, _, hsz55, _⟩ := info_parts info9
        have hcut55 := cut_to (P := Try.prog) 30 9 .i64 Try.underlying30 hi055 Ao54 x431000_1.length co54 t461 (of_decide_eq_true zb) q55 (Kd.R_reads' HO_431000.out).2.1
        have hr55 := Kd.R_take (m := (t461 : Int).toNat) HO_431000.out zd4
        have hy55 : y464.length = (t461 : Int).toNat := (by rw [Ny464.out, List.length_take]; omega)
        rw [← Ny464.out] at hr55
        rw [← hy55] at hr55 hcut55
        clear hy55 hi055 hsz55 HO_431000
        have HO466 := Aside0.mk hr55
        clear hr55
        replace q55 := eq_true q55
        refine hK.out _ _ ⟨qx BK430 0, qx BK430 1⟩ (fun hHeld => ?_)
        clear hK K
        refine qr (some 39) ?_
        refine pure_ (i := 4) (N := some 40) (v := ?_) (a' := ?_) (bz 7 31) rfl rfl za5 (fun _ _ _ h => h) (Or.inl ⟨zdy, ?_⟩) ?_ ?_; rotate_left; (intro w'; go_simp; with_reducible rfl); rotate_left; (simp only [Act.put, qa, qb, qc, i64_w, i32_w]; rfl)
        refine pure_ (i := 5) (N := some 41) (v := ?_) (a' := ?_) (bz 7 63) rfl rfl za5 (fun _ _ _ h => h) (Or.inl ⟨zdy, ?_⟩) ?_ ?_; rotate_left; (intro w'; go_simp; with_reducible rfl); rotate_left; (simp only [Act.put, qa, qb, qc, i64_w, i32_w]; rfl)
        refine last_ (i := 6) (N := none) (bz 7 127) rfl rfl za5 zbf (fun K hK => ?_)
        have hs56 : w53.cell? ⟨gb430, 0, none⟩ = some (.slice Ao54 x431000_1.length co54) := qx BK430 0
        have hfs56 := blk_frozen BK430.out 0
        have hns56_0 := NB418_430.out
        have hms56_0 := NB430_418.out
        refine skip_ (w1 := ?_) zdy rfl ?_ ?_
        rotate_left
        · go_simp
          rfl
        refine hK.out _ _ ?_
        clear hK K
        refine done_ za5 ?_
        have hnb57 := NB430_418.out
        have hnc57 := NB418_430.out
        have hnb58 := NB430_422.out
        have hnc58 := NB422_430.out
        obtain ⟨_, _, _, _⟩ := qk2 BK430.out
        have hnb60 := NB418_422.out
        have hnc60 := NB422_418.out
        obtain ⟨_, _, _, _⟩ := qk2 BK418.out
        obtain ⟨Ao62, co62, eo62⟩ := Kd.R_slice HO_431001.out
        subst eo62
        try go_wp2
        refine bodyPost_ret (results_cell_row rfl _ _ gb418 38 #[.slice Ao54 y464.length co54, .slice Ao62 x431001_1.length co62] (0, 0) _ rfl (p2 (blk_far BK418.out NB418_430.out _)) Try.underlying38 rfl za5) rfl ?_
        exact ⟨_, _, zc, Kd.R_mono (rK2 HO466.out BK430.out BK418.out) (fun _ _ => trivial), Kd.R_mono (rK2 HO_431001.out BK430.out BK418.out) (fun _ _ => trivial), zh⟩
      rw [if_pos c13] at H
      have c13b0 := decide_eq_true c13
      clear c13
      replace H := qi H
      obtain ⟨⟨t431, t432, t433, t434, t437, t438⟩, A14, H⟩ := H
      dsimp only at H
      replace H := qi H
      obtain ⟨⟨t439, t440⟩, A15, H⟩ := H
      dsimp only at H
      replace H := qi H
      obtain ⟨⟨t441, t442, t443⟩, A16, H⟩ := H
      dsimp only at H
      by_cases c17 : t441 = true
      case neg =>
        replace c17 := Bool.eq_false_iff.mpr c17
        subst c17
        rw [if_neg (qj)] at H
        replace H := qi H
        obtain ⟨⟨t451, t454, t457⟩, A32, H⟩ := H
        dsimp only at H
        have H' := Aside0.mk H
        clear H
        go_wp2_with (first | ((with_reducible refine gate_callee (f := 51) rfl ?_); refine qG (some 21) Try.func51 #[.pointer (some ⟨g422, 0, none⟩)] ?_; (with_reducible refine (spec_l06Any.calls k1 g422 t419 x423001_1 x423002_1 t431 t432 t433 t434 t437 t438 w _ ?side1 ?side2 A14.out).mono ?_); (case side1 => exact zj); (case side2 => exact zh); rintro e w33 ⟨v435, rfl, ho0, hi, hb, hk⟩; refine ⟨_, rfl, ?_⟩; replace HO_431000 := Aside0.mk (Kd.R_mono (Kd.R_keep (IsS102.apart (show IsS102 w _ g422 t419 x423001_1 x423002_1 from by repeat (first | (with_reducible first | exact HI422.out | apply IsS102.alloc | apply IsS102.drewN | apply IsS102.drew | apply IsS102.set_1 | apply IsS102.set_2 | apply IsS102.far (hne := NB422_418.out) | apply IsS102.far (hne := NB422_430.out)) | apply IsS102.far (hne := NB422_418.out) | apply IsS102.far (hne := NB422_430.out) | exact HI422.out)) za7 zbf) hk (fun _ h => h.2)) (fun _ h => h.1)); replace HO_431001 := Aside0.mk (Kd.R_mono (Kd.R_keep (IsS102.apart (show IsS102 w _ g422 t419 x423001_1 x423002_1 from by repeat (first | (with_reducible first | exact HI422.out | apply IsS102.alloc | apply IsS102.drewN | apply IsS102.drew | apply IsS102.set_1 | apply IsS102.set_2 | apply IsS102.far (hne := NB422_418.out) | apply IsS102.far (hne := NB422_430.out)) | apply IsS102.far (hne := NB422_418.out) | apply IsS102.far (hne := NB422_430.out) | exact HI422.out)) za8 zbf) hk (fun _ h => h.2)) (fun _ h => h.1)); replace BK418 := Aside0.mk (KeepBut.blk hk (bP BK418.out) NB418_422.out zdw); replace BK430 := Aside0.mk (KeepBut.blk hk (bP BK430.out) NB430_422.out zdw); have HO436 := Aside0.mk (Kd.S_lower ho0 (below_size zh)); replace HB := Aside0.mk (hb); replace HI422 := Aside0.mk (hi); try clear hb hk hi ho0; obtain ⟨Ao34, co34, eo34⟩ := Kd.S_slice HO436.out; subst eo34) | ((with_reducible refine gate_callee (f := 20) rfl ?_); refine qG (some 22) Try.func20 #[.agg #[.int .i64 t431, .int .i64 t432, .int .i64 t433, .slice Ao34 t434.length co34]] ?_; (with_reducible refine (spec_MetaText.calls k1 t431 t432 t433 _ _ t434 t439 t440 _ ?side1 ?side2 A15.out).mono ?_); (case side1 => exact (by repeat (first | exact (Kd.S_reads' HO436.out).2.2 | (with_reducible refine Kd.C_alloc ?_ _) | (with_reducible refine Kd.C_drewN ?_ _) | (with_reducible refine Kd.C_drew ?_)))); (case side2 => exact (Kd.S_reads' HO436.out).2.1); rintro e w35 ⟨rfl, hb⟩; refine ⟨_, rfl, ?_⟩; replace HO_431000 := Aside0.mk (Kd.R_below za7 hb); replace HO_431001 := Aside0.mk (Kd.R_below za8 hb); replace BK418 := Aside0.mk (bB BK418.out hb); replace BK430 := Aside0.mk (bB BK430.out hb); replace HB := Aside0.mk (below_step zh hb); replace HI422 := Aside0.mk (IsS102.below zj hb); try clear hb) | ((with_reducible refine gate_callee (f := 52) rfl ?_); refine qG (some 26) Try.func52 #[.pointer (some ⟨g422, 0, none⟩), .int .i64 5] ?_; (with_reducible refine (spec_l01Once.calls g422 t419 t437 t438 5 false t442 t443 w _ ?side1 ?side2 A16.out).mono ?_); (case side1 => exact zj); (case side2 => exact zh); rintro e w36 ⟨rfl, hi, hb, hk⟩; refine ⟨_, rfl, ?_⟩; replace HO_431000 := Aside0.mk (Kd.R_mono (Kd.R_keep (IsS102.apart (show IsS102 w _ g422 t419 t437 t438 from by repeat (first | (with_reducible first | exact HI422.out | apply IsS102.alloc | apply IsS102.drewN | apply IsS102.drew | apply IsS102.set_1 | apply IsS102.set_2 | apply IsS102.far (hne := NB422_418.out) | apply IsS102.far (hne := NB422_430.out)) | apply IsS102.far (hne := NB422_418.out) | apply IsS102.far (hne := NB422_430.out) | exact HI422.out)) za7 zbf) hk (fun _ h => h.2)) (fun _ h => h.1)); replace HO_431001 := Aside0.mk (Kd.R_mono (Kd.R_keep (IsS102.apart (show IsS102 w _ g422 t419 t437 t438 from by repeat (first | (with_reducible first | exact HI422.out | apply IsS102.alloc | apply IsS102.drewN | apply IsS102.drew | apply IsS102.set_1 | apply IsS102.set_2 | apply IsS102.far (hne := NB422_418.out) | apply IsS102.far (hne := NB422_430.out)) | apply IsS102.far (hne := NB422_418.out) | apply IsS102.far (hne := NB422_430.out) | exact HI422.out)) za8 zbf) hk (fun _ h => h.2)) (fun _ h => h.1)); replace BK418 := Aside0.mk (KeepBut.blk hk (bP BK418.out) NB418_422.out zdw); replace BK430 := Aside0.mk (KeepBut.blk hk (bP BK430.out) NB430_422.out zdw); replace HB := Aside0.mk (hb); replace HI422 := Aside0.mk (hi); try clear hb hk hi; have hnb37 := NB430_418.out; have hnc37 := NB418_430.out; have hnb38 := NB430_422.out; have hnc38 := NB422_430.out; obtain ⟨_, _, _, _⟩ := qk2 BK430.out; obtain ⟨Ao40, co40, eo40⟩ := Kd.R_slice HO_431000.out; subst eo40; obtain ⟨Ao41, co41, eo41⟩ := Kd.R_slice HO_431001.out; subst eo41) | ((with_reducible refine gate_callee (f := 21) rfl ?_); refine qG (some 31) Try.func21 #[.agg #[.slice Ao40 x431000_1.length co40, .slice Ao41 x431001_1.length co41], .int .i64 x6_1, .string t439] ?_; (with_reducible refine (spec_WritePage.calls k1 _ _ x431000_1 _ _ x431001_1 x6_1 t439 t451 t454 t457 _ ?side1 ?side2 ?side3 ?side4 A32.out).mono ?_); (case side1 => exact (by repeat (first | exact (Kd.R_reads' HO_431000.out).2.2 | (with_reducible refine Kd.C_alloc ?_ _) | (with_reducible refine Kd.C_drewN ?_ _) | (with_reducible refine Kd.C_drew ?_)))); (case side2 => exact (Kd.R_reads' HO_431000.out).2.1); (case side3 => exact (by repeat (first | exact (Kd.R_reads' HO_431001.out).2.2 | (with_reducible refine Kd.C_alloc ?_ _) | (with_reducible refine Kd.C_drewN ?_ _) | (with_reducible refine Kd.C_drew ?_)))); (case side4 => exact (Kd.R_reads' HO_431001.out).2.1); rintro e w42 ⟨v452, v455, rfl, ho0, ho1, hb⟩; refine ⟨_, rfl, ?_⟩; have HO453 := Aside0.mk (Kd.R_lower (Kd.R_new' ho0 (Kd.R_lt za7)) (below_size zh)); replace HO_431000 := Aside0.mk (Kd.R_elder' za7 (Kd.R_base ho0) hb); have HO456 := Aside0.mk (Kd.R_lower (Kd.R_new' ho1 (Kd.R_lt za8)) (below_size zh)); replace HO_431001 := Aside0.mk (Kd.R_elder' za8 (Kd.R_base ho1) hb); replace BK418 := Aside0.mk (bB BK418.out hb); replace BK430 := Aside0.mk (bB BK430.out hb); replace HB := Aside0.mk (below_step zh hb); replace HI422 := Aside0.mk (IsS102.below zj hb); try clear hb ho0 ho1; obtain ⟨Ao43, co43, eo43⟩ := Kd.R_slice HO453.out; subst eo43; obtain ⟨_, _, _, _⟩ := qk2 BK430.out; obtain ⟨Ao45, co45, eo45⟩ := Kd.R_slice HO456.out; subst eo45))
        go_roundg k1
        case measure => have := HK1.out; omega
        case rel => exact ⟨(wrap64 (x6_1 + 1)), (t442), (t443), (t451), (t454), (.slice Ao43 t451.length co43), (.slice Ao45 t454.length co45), zd, H', ⟨zd3⟩, ⟨Kd.R_mono (rK HO453.out BK430.out) (fun _ _ => trivial)⟩, ⟨Kd.R_mono (rK HO456.out BK430.out) (fun _ _ => trivial)⟩, ⟨zbi⟩, ⟨by (with_reducible repeat (first | refine blk_drewN ?_ _ | refine blk_drew ?_ | refine blk_alloc ?_ _)); refine blk_put (cs := #[.slice Ao43 t451.length co43, .slice Ao41 x431001_1.length co41]) ?_ 1 _ rfl; (with_reducible repeat (first | refine blk_drewN ?_ _ | refine blk_drew ?_ | refine blk_alloc ?_ _)); refine blk_put (cs := #[.slice Ao40 x431000_1.length co40, .slice Ao41 x431001_1.length co41]) ?_ 0 _ rfl; (with_reducible repeat (first | refine blk_drewN ?_ _ | refine blk_drew ?_ | refine blk_alloc ?_ _)); exact BK430.out⟩, ⟨zj⟩, ⟨zh⟩⟩
      subst c17
      rw [if_pos rfl] at H
      replace H := qi H
      obtain ⟨⟨t444, t447, t450⟩, A18, H⟩ := H
      dsimp only at H
      have H' := Aside0.mk H
      clear H
      go_wp2_with (first | ((with_reducible refine gate_callee (f := 51) rfl ?_); refine qG (some 21) Try.func51 #[.pointer (some ⟨g422, 0, none⟩)] ?_; (with_reducible refine (spec_l06Any.calls k1 g422 t419 x423001_1 x423002_1 t431 t432 t433 t434 t437 t438 w _ ?side1 ?side2 A14.out).mono ?_); (case side1 => exact zj); (case side2 => exact zh); rintro e w19 ⟨v435, rfl, ho0, hi, hb, hk⟩; refine ⟨_, rfl, ?_⟩; replace HO_431000 := Aside0.mk (Kd.R_mono (Kd.R_keep (IsS102.apart (show IsS102 w _ g422 t419 x423001_1 x423002_1 from by repeat (first | (with_reducible first | exact HI422.out | apply IsS102.alloc | apply IsS102.drewN | apply IsS102.drew | apply IsS102.set_1 | apply IsS102.set_2 | apply IsS102.far (hne := NB422_418.out) | apply IsS102.far (hne := NB422_430.out)) | apply IsS102.far (hne := NB422_418.out) | apply IsS102.far (hne := NB422_430.out) | exact HI422.out)) za7 zbf) hk (fun _ h => h.2)) (fun _ h => h.1)); replace HO_431001 := Aside0.mk (Kd.R_mono (Kd.R_keep (IsS102.apart (show IsS102 w _ g422 t419 x423001_1 x423002_1 from by repeat (first | (with_reducible first | exact HI422.out | apply IsS102.alloc | apply IsS102.drewN | apply IsS102.drew | apply IsS102.set_1 | apply IsS102.set_2 | apply IsS102.far (hne := NB422_418.out) | apply IsS102.far (hne := NB422_430.out)) | apply IsS102.far (hne := NB422_418.out) | apply IsS102.far (hne := NB422_430.out) | exact HI422.out)) za8 zbf) hk (fun _ h => h.2)) (fun _ h => h.1)); replace BK418 := Aside0.mk (KeepBut.blk hk (bP BK418.out) NB418_422.out zdw); replace BK430 := Aside0.mk (KeepBut.blk hk (bP BK430.out) NB430_422.out zdw); have HO436 := Aside0.mk (Kd.S_lower ho0 (below_size zh)); replace HB := Aside0.mk (hb); replace HI422 := Aside0.mk (hi); try clear hb hk hi ho0; obtain ⟨Ao20, co20, eo20⟩ := Kd.S_slice HO436.out; subst eo20) | ((with_reducible refine gate_callee (f := 20) rfl ?_); refine qG (some 22) Try.func20 #[.agg #[.int .i64 t431, .int .i64 t432, .int .i64 t433, .slice Ao20 t434.length co20]] ?_; (with_reducible refine (spec_MetaText.calls k1 t431 t432 t433 _ _ t434 t439 t440 _ ?side1 ?side2 A15.out).mono ?_); (case side1 => exact (by repeat (first | exact (Kd.S_reads' HO436.out).2.2 | (with_reducible refine Kd.C_alloc ?_ _) | (with_reducible refine Kd.C_drewN ?_ _) | (with_reducible refine Kd.C_drew ?_)))); (case side2 => exact (Kd.S_reads' HO436.out).2.1); rintro e w21 ⟨rfl, hb⟩; refine ⟨_, rfl, ?_⟩; replace HO_431000 := Aside0.mk (Kd.R_below za7 hb); replace HO_431001 := Aside0.mk (Kd.R_below za8 hb); replace HO436 := Aside0.mk (Kd.S_below zd0 hb); replace BK418 := Aside0.mk (bB BK418.out hb); replace BK430 := Aside0.mk (bB BK430.out hb); replace HB := Aside0.mk (below_step zh hb); replace HI422 := Aside0.mk (IsS102.below zj hb); try clear hb) | ((with_reducible refine gate_callee (f := 52) rfl ?_); refine qG (some 26) Try.func52 #[.pointer (some ⟨g422, 0, none⟩), .int .i64 5] ?_; (with_reducible refine (spec_l01Once.calls g422 t419 t437 t438 5 true t442 t443 w _ ?side1 ?side2 A16.out).mono ?_); (case side1 => exact zj); (case side2 => exact zh); rintro e w22 ⟨rfl, hi, hb, hk⟩; refine ⟨_, rfl, ?_⟩; replace HO_431000 := Aside0.mk (Kd.R_mono (Kd.R_keep (IsS102.apart (show IsS102 w _ g422 t419 t437 t438 from by repeat (first | (with_reducible first | exact HI422.out | apply IsS102.alloc | apply IsS102.drewN | apply IsS102.drew | apply IsS102.set_1 | apply IsS102.set_2 | apply IsS102.far (hne := NB422_418.out) | apply IsS102.far (hne := NB422_430.out)) | apply IsS102.far (hne := NB422_418.out) | apply IsS102.far (hne := NB422_430.out) | exact HI422.out)) za7 zbf) hk (fun _ h => h.2)) (fun _ h => h.1)); replace HO_431001 := Aside0.mk (Kd.R_mono (Kd.R_keep (IsS102.apart (show IsS102 w _ g422 t419 t437 t438 from by repeat (first | (with_reducible first | exact HI422.out | apply IsS102.alloc | apply IsS102.drewN | apply IsS102.drew | apply IsS102.set_1 | apply IsS102.set_2 | apply IsS102.far (hne := NB422_418.out) | apply IsS102.far (hne := NB422_430.out)) | apply IsS102.far (hne := NB422_418.out) | apply IsS102.far (hne := NB422_430.out) | exact HI422.out)) za8 zbf) hk (fun _ h => h.2)) (fun _ h => h.1)); replace BK418 := Aside0.mk (KeepBut.blk hk (bP BK418.out) NB418_422.out zdw); replace BK430 := Aside0.mk (KeepBut.blk hk (bP BK430.out) NB430_422.out zdw); replace HO436 := Aside0.mk (Kd.S_mono (Kd.S_keep (IsS102.apartS (show IsS102 w _ g422 t419 t437 t438 from by repeat (first | (with_reducible first | exact HI422.out | apply IsS102.alloc | apply IsS102.drewN | apply IsS102.drew | apply IsS102.set_1 | apply IsS102.set_2 | apply IsS102.far (hne := NB422_418.out) | apply IsS102.far (hne := NB422_430.out)) | apply IsS102.far (hne := NB422_418.out) | apply IsS102.far (hne := NB422_430.out) | exact HI422.out)) zd0 zbf) hk (fun _ h => h.2)) (fun _ h => h.1)); replace HB := Aside0.mk (hb); replace HI422 := Aside0.mk (hi); try clear hb hk hi; have hnb23 := NB430_418.out; have hnc23 := NB418_430.out; have hnb24 := NB430_422.out; have hnc24 := NB422_430.out; obtain ⟨_, _, _, _⟩ := qk2 BK430.out; obtain ⟨Ao26, co26, eo26⟩ := Kd.R_slice HO_431000.out; subst eo26; obtain ⟨Ao27, co27, eo27⟩ := Kd.R_slice HO_431001.out; subst eo27) | ((with_reducible refine gate_callee (f := 21) rfl ?_); refine qG (some 31) Try.func21 #[.agg #[.slice Ao26 x431000_1.length co26, .slice Ao27 x431001_1.length co27], .int .i64 x6_1, .string (⟨#[120]⟩ : ByteArray)] ?_; (with_reducible refine (spec_WritePage.calls k1 _ _ x431000_1 _ _ x431001_1 x6_1 (⟨#[120]⟩ : ByteArray) t444 t447 t450 _ ?side1 ?side2 ?side3 ?side4 A18.out).mono ?_); (case side1 => exact (by repeat (first | exact (Kd.R_reads' HO_431000.out).2.2 | (with_reducible refine Kd.C_alloc ?_ _) | (with_reducible refine Kd.C_drewN ?_ _) | (with_reducible refine Kd.C_drew ?_)))); (case side2 => exact (Kd.R_reads' HO_431000.out).2.1); (case side3 => exact (by repeat (first | exact (Kd.R_reads' HO_431001.out).2.2 | (with_reducible refine Kd.C_alloc ?_ _) | (with_reducible refine Kd.C_drewN ?_ _) | (with_reducible refine Kd.C_drew ?_)))); (case side4 => exact (Kd.R_reads' HO_431001.out).2.1); rintro e w28 ⟨v445, v448, rfl, ho0, ho1, hb⟩; refine ⟨_, rfl, ?_⟩; replace HO436 := Aside0.mk (Kd.S_below zd0 hb); have HO446 := Aside0.mk (Kd.R_lower (Kd.R_new' ho0 (Kd.R_lt za7)) (below_size zh)); replace HO_431000 := Aside0.mk (Kd.R_elder' za7 (Kd.R_base ho0) hb); have HO449 := Aside0.mk (Kd.R_lower (Kd.R_new' ho1 (Kd.R_lt za8)) (below_size zh)); replace HO_431001 := Aside0.mk (Kd.R_elder' za8 (Kd.R_base ho1) hb); replace BK418 := Aside0.mk (bB BK418.out hb); replace BK430 := Aside0.mk (bB BK430.out hb); replace HB := Aside0.mk (below_step zh hb); replace HI422 := Aside0.mk (IsS102.below zj hb); try clear hb ho0 ho1; obtain ⟨Ao29, co29, eo29⟩ := Kd.R_slice HO446.out; subst eo29; obtain ⟨_, _, _, _⟩ := qk2 BK430.out; obtain ⟨Ao31, co31, eo31⟩ := Kd.R_slice HO449.out; subst eo31))
      go_roundg k1
      case measure => have := HK1.out; omega
      case rel => exact ⟨(wrap64 (x6_1 + 1)), (t442), (t443), (t444), (t447), (.slice Ao29 t444.length co29), (.slice Ao31 t447.length co31), zd, H', ⟨zd3⟩, ⟨Kd.R_mono (rK HO446.out BK430.out) (fun _ _ => trivial)⟩, ⟨Kd.R_mono (rK HO449.out BK430.out) (fun _ _ => trivial)⟩, ⟨zbi⟩, ⟨by (with_reducible repeat (first | refine blk_drewN ?_ _ | refine blk_drew ?_ | refine blk_alloc ?_ _)); refine blk_put (cs := #[.slice Ao29 t444.length co29, .slice Ao27 x431001_1.length co27]) ?_ 1 _ rfl; (with_reducible repeat (first | refine blk_drewN ?_ _ | refine blk_drew ?_ | refine blk_alloc ?_ _)); refine blk_put (cs := #[.slice Ao26 x431000_1.length co26, .slice Ao27 x431001_1.length co27]) ?_ 0 _ rfl; (with_reducible repeat (first | refine blk_drewN ?_ _ | refine blk_drew ?_ | refine blk_alloc ?_ _)); exact BK430.out⟩, ⟨zj⟩, ⟨zh⟩⟩
/-! ### laws_sameInts: function 54 -/
def laws_sameInts.l0 : Nat → List Int → List Int → Int → Option (Bool)
  | 0, _, _, _ => none
  | k + 1, x0, x1, x5 => if x5 < (x0.length : Int) then (if 0 ≤ x5 then (if x5 < (x1.length : Int) then (if (rd x0 x5) = (rd x1 x5) then (laws_sameInts.l0 k x0 x1 (wrap64 (x5 + 1))) else (some false)) else (none)) else (none)) else (some true)
def laws_sameInts.f (k : Nat) (l0 : List Int) (l1 : List Int) : Option (Bool) := if (l0.length : Int) = (l1.length : Int) then (laws_sameInts.l0 k l0 l1 0) else (some false)
theorem laws_sameInts.mono_l : ∀ k, (∀ y0 y1 y2, LeO (laws_sameInts.l0 k y0 y1 y2) (laws_sameInts.l0 (k + 1) y0 y1 y2))
  | 0 => fun _ _ _ r h => by simp [laws_sameInts.l0] at h
  | k + 1 => by
    have ih0 := laws_sameInts.mono_l k
    · intro y0 y1 y2
      unfold laws_sameInts.l0
      exact qv
theorem laws_sameInts.mono : ∀ a0 a1 k, LeO (laws_sameInts.f k a0 a1) (laws_sameInts.f (k + 1) a0 a1) := by
  intro a0 a1 k
  have ih0 := laws_sameInts.mono_l k
  unfold laws_sameInts.f
  exact qv
set_option maxHeartbeats 8000000 in
set_option maxRecDepth 100000 in
theorem laws_sameInts.calls (k : Nat) (A0 : Option Addr) (c0 : Nat) (l0 : List Int) (A1 : Option Addr) (c1 : Nat) (l1 : List Int) (r : Bool) (w : World) (hr0 : Kd.C (Kd.int .i64) w A0 l0.length l0) (hc0 : l0.length ≤ c0) (hr1 : Kd.C (Kd.int .i64) w A1 l1.length l1) (hc1 : l1.length ≤ c1) (h : laws_sameInts.f k l0 l1 = some r) :
    Calls Try.prog 54 #[.slice A0 l0.length c0, .slice A1 l1.length c1] w fun e w' => e = .returned (.bool r) ∧ Drawn0 w w' := by
  have HR0 := Aside0.mk hr0
  clear hr0 hc0
  have HR1 := Aside0.mk hr1
  clear hr1 hc1
  unfold laws_sameInts.f at h
  have H := h
  clear h
  by_cases c3 : (l0.length : Int) = (l1.length : Int)
  case neg =>
    rw [if_neg c3] at H
    have c3b0 : ((l0.length : Int) == (l1.length : Int)) = false := beq_eq_false_iff_ne.mpr c3
    have c3b1 : ((l0.length : Int) != (l1.length : Int)) = true := bne_iff_ne.mpr c3
    have c3b2 : (l0.length == l1.length) = false := by first | simpa using c3 | (simp at c3 ⊢; omega)
    obtain rfl := Option.some.inj H
    go_enter Try.func54, Try.ntmps54
    go_wp2
    repeat (go_quiet (fail); try go_wp2)
    go_ret
    exact ⟨zd, z5⟩

  rw [if_pos c3] at H
  have c3b0 : ((l0.length : Int) == (l1.length : Int)) = true := beq_iff_eq.mpr c3
  have c3b1 : ((l0.length : Int) != (l1.length : Int)) = false := bne_eq_false_iff_eq.mpr c3
  have c3b2 : (l0.length == l1.length) = true := by first | simpa using c3 | (simp at c3 ⊢; omega)
  clear c3
  have H' := Aside0.mk H
  clear H
  go_enter Try.func54, Try.ntmps54
  go_wp2
  repeat (go_quiet (fail); try go_wp2)
  go_loopg [5] k (fun kq v5 w' => ∃ (x5_1 : Int), v5 = .int .i64 x5_1 ∧ Aside0 (laws_sameInts.l0 kq l0 l1 x5_1 = some r) ∧ Aside0 (kq ≤ k) ∧ Drawn0 w w')
  case atStart => exact ⟨(0), zd, H', ⟨Nat.le_refl _⟩, z5⟩
  case round =>
    clear H'
    (try clear c1); (try clear c3); (try clear c3b0); (try clear c3b1); (try clear c3b2)
    obtain ⟨x5_1, rfl, HA, HK1, ⟨m1, rfl⟩⟩ := hrel
    cases gk with
    | zero => exact absurd HA.out (by simp [laws_sameInts.l0])
    | succ k1 =>
      have H := HA.out
      clear HA
      simp only [laws_sameInts.l0] at H
      by_cases c4 : x5_1 < (l0.length : Int)
      case neg =>
        rw [if_neg c4] at H
        have c4b0 := decide_eq_false c4
        clear c4
        obtain rfl := Option.some.inj H
        go_wp2
        repeat (go_quiet (fail); try go_wp2)
        go_ret
        exact ⟨zd, z5⟩
      rw [if_pos c4] at H
      have c4b0 := decide_eq_true c4
      clear c4
      by_cases c5 : 0 ≤ x5_1
      case neg => exact qn c5 H
      rw [if_pos c5] at H
      have c5b0 := decide_eq_true c5
      clear c5
      by_cases c6 : x5_1 < (l1.length : Int)
      case neg => exact qn c6 H
      rw [if_pos c6] at H
      have c6b0 := decide_eq_true c6
      clear c6
      by_cases c7 : (rd l0 x5_1) = (rd l1 x5_1)
      case neg =>
        rw [if_neg c7] at H
        have c7b0 : ((rd l0 x5_1) == (rd l1 x5_1)) = false := beq_eq_false_iff_ne.mpr c7
        have c7b1 : ((rd l0 x5_1) != (rd l1 x5_1)) = true := bne_iff_ne.mpr c7
        obtain rfl := Option.some.inj H
        have p467 : 0 ≤ (x5_1 : Int) := of_decide_eq_true zb
        have q467 : x5_1 < (l0.length : Int) := of_decide_eq_true zb
        obtain ⟨ad467, e467, hx467_0⟩ := Kd.at_int HR0.out x5_1 p467 q467
        cases e467
        replace p467 := eq_true p467
        replace q467 := eq_true q467
        have p468 : 0 ≤ (x5_1 : Int) := of_decide_eq_true zb
        have q468 : x5_1 < (l1.length : Int) := of_decide_eq_true zb
        obtain ⟨ad468, e468, hx468_0⟩ := Kd.at_int HR1.out x5_1 p468 q468
        cases e468
        replace p468 := eq_true p468
        replace q468 := eq_true q468
        go_wp2
        repeat (go_quiet (fail); try go_wp2)
        go_ret
        exact ⟨zd, z5⟩
      rw [if_pos c7] at H
      have c7b0 : ((rd l0 x5_1) == (rd l1 x5_1)) = true := beq_iff_eq.mpr c7
      have c7b1 : ((rd l0 x5_1) != (rd l1 x5_1)) = false := bne_eq_false_iff_eq.mpr c7
      clear c7
      have H' := Aside0.mk H
      clear H
      have p467 : 0 ≤ (x5_1 : Int) := of_decide_eq_true zb
      have q467 : x5_1 < (l0.length : Int) := of_decide_eq_true zb
      obtain ⟨ad467, e467, hx467_0⟩ := Kd.at_int HR0.out x5_1 p467 q467
      cases e467
      replace p467 := eq_true p467
      replace q467 := eq_true q467
      have p468 : 0 ≤ (x5_1 : Int) := of_decide_eq_true zb
      have q468 : x5_1 < (l1.length : Int) := of_decide_eq_true zb
      obtain ⟨ad468, e468, hx468_0⟩ := Kd.at_int HR1.out x5_1 p468 q468
      cases e468
      replace p468 := eq_true p468
      replace q468 := eq_true q468
      go_wp2
      repeat (go_quiet (fail); try go_wp2)
      go_roundg k1
      case measure => have := HK1.out; omega
      case rel => exact ⟨(wrap64 (x5_1 + 1)), zd, H', ⟨zd3⟩, z5⟩
end Go.Proofs.Yteokilffbcbllaa.VFnBest
