-- Written by a program of this repo (wip/myprint.py), over the kit's print; functions that the print does not take stand in it by hand-proved contracts.
import Derived.Test.YteokilffbcbllaaVFnBestx0
import Derived.Test.YteokilffbcbllaaVFnBestx9
import Derived.Test.YteokilffbcbllaaVFnBestx11
namespace Go.Proofs.Yteokilffbcbllaa.VFnBest
open Go.RowKit Go.Proofs.YteokilffbcbllaaW.PrintWords Go.Proofs.YteokilffbcbllaaW.PrintLast Go.Proofs.YteokilffbcbllaaW.PrintMore
attribute [local go_sem] max2_int min2_int max_two min_two max_three min_three max_four min_four   -- for this text's walks alone
attribute [local go_sem high] str_leq str_gtr str_geq str_lss
set_option linter.unusedVariables false
set_option linter.unusedSimpArgs false

/-! ### impl_MetaOk: function 61 -/
mutual
def impl_MetaOk.j0 : Nat → Bool → Int → Int → Int → List (S60) → Option (Bool)
  | 0, _, _, _, _, _ => none
  | k + 1, x37, x213000, x213001, x213002, x213003 => if x37 = true then (some false) else (impl_MetaOk.l0 k (([x213001] : List Int)) x213003 (x213003.length : Int) 0 x213000 x213001 x213002 x213003)
def impl_MetaOk.l0 : Nat → List Int → List (S60) → Int → Int → Int → Int → Int → List (S60) → Option (Bool)
  | 0, _, _, _, _, _, _, _, _ => none
  | k + 1, x3, x42, x43, x44, x213000, x213001, x213002, x213003 => if x44 < x43 then (if 0 ≤ x44 then (if x44 < (x42.length : Int) then ((impl_freeOk.f k ((rd_T60 x42 x44).f0) ((rd_T60 x42 x44).f1) x213000 x213001 x213002 x213003).bind fun t221 => (if t221 = true then (if x44 > 0 then (if 0 ≤ (wrap64 (x44 - 1)) then (if (wrap64 (x44 - 1)) < (x213003.length : Int) then (impl_MetaOk.j2 k x3 x42 x43 x44 (decide (((rd_T60 x213003 (wrap64 (x44 - 1))).f0) ≥ ((rd_T60 x42 x44).f0))) x213000 x213001 x213002 x213003 ((rd_T60 x42 x44).f0) ((rd_T60 x42 x44).f1)) else (none)) else (none)) else (impl_MetaOk.j2 k x3 x42 x43 x44 false x213000 x213001 x213002 x213003 ((rd_T60 x42 x44).f0) ((rd_T60 x42 x44).f1))) else (impl_MetaOk.j2 k x3 x42 x43 x44 true x213000 x213001 x213002 x213003 ((rd_T60 x42 x44).f0) ((rd_T60 x42 x44).f1)))) else (none)) else (none)) else (some true)
def impl_MetaOk.j2 : Nat → List Int → List (S60) → Int → Int → Bool → Int → Int → Int → List (S60) → Int → List Int → Option (Bool)
  | 0, _, _, _, _, _, _, _, _, _, _, _ => none
  | k + 1, x3, x42, x43, x44, x68, x213000, x213001, x213002, x213003, x221000, x221001 => if x68 = true then (some false) else (impl_MetaOk.l1 k x3 x42 x43 x44 x221001 (x221001.length : Int) 0 x213000 x213001 x213002 x213003)
def impl_MetaOk.l1 : Nat → List Int → List (S60) → Int → Int → List Int → Int → Int → Int → Int → Int → List (S60) → Option (Bool)
  | 0, _, _, _, _, _, _, _, _, _, _, _ => none
  | k + 1, x3, x42, x43, x44, x70, x71, x72, x213000, x213001, x213002, x213003 => if x72 < x71 then (if 0 ≤ x72 then (if x72 < (x70.length : Int) then ((slices_Contains_int_int.f k x3 (rd x70 x72)).bind fun t224 => (if t224 = true then (some false) else (if x3.length < 17592186044416 then (impl_MetaOk.l1 k (x3 ++ [rd x70 x72]) x42 x43 x44 x70 x71 (wrap64 (x72 + 1)) x213000 x213001 x213002 x213003) else (none)))) else (none)) else (none)) else (impl_MetaOk.l0 k x3 x42 x43 (wrap64 (x44 + 1)) x213000 x213001 x213002 x213003)
end
def impl_MetaOk.f (k : Nat) (a0_0 : Int) (a0_1 : Int) (a0_2 : Int) (l0_3 : List (S60)) : Option (Bool) := (impl_in.f a0_0 0 100000).bind fun t213 => (if t213 = true then ((impl_in.f a0_2 2 40).bind fun t214 => (if t214 = true then (if a0_1 = 0 then (impl_MetaOk.j0 k (decide ((l0_3.length : Int) > 20)) a0_0 a0_1 a0_2 l0_3) else ((impl_in.f a0_1 2 (wrap64 (a0_2 - 1))).bind fun t215 => (if t215 = true then (impl_MetaOk.j0 k (decide ((l0_3.length : Int) > 20)) a0_0 a0_1 a0_2 l0_3) else (impl_MetaOk.j0 k true a0_0 a0_1 a0_2 l0_3)))) else (impl_MetaOk.j0 k true a0_0 a0_1 a0_2 l0_3))) else (impl_MetaOk.j0 k true a0_0 a0_1 a0_2 l0_3))
theorem impl_MetaOk.mono_l : ∀ k, (∀ y0 y1 y2 y3 y4, LeO (impl_MetaOk.j0 k y0 y1 y2 y3 y4) (impl_MetaOk.j0 (k + 1) y0 y1 y2 y3 y4)) ∧ (∀ y0 y1 y2 y3 y4 y5 y6 y7, LeO (impl_MetaOk.l0 k y0 y1 y2 y3 y4 y5 y6 y7) (impl_MetaOk.l0 (k + 1) y0 y1 y2 y3 y4 y5 y6 y7)) ∧ (∀ y0 y1 y2 y3 y4 y5 y6 y7 y8 y9 y10, LeO (impl_MetaOk.j2 k y0 y1 y2 y3 y4 y5 y6 y7 y8 y9 y10) (impl_MetaOk.j2 (k + 1) y0 y1 y2 y3 y4 y5 y6 y7 y8 y9 y10)) ∧ (∀ y0 y1 y2 y3 y4 y5 y6 y7 y8 y9 y10, LeO (impl_MetaOk.l1 k y0 y1 y2 y3 y4 y5 y6 y7 y8 y9 y10) (impl_MetaOk.l1 (k + 1) y0 y1 y2 y3 y4 y5 y6 y7 y8 y9 y10))
  | 0 => ⟨fun _ _ _ _ _ r h => by simp [impl_MetaOk.j0] at h, fun _ _ _ _ _ _ _ _ r h => by simp [impl_MetaOk.l0] at h, fun _ _ _ _ _ _ _ _ _ _ _ r h => by simp [impl_MetaOk.j2] at h, fun _ _ _ _ _ _ _ _ _ _ _ r h => by simp [impl_MetaOk.l1] at h⟩
  | k + 1 => by
    obtain ⟨ih0, ih1, ih2, ih3⟩ := impl_MetaOk.mono_l k
    refine ⟨?_, ?_, ?_, ?_⟩
    · intro y0 y1 y2 y3 y4
      unfold impl_MetaOk.j0
      exact qv
    · intro y0 y1 y2 y3 y4 y5 y6 y7
      unfold impl_MetaOk.l0
      exact qv
    · intro y0 y1 y2 y3 y4 y5 y6 y7 y8 y9 y10
      unfold impl_MetaOk.j2
      exact qv
    · intro y0 y1 y2 y3 y4 y5 y6 y7 y8 y9 y10
      unfold impl_MetaOk.l1
      exact qv
theorem impl_MetaOk.mono : ∀ a0 a1 a2 a3 k, LeO (impl_MetaOk.f k a0 a1 a2 a3) (impl_MetaOk.f (k + 1) a0 a1 a2 a3) := by
  intro a0 a1 a2 a3 k
  obtain ⟨ih0, ih1, ih2, ih3⟩ := impl_MetaOk.mono_l k
  unfold impl_MetaOk.f
  exact qv
def impl_MetaOk.T7 : Bool × List (List Nat × List Nat) := (true, [([], []), ([], []), ([0, 1], [0, 1]), ([2], [2]), ([3, 2], [3]), ([4], [4]), ([5, 4], [4, 5]), ([6, 4, 4], [4, 6]), ([7], [7]), ([8, 7], [7, 8]), ([7], [7]), ([10, 7], [7, 10]), ([9, 11, 7], [7, 9, 11]), ([12, 7], [7, 12]), ([13, 7], [7, 13]), ([7], [7]), ([15, 7], [7, 15]), ([14, 16, 7], [7, 14, 16]), ([7, 17, 4], [4, 7, 17]), ([4, 18], [4, 18])])
def impl_MetaOk.B7 : List Nat := [0, 0, 3, 7, 15, 31, 63, 127, 255, 511, 255, 1279, 4095, 8191, 16383, 255, 33023, 131071, 262143, 524287]
theorem impl_MetaOk.tab7 : rtab .any (opsOf Try.f61 7) = impl_MetaOk.T7 := by kernel_rfl
theorem impl_MetaOk.bits7 : waitsOk impl_MetaOk.T7.2 impl_MetaOk.B7 = true := by kernel_rfl
set_option maxHeartbeats 8000000 in
set_option maxRecDepth 100000 in
theorem impl_MetaOk.calls (k : Nat) (a0_0 : Int) (a0_1 : Int) (a0_2 : Int) (A0_3 : Option Addr) (c0_3 : Nat) (l0_3 : List (S60)) (r : Bool) (w : World) (hr0_3 : Kd.C k60 w A0_3 l0_3.length l0_3) (hc0_3 : l0_3.length ≤ c0_3) (h : impl_MetaOk.f k a0_0 a0_1 a0_2 l0_3 = some r) :
    Calls Try.prog 61 #[.agg #[.int .i64 a0_0, .int .i64 a0_1, .int .i64 a0_2, .slice A0_3 l0_3.length c0_3]] w fun e w' => e = .returned (.bool r) ∧ Below w.heap.size w w' := by
  have hu24 := Try.underlying24
  have hu60 := Try.underlying60
  have HR0_3 := Aside0.mk hr0_3
  have HC0_3 := Aside0.mk hc0_3
  clear hr0_3 hc0_3
  have HB := Aside0.mk (Below.refl w.heap.size w)
  unfold impl_MetaOk.f at h
  have H := h
  clear h
  have HC2 := Aside0.mk H
  clear H
  go_enter Try.func61, Try.ntmps61
  go_upto_region 1 with (first | ((with_reducible refine gate_dst (N := 1) rfl ?_); (try (refine gate_guard zdy ?_; dsimp only)); refine qB 1 #[.int .i64 a0_0, .int .i64 a0_1, .int .i64 a0_2, .slice A0_3 l0_3.length c0_3] 24 ?_; intro gb212 hg w3 hbox hb; have BK212 := Aside0.mk (hbox); have GW212 := Aside0.mk ((zef : w.heap.size ≤ gb212)); have GE212 := GW212; replace HB := Aside0.mk (below_step za hb); clear hb hbox hg))
  (try simp only [Act.put, qa, qb, qc])
  go_cut [37] (fun v37 wc => ∃ (kq : Nat) (x37_1 : Bool), v37 = .bool x37_1 ∧ Aside0 (impl_MetaOk.j0 kq x37_1 a0_0 a0_1 a0_2 l0_3 = some r) ∧ Aside0 (kq ≤ k) ∧ Aside0 (wc.heap[gb212]? = some (.cells #[.int .i64 a0_0, .int .i64 a0_1, .int .i64 a0_2, (.slice A0_3 l0_3.length c0_3)] 24 (0, 0))) ∧ Aside0 (Below w.heap.size w wc))
  case first =>
    have H := HC2.out
    clear HC2
    replace H := qi H
    obtain ⟨t213, A4, H⟩ := H
    by_cases c5 : t213 = true
    case neg =>
      replace c5 := Bool.eq_false_iff.mpr c5
      subst c5
      rw [if_neg (qj)] at H
      have H' := Aside0.mk H
      clear H
      obtain ⟨hcz15_0, hcz15_1, hcz15_2, hcz15_3, hfz15_0, hfz15_1, hfz15_2, hfz15_3⟩ := qk4 BK212.out
      go_wp2_with (first | ((with_reducible refine gate_callee (f := 58) rfl ?_); refine qG (some 10) Try.func58 #[.int .i64 a0_0, .int .i64 0, .int .i64 100000] ?_; (with_reducible refine (impl_in.calls a0_0 0 100000 false _ A4.out).mono ?_); rintro e w' ⟨rfl, ⟨nd, rfl⟩⟩; refine ⟨_, rfl, ?_⟩))
      go_meet
      case rel => exact ⟨_, (true), zd, H', ⟨zda⟩, ⟨za6⟩, ⟨zag⟩⟩
    subst c5
    rw [if_pos rfl] at H
    replace H := qi H
    obtain ⟨t214, A6, H⟩ := H
    by_cases c7 : t214 = true
    case neg =>
      replace c7 := Bool.eq_false_iff.mpr c7
      subst c7
      rw [if_neg (qj)] at H
      have H' := Aside0.mk H
      clear H
      obtain ⟨hcz14_0, hcz14_1, hcz14_2, hcz14_3, hfz14_0, hfz14_1, hfz14_2, hfz14_3⟩ := qk4 BK212.out
      go_wp2_with (first | ((with_reducible refine gate_callee (f := 58) rfl ?_); refine qG (some 10) Try.func58 #[.int .i64 a0_0, .int .i64 0, .int .i64 100000] ?_; (with_reducible refine (impl_in.calls a0_0 0 100000 true _ A4.out).mono ?_); rintro e w' ⟨rfl, ⟨nd, rfl⟩⟩; refine ⟨_, rfl, ?_⟩) | (go_at_call 58; (with_reducible refine (impl_in.calls a0_2 2 40 false _ A6.out).mono ?_); rintro e w' ⟨rfl, ⟨nd, rfl⟩⟩))
      go_meet
      case rel => exact ⟨_, (true), zd, H', ⟨zda⟩, ⟨za6⟩, ⟨zag⟩⟩
    subst c7
    rw [if_pos rfl] at H
    by_cases c8 : a0_1 = 0
    case pos =>
      rw [if_pos c8] at H
      have c8b0 : (a0_1 == 0) = true := beq_iff_eq.mpr c8
      have c8b1 : (a0_1 != 0) = false := bne_eq_false_iff_eq.mpr c8
      clear c8
      (first | rw [c8b0] | (simp only [i64_w, i32_w]; rw [c8b0]) | skip)
      have H' := Aside0.mk H
      clear H
      obtain ⟨hcz9_0, hcz9_1, hcz9_2, hcz9_3, hfz9_0, hfz9_1, hfz9_2, hfz9_3⟩ := qk4 BK212.out
      go_wp2_with (first | ((with_reducible refine gate_callee (f := 58) rfl ?_); refine qG (some 10) Try.func58 #[.int .i64 a0_0, .int .i64 0, .int .i64 100000] ?_; (with_reducible refine (impl_in.calls a0_0 0 100000 true _ A4.out).mono ?_); rintro e w' ⟨rfl, ⟨nd, rfl⟩⟩; refine ⟨_, rfl, ?_⟩) | (go_at_call 58; (with_reducible refine (impl_in.calls a0_2 2 40 true _ A6.out).mono ?_); rintro e w' ⟨rfl, ⟨nd, rfl⟩⟩))
      go_meet
      case rel => exact ⟨_, (decide ((l0_3.length : Int) > 20)), zd, H', ⟨zda⟩, ⟨za6⟩, ⟨zag⟩⟩
    rw [if_neg c8] at H
    have c8b0 : (a0_1 == 0) = false := beq_eq_false_iff_ne.mpr c8
    have c8b1 : (a0_1 != 0) = true := bne_iff_ne.mpr c8
    (first | rw [c8b0] | (simp only [i64_w, i32_w]; rw [c8b0]) | skip)
    replace H := qi H
    obtain ⟨t215, A10, H⟩ := H
    by_cases c11 : t215 = true
    case pos =>
      subst c11
      rw [if_pos rfl] at H
      have H' := Aside0.mk H
      clear H
      obtain ⟨hcz12_0, hcz12_1, hcz12_2, hcz12_3, hfz12_0, hfz12_1, hfz12_2, hfz12_3⟩ := qk4 BK212.out
      go_wp2_with (first | ((with_reducible refine gate_callee (f := 58) rfl ?_); refine qG (some 10) Try.func58 #[.int .i64 a0_0, .int .i64 0, .int .i64 100000] ?_; (with_reducible refine (impl_in.calls a0_0 0 100000 true _ A4.out).mono ?_); rintro e w' ⟨rfl, ⟨nd, rfl⟩⟩; refine ⟨_, rfl, ?_⟩) | (go_at_call 58; (with_reducible refine (impl_in.calls a0_2 2 40 true _ A6.out).mono ?_); rintro e w' ⟨rfl, ⟨nd, rfl⟩⟩) | (go_at_call 58; (with_reducible refine (impl_in.calls a0_1 2 (wrap64 (a0_2 - 1)) true _ A10.out).mono ?_); rintro e w' ⟨rfl, ⟨nd, rfl⟩⟩))
      go_meet
      case rel => exact ⟨_, (decide ((l0_3.length : Int) > 20)), zd, H', ⟨zda⟩, ⟨za6⟩, ⟨zag⟩⟩
    replace c11 := Bool.eq_false_iff.mpr c11
    subst c11
    rw [if_neg (qj)] at H
    have H' := Aside0.mk H
    clear H
    obtain ⟨hcz13_0, hcz13_1, hcz13_2, hcz13_3, hfz13_0, hfz13_1, hfz13_2, hfz13_3⟩ := qk4 BK212.out
    go_wp2_with (first | ((with_reducible refine gate_callee (f := 58) rfl ?_); refine qG (some 10) Try.func58 #[.int .i64 a0_0, .int .i64 0, .int .i64 100000] ?_; (with_reducible refine (impl_in.calls a0_0 0 100000 true _ A4.out).mono ?_); rintro e w' ⟨rfl, ⟨nd, rfl⟩⟩; refine ⟨_, rfl, ?_⟩) | (go_at_call 58; (with_reducible refine (impl_in.calls a0_2 2 40 true _ A6.out).mono ?_); rintro e w' ⟨rfl, ⟨nd, rfl⟩⟩) | (go_at_call 58; (with_reducible refine (impl_in.calls a0_1 2 (wrap64 (a0_2 - 1)) false _ A10.out).mono ?_); rintro e w' ⟨rfl, ⟨nd, rfl⟩⟩))
    go_meet
    case rel => exact ⟨_, (true), zd, H', ⟨zda⟩, ⟨za6⟩, ⟨zag⟩⟩
  case rest =>
    clear HC2
    (try clear c5); (try clear c7); (try clear c8); (try clear c8b0); (try clear c8b1); (try clear c11); (try clear hcz12_0 hcz12_1 hcz12_2 hcz12_3 hfz12_0 hfz12_1 hfz12_2 hfz12_3); (try clear hcz13_0 hcz13_1 hcz13_2 hcz13_3 hfz13_0 hfz13_1 hfz13_2 hfz13_3); (try clear hcz14_0 hcz14_1 hcz14_2 hcz14_3 hfz14_0 hfz14_1 hfz14_2 hfz14_3); (try clear hcz15_0 hcz15_1 hcz15_2 hcz15_3 hfz15_0 hfz15_1 hfz15_2 hfz15_3); (try clear hcz9_0 hcz9_1 hcz9_2 hcz9_3 hfz9_0 hfz9_1 hfz9_2 hfz9_3)
    obtain ⟨kq, x37_1, rfl, HA, HJ1, BK212, HB⟩ := hcut
    cases kq with
    | zero => exact absurd HA.out (by simp [impl_MetaOk.j0])
    | succ kj1 =>
      have H := HA.out
      clear HA
      simp only [impl_MetaOk.j0] at H
      by_cases c16 : x37_1 = true
      case pos => subst c16; rw [if_pos rfl] at H; obtain rfl := Option.some.inj H; go_wp2; go_ret; exact ⟨zc, zag⟩
      replace c16 := Bool.eq_false_iff.mpr c16
      subst c16
      rw [if_neg (qj)] at H
      obtain ⟨y216, hy216⟩ : ∃ y_ : List Int, y_ = (([a0_1] : List Int)) := ⟨_, rfl⟩
      replace H : (impl_MetaOk.l0 kj1 y216 l0_3 (l0_3.length : Int) 0 a0_0 a0_1 a0_2 l0_3) = some r := by first | (rw [hy216]; with_reducible exact H) | (have H2_ := (Option.bind_some _ _).symm.trans H; rw [hy216]; with_reducible exact H2_) | (have H2_ := (Option.bind_some _ _).symm.trans H; with_reducible exact H2_) | with_reducible exact H | (rw [hy216]; exact H) | exact H
      have Ny216 := Aside0.mk hy216
      clear hy216
      have H' := Aside0.mk H
      clear H
      obtain ⟨hcz17_0, hcz17_1, hcz17_2, hcz17_3, hfz17_0, hfz17_1, hfz17_2, hfz17_3⟩ := qk4 BK212.out
      go_wp2_with (first | ((with_reducible refine gate_dst (N := 40) rfl ?_); (try (refine gate_guard zdy ?_; dsimp only)); refine Kd.R_lit (Kd.int .i64) _ 3 ?hg (N := 40) ?hd (xs := ([a0_1] : List Int)) (inner := [.int .i64 a0_1]) (ok := fun _ => True) (okp := fun _ => True) ?hr ?hp (fun _ hk => hk) trivial (Below.refl _ _) (Nat.le_refl _) zdw ?_; (case hd => rfl); (case hg => rfl); (case hr => first | (go_simp; done) | (go_simp; rfl)); (case hp => exact (Reps.one (show Kd.M (Kd.int .i64) _ _ _ a0_1 [.int .i64 a0_1] from rfl) (Reps.none _ _))); intro v217 w18 ho19 hb hg_ hnew_; clear hg_ hnew_; (first | rw [← Ny216.out] at ho19 | (simp only [Int.reduceToNat] at ho19; rw [← Ny216.out] at ho19)); have HO218 := Aside0.mk (Kd.R_lower ho19 (below_size zag)); replace BK212 := Aside0.mk (bB BK212.out hb); replace HB := Aside0.mk (below_step zag hb); clear hb ho19; obtain ⟨hcz20_0, hcz20_1, hcz20_2, hcz20_3, hfz20_0, hfz20_1, hfz20_2, hfz20_3⟩ := qk4 BK212.out))
      go_loopg [3, 44] kj1 (fun kq v3 v44 w' => ∃ (x3_2 : List Int) (x44_2 : Int), v44 = .int .i64 x44_2 ∧ Aside0 (impl_MetaOk.l0 kq x3_2 l0_3 (l0_3.length : Int) x44_2 a0_0 a0_1 a0_2 l0_3 = some r) ∧ Aside0 (kq ≤ kj1) ∧ Aside0 (Kd.R (Kd.int .i64) 3 w' w.heap.size (fun _ => True) v3 x3_2) ∧ Aside0 (w'.heap[gb212]? = some (.cells #[.int .i64 a0_0, .int .i64 a0_1, .int .i64 a0_2, (.slice A0_3 l0_3.length c0_3)] 24 (0, 0))) ∧ Aside0 (Below w.heap.size w w'))
      case atStart => exact ⟨(y216), (0), zd, H', ⟨Nat.le_refl _⟩, ⟨by (with_reducible repeat (first | apply Kd.R_alloc | apply Kd.R_drewN | apply Kd.R_drew)); exact HO218.out⟩, ⟨za6⟩, ⟨zag⟩⟩
      case round =>
        clear H'
        (try clear c5); (try clear c7); (try clear c8); (try clear c8b0); (try clear c8b1); (try clear c11); (try clear c16); (try clear hcz12_0 hcz12_1 hcz12_2 hcz12_3 hfz12_0 hfz12_1 hfz12_2 hfz12_3); (try clear hcz13_0 hcz13_1 hcz13_2 hcz13_3 hfz13_0 hfz13_1 hfz13_2 hfz13_3); (try clear hcz14_0 hcz14_1 hcz14_2 hcz14_3 hfz14_0 hfz14_1 hfz14_2 hfz14_3); (try clear hcz15_0 hcz15_1 hcz15_2 hcz15_3 hfz15_0 hfz15_1 hfz15_2 hfz15_3); (try clear hcz17_0 hcz17_1 hcz17_2 hcz17_3 hfz17_0 hfz17_1 hfz17_2 hfz17_3); (try clear hcz20_0 hcz20_1 hcz20_2 hcz20_3 hfz20_0 hfz20_1 hfz20_2 hfz20_3); (try clear hcz9_0 hcz9_1 hcz9_2 hcz9_3 hfz9_0 hfz9_1 hfz9_2 hfz9_3)
        try clear BK212 HB
        obtain ⟨x3_2, x44_2, rfl, HA, HK2, HO_3, BK212, HB⟩ := hrel
        cases gk with
        | zero => exact absurd HA.out (by simp [impl_MetaOk.l0])
        | succ k2 =>
          have H := HA.out
          clear HA
          simp only [impl_MetaOk.l0] at H
          by_cases c21 : x44_2 < (l0_3.length : Int)
          case neg =>
            rw [if_neg c21] at H
            have c21b0 := decide_eq_false c21
            clear c21
            obtain rfl := Option.some.inj H
            go_wp2
            go_ret
            exact ⟨zc, zag⟩

          rw [if_pos c21] at H
          have c21b0 := decide_eq_true c21
          clear c21
          by_cases c22 : 0 ≤ x44_2
          case neg => exact qn c22 H
          rw [if_pos c22] at H
          have c22b0 := decide_eq_true c22
          clear c22
          by_cases c23 : x44_2 < (l0_3.length : Int)
          case neg => exact qn c23 H
          rw [if_pos c23] at H
          have c23b0 := decide_eq_true c23
          clear c23
          have HC24 := Aside0.mk H
          clear H
          have p219 : 0 ≤ (x44_2 : Int) := of_decide_eq_true zb
          have q219 : x44_2 < (l0_3.length : Int) := of_decide_eq_true zb
          obtain ⟨ad219, A219_1, c219_1, e219, hx219_0, hx219_1, hl219_1, hi219_1⟩ := at_T60 HR0_3.out x44_2 p219 q219
          cases e219
          replace hx219_0 := qw HB hx219_0
          replace hx219_1 := qw HB hx219_1
          have HR219_1 := Aside0.mk hi219_1
          have HC219_1 := Aside0.mk hl219_1
          clear hi219_1 hl219_1
          replace p219 := eq_true p219
          replace q219 := eq_true q219
          go_upto_region 7 with (first | ((with_reducible refine gate_dst (N := 5) rfl ?_); (try (refine gate_guard zdy ?_; dsimp only)); refine qB 5 #[.int .i64 0, .slice none 0 0] 60 ?_; intro gb220 hg w25 hbox hb; replace HO_3 := Aside0.mk (Kd.R_below zaa hb); have BK220 := Aside0.mk (hbox); have GW220 := Aside0.mk ((by rw [hg]; exact (below_size zag) : w.heap.size ≤ gb220)); have GE220 := GW220; replace HB := Aside0.mk (below_step zag hb); have NB212_220 := Aside0.mk ((by rw [hg]; exact Nat.ne_of_lt (bL BK212.out) : gb212 ≠ gb220)); have NB220_212 := Aside0.mk NB212_220.out.symm; replace BK212 := Aside0.mk (bB BK212.out hb); clear hb hbox hg; have hnb26 := NB220_212.out; have hnc26 := NB212_220.out; obtain ⟨_, _, _, _⟩ := qk2 BK220.out))
          (try simp only [Act.put, qa, qb, qc])
          go_cut [68] (fun v68 wc => ∃ (kq : Nat) (x68_23 : Bool), v68 = .bool x68_23 ∧ Aside0 (impl_MetaOk.j2 kq x3_2 l0_3 (l0_3.length : Int) x44_2 x68_23 a0_0 a0_1 a0_2 l0_3 ((rd_T60 l0_3 x44_2).f0) ((rd_T60 l0_3 x44_2).f1) = some r) ∧ Aside0 (kq ≤ k2) ∧ Aside0 (Kd.R (Kd.int .i64) 3 wc w.heap.size (fun _ => True) u3 x3_2) ∧ Aside0 (wc.heap[gb212]? = some (.cells #[.int .i64 a0_0, .int .i64 a0_1, .int .i64 a0_2, (.slice (some ad219) l0_3.length c0_3)] 24 (0, 0))) ∧ Aside0 (wc.heap[gb220]? = some (.cells #[.int .i64 ((rd_T60 l0_3 x44_2).f0), (.slice A219_1 ((rd_T60 l0_3 x44_2).f1).length c219_1)] 60 (0, 0))) ∧ Aside0 (Below w.heap.size w wc))
          case first =>
            have H := HC24.out
            clear HC24
            replace H := qi H
            obtain ⟨t221, A28, H⟩ := H
            by_cases c29 : t221 = true
            case neg =>
              replace c29 := Bool.eq_false_iff.mpr c29
              subst c29
              rw [if_neg (qj)] at H
              have H' := Aside0.mk H
              clear H
              try go_wp2
              have n0_ : Aside0 (Kd.R (Kd.int .i64) 3 ((w25.setCell ⟨gb220, 0, none⟩ (.int .i64 ((rd_T60 l0_3 x44_2).f0))).setCell ⟨gb220, 1, none⟩ (.slice A219_1 ((rd_T60 l0_3 x44_2).f1).length c219_1)) w.heap.size (fun _ => True) u3 x3_2) := ⟨Kd.R_mono (rK HO_3.out BK220.out) (fun _ _ => trivial)⟩
              have n1_ : Aside0 (((w25.setCell ⟨gb220, 0, none⟩ (.int .i64 ((rd_T60 l0_3 x44_2).f0))).setCell ⟨gb220, 1, none⟩ (.slice A219_1 ((rd_T60 l0_3 x44_2).f1).length c219_1)).heap[gb212]? = some (.cells #[.int .i64 a0_0, .int .i64 a0_1, .int .i64 a0_2, .slice (some ad219) l0_3.length c0_3] 24 (0, 0))) := ⟨zbh⟩
              have n2_ : Aside0 (((w25.setCell ⟨gb220, 0, none⟩ (.int .i64 ((rd_T60 l0_3 x44_2).f0))).setCell ⟨gb220, 1, none⟩ (.slice A219_1 ((rd_T60 l0_3 x44_2).f1).length c219_1)).heap[gb220]? = some (.cells #[.int .i64 ((rd_T60 l0_3 x44_2).f0), .slice A219_1 ((rd_T60 l0_3 x44_2).f1).length c219_1] 60 (0, 0))) := ⟨za4⟩
              have n3_ : Aside0 (Below w.heap.size w ((w25.setCell ⟨gb220, 0, none⟩ (.int .i64 ((rd_T60 l0_3 x44_2).f0))).setCell ⟨gb220, 1, none⟩ (.slice A219_1 ((rd_T60 l0_3 x44_2).f1).length c219_1))) := ⟨zx⟩
              (try clear HO_3)
              (try clear BK212)
              (try clear BK220)
              (try clear HB)
              generalize ((w25.setCell ⟨gb220, 0, none⟩ (.int .i64 ((rd_T60 l0_3 x44_2).f0))).setCell ⟨gb220, 1, none⟩ (.slice A219_1 ((rd_T60 l0_3 x44_2).f1).length c219_1)) = w40 at n0_ n1_ n2_ n3_ ⊢
              have HO_3 := n0_
              have BK212 := n1_
              have BK220 := n2_
              have HB := n3_
              clear n0_ n1_ n2_ n3_
              replace HO_3 := Aside0.mk (Kd.R_drew HO_3.out)
              replace BK212 := Aside0.mk (blk_drew BK212.out)
              replace BK220 := Aside0.mk (blk_drew BK220.out)
              replace HB := Aside0.mk (below_drew1 HB.out)
              refine start_ (n := 20) (S := fun w' => w'.cell? ⟨gb220, 0, none⟩ = some (.int .i64 ((rd_T60 l0_3 x44_2).f0)) ∧ w'.cell? ⟨gb220, 1, none⟩ = some (.slice A219_1 ((rd_T60 l0_3 x44_2).f1).length c219_1) ∧ w'.cell? ⟨gb212, 0, none⟩ = some (.int .i64 a0_0) ∧ w'.cell? ⟨gb212, 1, none⟩ = some (.int .i64 a0_1) ∧ w'.cell? ⟨gb212, 2, none⟩ = some (.int .i64 a0_2) ∧ w'.cell? ⟨gb212, 3, none⟩ = some (.slice (some ad219) l0_3.length c0_3)) (ds := []) (bz 20 0) za5 rfl rfl ⟨qx BK220 0, qx BK220 1, qx BK212 0, qx BK212 1, qx BK212 2, qx BK212 3⟩ (fun hHeld => ?_); refine with_tabW impl_MetaOk.tab7 impl_MetaOk.bits7 (fun HT_ HW_ => ?_)
              generalize w40.drew = w41 at HO_3 BK212 BK220 HB hHeld ⊢
              refine qt 0 (some 49) (bz 20 1) HT_ HW_ hHeld ?_
              refine qt 1 (some 50) (bz 20 3) HT_ HW_ hHeld ?_
              refine qs 2 (some 51) (bz 20 7) HT_ rfl rfl (fun K hK => ?_)
              refine goes_ Try.func77 za5 rfl #[.agg #[.int .i64 ((rd_T60 l0_3 x44_2).f0), .slice A219_1 ((rd_T60 l0_3 x44_2).f1).length c219_1], .agg #[.int .i64 a0_0, .int .i64 a0_1, .int .i64 a0_2, .slice (some ad219) l0_3.length c0_3]] zdy rfl rfl zv ?_
              with_reducible refine (impl_freeOk.calls k2 ((rd_T60 l0_3 x44_2).f0) _ _ ((rd_T60 l0_3 x44_2).f1) a0_0 a0_1 a0_2 _ _ l0_3 false _ ?side1 ?side2 ?side3 ?side4 A28.out).mono ?_
              (case side1 => exact zc1)
              (case side2 => exact HC219_1.out)
              (case side3 => exact zbe)
              (case side4 => exact HC0_3.out)
              rintro e w42 ⟨rfl, hb⟩
              refine ⟨_, rfl, ?_⟩
              replace HO_3 := Aside0.mk (Kd.R_below zaa hb)
              replace BK212 := Aside0.mk (bB BK212.out hb)
              replace BK220 := Aside0.mk (bB BK220.out hb)
              replace HB := Aside0.mk (below_step zx hb)
              try clear hb
              refine hK.out _ _ ⟨qx BK220 0, qx BK220 1, qx BK212 0, qx BK212 1, qx BK212 2, qx BK212 3⟩ (fun hHeld => ?_)
              clear hK K
              refine qr (some 51) ?_
              refine ql 3 (some 52) (bz 20 15) HT_ ?_
              refine ql 4 (some 53) (bz 20 31) HT_ ?_
              refine qo 5 (some 54) (bz 20 63) HT_ ?_
              refine qo 6 (some 55) (bz 20 127) HT_ ?_
              refine qo 7 (some 56) (bz 20 255) HT_ ?_
              refine qo 8 (some 57) (bz 20 511) HT_ ?_
              refine qo 9 (some 58) (bz 20 1023) HT_ ?_
              refine qo 10 (some 59) (bz 20 2047) HT_ ?_
              refine qo 11 (some 60) (bz 20 4095) HT_ ?_
              refine qo 12 (some 61) (bz 20 8191) HT_ ?_
              refine qo 13 (some 62) (bz 20 16383) HT_ ?_
              refine qo 14 (some 63) (bz 20 32767) HT_ ?_
              refine qo 15 (some 64) (bz 20 65535) HT_ ?_
              refine qo 16 (some 65) (bz 20 131071) HT_ ?_
              refine qo 17 (some 66) (bz 20 262143) HT_ ?_
              refine qo 18 (some 67) (bz 20 524287) HT_ ?_
              refine ql 19 (some 68) (bz 20 1048575) HT_ ?_
              refine qu HT_ ?_
              try go_wp2
              go_meet
              case rel => exact ⟨_, (true), zd, H', ⟨zdb⟩, ⟨zaa⟩, ⟨za6⟩, ⟨zcv⟩, ⟨zx⟩⟩
            subst c29
            rw [if_pos rfl] at H
            by_cases c30 : x44_2 > 0
            case neg =>
              rw [if_neg c30] at H
              have c30b0 : decide (0 < x44_2) = false := decide_eq_false c30
              clear c30
              (first | rw [c30b0] | (simp only [i64_w, i32_w]; rw [c30b0]) | skip)
              have H' := Aside0.mk H
              clear H
              try go_wp2
              have n0_ : Aside0 (Kd.R (Kd.int .i64) 3 ((w25.setCell ⟨gb220, 0, none⟩ (.int .i64 ((rd_T60 l0_3 x44_2).f0))).setCell ⟨gb220, 1, none⟩ (.slice A219_1 ((rd_T60 l0_3 x44_2).f1).length c219_1)) w.heap.size (fun _ => True) u3 x3_2) := ⟨Kd.R_mono (rK HO_3.out BK220.out) (fun _ _ => trivial)⟩
              have n1_ : Aside0 (((w25.setCell ⟨gb220, 0, none⟩ (.int .i64 ((rd_T60 l0_3 x44_2).f0))).setCell ⟨gb220, 1, none⟩ (.slice A219_1 ((rd_T60 l0_3 x44_2).f1).length c219_1)).heap[gb212]? = some (.cells #[.int .i64 a0_0, .int .i64 a0_1, .int .i64 a0_2, .slice (some ad219) l0_3.length c0_3] 24 (0, 0))) := ⟨zbh⟩
              have n2_ : Aside0 (((w25.setCell ⟨gb220, 0, none⟩ (.int .i64 ((rd_T60 l0_3 x44_2).f0))).setCell ⟨gb220, 1, none⟩ (.slice A219_1 ((rd_T60 l0_3 x44_2).f1).length c219_1)).heap[gb220]? = some (.cells #[.int .i64 ((rd_T60 l0_3 x44_2).f0), .slice A219_1 ((rd_T60 l0_3 x44_2).f1).length c219_1] 60 (0, 0))) := ⟨za4⟩
              have n3_ : Aside0 (Below w.heap.size w ((w25.setCell ⟨gb220, 0, none⟩ (.int .i64 ((rd_T60 l0_3 x44_2).f0))).setCell ⟨gb220, 1, none⟩ (.slice A219_1 ((rd_T60 l0_3 x44_2).f1).length c219_1))) := ⟨zx⟩
              (try clear HO_3)
              (try clear BK212)
              (try clear BK220)
              (try clear HB)
              generalize ((w25.setCell ⟨gb220, 0, none⟩ (.int .i64 ((rd_T60 l0_3 x44_2).f0))).setCell ⟨gb220, 1, none⟩ (.slice A219_1 ((rd_T60 l0_3 x44_2).f1).length c219_1)) = w37 at n0_ n1_ n2_ n3_ ⊢
              have HO_3 := n0_
              have BK212 := n1_
              have BK220 := n2_
              have HB := n3_
              clear n0_ n1_ n2_ n3_
              replace HO_3 := Aside0.mk (Kd.R_drew HO_3.out)
              replace BK212 := Aside0.mk (blk_drew BK212.out)
              replace BK220 := Aside0.mk (blk_drew BK220.out)
              replace HB := Aside0.mk (below_drew1 HB.out)
              refine start_ (n := 20) (S := fun w' => w'.cell? ⟨gb220, 0, none⟩ = some (.int .i64 ((rd_T60 l0_3 x44_2).f0)) ∧ w'.cell? ⟨gb220, 1, none⟩ = some (.slice A219_1 ((rd_T60 l0_3 x44_2).f1).length c219_1) ∧ w'.cell? ⟨gb212, 0, none⟩ = some (.int .i64 a0_0) ∧ w'.cell? ⟨gb212, 1, none⟩ = some (.int .i64 a0_1) ∧ w'.cell? ⟨gb212, 2, none⟩ = some (.int .i64 a0_2) ∧ w'.cell? ⟨gb212, 3, none⟩ = some (.slice (some ad219) l0_3.length c0_3)) (ds := []) (bz 20 0) za5 rfl rfl ⟨qx BK220 0, qx BK220 1, qx BK212 0, qx BK212 1, qx BK212 2, qx BK212 3⟩ (fun hHeld => ?_); refine with_tabW impl_MetaOk.tab7 impl_MetaOk.bits7 (fun HT_ HW_ => ?_)
              generalize w37.drew = w38 at HO_3 BK212 BK220 HB hHeld ⊢
              refine qt 0 (some 49) (bz 20 1) HT_ HW_ hHeld ?_
              refine qt 1 (some 50) (bz 20 3) HT_ HW_ hHeld ?_
              refine qs 2 (some 51) (bz 20 7) HT_ rfl rfl (fun K hK => ?_)
              refine goes_ Try.func77 za5 rfl #[.agg #[.int .i64 ((rd_T60 l0_3 x44_2).f0), .slice A219_1 ((rd_T60 l0_3 x44_2).f1).length c219_1], .agg #[.int .i64 a0_0, .int .i64 a0_1, .int .i64 a0_2, .slice (some ad219) l0_3.length c0_3]] zdy rfl rfl zv ?_
              with_reducible refine (impl_freeOk.calls k2 ((rd_T60 l0_3 x44_2).f0) _ _ ((rd_T60 l0_3 x44_2).f1) a0_0 a0_1 a0_2 _ _ l0_3 true _ ?side1 ?side2 ?side3 ?side4 A28.out).mono ?_
              (case side1 => exact zc1)
              (case side2 => exact HC219_1.out)
              (case side3 => exact zbe)
              (case side4 => exact HC0_3.out)
              rintro e w39 ⟨rfl, hb⟩
              refine ⟨_, rfl, ?_⟩
              replace HO_3 := Aside0.mk (Kd.R_below zaa hb)
              replace BK212 := Aside0.mk (bB BK212.out hb)
              replace BK220 := Aside0.mk (bB BK220.out hb)
              replace HB := Aside0.mk (below_step zx hb)
              try clear hb
              refine hK.out _ _ ⟨qx BK220 0, qx BK220 1, qx BK212 0, qx BK212 1, qx BK212 2, qx BK212 3⟩ (fun hHeld => ?_)
              clear hK K
              refine qr (some 51) ?_
              refine ql 3 (some 52) (bz 20 15) HT_ ?_
              refine ql 4 (some 53) (bz 20 31) HT_ ?_
              refine ql 5 (some 54) (bz 20 63) HT_ ?_
              refine ql 6 (some 55) (bz 20 127) HT_ ?_
              refine ql 7 (some 56) (bz 20 255) HT_ ?_
              refine qo 8 (some 57) (bz 20 511) HT_ ?_
              refine qo 9 (some 58) (bz 20 1023) HT_ ?_
              refine qo 10 (some 59) (bz 20 2047) HT_ ?_
              refine qo 11 (some 60) (bz 20 4095) HT_ ?_
              refine qo 12 (some 61) (bz 20 8191) HT_ ?_
              refine qo 13 (some 62) (bz 20 16383) HT_ ?_
              refine qo 14 (some 63) (bz 20 32767) HT_ ?_
              refine qo 15 (some 64) (bz 20 65535) HT_ ?_
              refine qo 16 (some 65) (bz 20 131071) HT_ ?_
              refine qo 17 (some 66) (bz 20 262143) HT_ ?_
              refine ql 18 (some 67) (bz 20 524287) HT_ ?_
              refine ql 19 (some 68) (bz 20 1048575) HT_ ?_
              refine qu HT_ ?_
              try go_wp2
              go_meet
              case rel => exact ⟨_, (false), zd, H', ⟨zdb⟩, ⟨zaa⟩, ⟨za6⟩, ⟨zcv⟩, ⟨zx⟩⟩
            rw [if_pos c30] at H
            have c30b0 : decide (0 < x44_2) = true := decide_eq_true c30
            clear c30
            (first | rw [c30b0] | (simp only [i64_w, i32_w]; rw [c30b0]) | skip)
            obtain ⟨ji31, hji31⟩ : ∃ j_ : Int, (wrap64 (x44_2 - 1)) = j_ := ⟨_, rfl⟩
            replace H : (if 0 ≤ (ji31) then (if (ji31) < (l0_3.length : Int) then (impl_MetaOk.j2 k2 x3_2 l0_3 (l0_3.length : Int) x44_2 (decide (((rd_T60 l0_3 (ji31)).f0) ≥ ((rd_T60 l0_3 x44_2).f0))) a0_0 a0_1 a0_2 l0_3 ((rd_T60 l0_3 x44_2).f0) ((rd_T60 l0_3 x44_2).f1)) else (none)) else (none)) = some r := by first | (rw [hji31] at H; exact H) | (simp only [hji31] at H ⊢; exact H)
            (try rw [hji31] at A28)
            have hji31w : (IntKind.i64.wrap (x44_2 - 1)) = ji31 := (i64_w _).trans hji31
            by_cases c32 : 0 ≤ (ji31)
            case neg => exact qn c32 H
            rw [if_pos c32] at H
            have c32b0 := decide_eq_true c32
            clear c32
            by_cases c33 : (ji31) < (l0_3.length : Int)
            case neg => exact qn c33 H
            rw [if_pos c33] at H
            have c33b0 := decide_eq_true c33
            clear c33
            have H' := Aside0.mk H
            clear H
            try go_wp2
            have n0_ : Aside0 (Kd.R (Kd.int .i64) 3 ((w25.setCell ⟨gb220, 0, none⟩ (.int .i64 ((rd_T60 l0_3 x44_2).f0))).setCell ⟨gb220, 1, none⟩ (.slice A219_1 ((rd_T60 l0_3 x44_2).f1).length c219_1)) w.heap.size (fun _ => True) u3 x3_2) := ⟨Kd.R_mono (rK HO_3.out BK220.out) (fun _ _ => trivial)⟩
            have n1_ : Aside0 (((w25.setCell ⟨gb220, 0, none⟩ (.int .i64 ((rd_T60 l0_3 x44_2).f0))).setCell ⟨gb220, 1, none⟩ (.slice A219_1 ((rd_T60 l0_3 x44_2).f1).length c219_1)).heap[gb212]? = some (.cells #[.int .i64 a0_0, .int .i64 a0_1, .int .i64 a0_2, .slice (some ad219) l0_3.length c0_3] 24 (0, 0))) := ⟨zbh⟩
            have n2_ : Aside0 (((w25.setCell ⟨gb220, 0, none⟩ (.int .i64 ((rd_T60 l0_3 x44_2).f0))).setCell ⟨gb220, 1, none⟩ (.slice A219_1 ((rd_T60 l0_3 x44_2).f1).length c219_1)).heap[gb220]? = some (.cells #[.int .i64 ((rd_T60 l0_3 x44_2).f0), .slice A219_1 ((rd_T60 l0_3 x44_2).f1).length c219_1] 60 (0, 0))) := ⟨za4⟩
            have n3_ : Aside0 (Below w.heap.size w ((w25.setCell ⟨gb220, 0, none⟩ (.int .i64 ((rd_T60 l0_3 x44_2).f0))).setCell ⟨gb220, 1, none⟩ (.slice A219_1 ((rd_T60 l0_3 x44_2).f1).length c219_1))) := ⟨zx⟩
            (try clear HO_3)
            (try clear BK212)
            (try clear BK220)
            (try clear HB)
            generalize ((w25.setCell ⟨gb220, 0, none⟩ (.int .i64 ((rd_T60 l0_3 x44_2).f0))).setCell ⟨gb220, 1, none⟩ (.slice A219_1 ((rd_T60 l0_3 x44_2).f1).length c219_1)) = w34 at n0_ n1_ n2_ n3_ ⊢
            have HO_3 := n0_
            have BK212 := n1_
            have BK220 := n2_
            have HB := n3_
            clear n0_ n1_ n2_ n3_
            replace HO_3 := Aside0.mk (Kd.R_drew HO_3.out)
            replace BK212 := Aside0.mk (blk_drew BK212.out)
            replace BK220 := Aside0.mk (blk_drew BK220.out)
            replace HB := Aside0.mk (below_drew1 HB.out)
            have p222 : 0 ≤ ((ji31) : Int) := of_decide_eq_true zb
            have q222 : (ji31) < (l0_3.length : Int) := of_decide_eq_true zb
            obtain ⟨ad222, A222_1, c222_1, e222, hx222_0, hx222_1, hl222_1, hi222_1⟩ := at_T60 HR0_3.out (ji31) p222 q222
            have hw222_1 := hx222_1
            have hw222_0 := hx222_0
            obtain rfl : ad219 = ad222 := (by injection e222)
            replace hx222_0 := qw HB hx222_0
            replace hx222_1 := qw HB hx222_1
            clear hi222_1 hl222_1
            replace p222 := eq_true p222
            replace q222 := eq_true q222
            refine start_ (n := 20) (S := fun w' => w'.cell? ⟨gb220, 0, none⟩ = some (.int .i64 ((rd_T60 l0_3 x44_2).f0)) ∧ w'.cell? ⟨gb220, 1, none⟩ = some (.slice A219_1 ((rd_T60 l0_3 x44_2).f1).length c219_1) ∧ w'.cell? ⟨gb212, 0, none⟩ = some (.int .i64 a0_0) ∧ w'.cell? ⟨gb212, 1, none⟩ = some (.int .i64 a0_1) ∧ w'.cell? ⟨gb212, 2, none⟩ = some (.int .i64 a0_2) ∧ w'.cell? ⟨gb212, 3, none⟩ = some (.slice (some ad219) l0_3.length c0_3) ∧ w'.cell? (ad219.add (((ji31)).toNat * 2)) = some (.int .i64 ((rd_T60 l0_3 (ji31)).f0)) ∧ w'.cell? ⟨(ad219.add (((ji31)).toNat * 2)).block, (ad219.add (((ji31)).toNat * 2)).off + 1, none⟩ = some (.slice A222_1 ((rd_T60 l0_3 (ji31)).f1).length c222_1)) (ds := []) (bz 20 0) za5 rfl rfl ⟨qx BK220 0, qx BK220 1, qx BK212 0, qx BK212 1, qx BK212 2, qx BK212 3, (qw HB hw222_0), (qw HB hw222_1)⟩ (fun hHeld => ?_); refine with_tabW impl_MetaOk.tab7 impl_MetaOk.bits7 (fun HT_ HW_ => ?_)
            generalize w34.drew = w35 at HO_3 BK212 BK220 HB hx222_0 hx222_1 hHeld ⊢
            refine qt 0 (some 49) (bz 20 1) HT_ HW_ hHeld ?_
            refine qt 1 (some 50) (bz 20 3) HT_ HW_ hHeld ?_
            refine qs 2 (some 51) (bz 20 7) HT_ rfl rfl (fun K hK => ?_)
            refine goes_ Try.func77 za5 rfl #[.agg #[.int .i64 ((rd_T60 l0_3 x44_2).f0), .slice A219_1 ((rd_T60 l0_3 x44_2).f1).length c219_1], .agg #[.int .i64 a0_0, .int .i64 a0_1, .int .i64 a0_2, .slice (some ad219) l0_3.length c0_3]] zdy rfl rfl zv ?_
            with_reducible refine (impl_freeOk.calls k2 ((rd_T60 l0_3 x44_2).f0) _ _ ((rd_T60 l0_3 x44_2).f1) a0_0 a0_1 a0_2 _ _ l0_3 true _ ?side1 ?side2 ?side3 ?side4 A28.out).mono ?_
            (case side1 => exact zc1)
            (case side2 => exact HC219_1.out)
            (case side3 => exact zbe)
            (case side4 => exact HC0_3.out)
            rintro e w36 ⟨rfl, hb⟩
            refine ⟨_, rfl, ?_⟩
            replace HO_3 := Aside0.mk (Kd.R_below zaa hb)
            replace BK212 := Aside0.mk (bB BK212.out hb)
            replace BK220 := Aside0.mk (bB BK220.out hb)
            replace HB := Aside0.mk (below_step zx hb)
            try clear hb
            refine hK.out _ _ ⟨qx BK220 0, qx BK220 1, qx BK212 0, qx BK212 1, qx BK212 2, qx BK212 3, (qw HB hw222_0), (qw HB hw222_1)⟩ (fun hHeld => ?_)
            clear hK K
            refine qr (some 51) ?_
            refine ql 3 (some 52) (bz 20 15) HT_ ?_
            refine ql 4 (some 53) (bz 20 31) HT_ ?_
            refine ql 5 (some 54) (bz 20 63) HT_ ?_
            refine ql 6 (some 55) (bz 20 127) HT_ ?_
            refine ql 7 (some 56) (bz 20 255) HT_ ?_
            refine ql 8 (some 57) (bz 20 511) HT_ ?_
            refine ql 10 (some 59) (bz 20 1535) HT_ ?_
            refine ql 11 (some 60) (bz 20 3583) HT_ ?_
            refine ql 15 (some 64) (bz 20 36351) HT_ ?_
            refine qt 9 (some 58) (bz 20 36863) HT_ HW_ hHeld ?_
            refine ql 12 (some 61) (bz 20 40959) HT_ ?_
            refine ql 13 (some 62) (bz 20 49151) HT_ ?_
            refine qt 14 (some 63) (bz 20 65535) HT_ HW_ hHeld ?_
            refine qt 16 (some 65) (bz 20 131071) HT_ HW_ hHeld ?_
            refine ql 17 (some 66) (bz 20 262143) HT_ ?_
            refine ql 18 (some 67) (bz 20 524287) HT_ ?_
            refine ql 19 (some 68) (bz 20 1048575) HT_ ?_
            refine qu HT_ ?_
            try go_wp2
            go_meet
            case rel => exact ⟨_, (decide (((rd_T60 l0_3 (ji31)).f0) ≥ ((rd_T60 l0_3 x44_2).f0))), (by first | rfl | (simp; done) | (simp only [← hji31] <;> (first | rfl | simp)) | (simp [*]; done)), H', ⟨zdb⟩, ⟨zaa⟩, ⟨za6⟩, ⟨zcv⟩, ⟨zx⟩⟩
          case rest =>
            clear HC24
            (try clear c7); (try clear c21); (try clear c22); (try clear c29); (try clear c30); (try clear c30b0); (try clear c32); (try clear c33); (try clear c33b0); (try clear hx222_0); (try clear hx222_1); (try clear p222); (try clear q222)
            obtain ⟨kq, x68_23, rfl, HA, HJ23, HO_3, BK212, BK220, HB⟩ := hcut
            cases kq with
            | zero => exact absurd HA.out (by simp [impl_MetaOk.j2])
            | succ kj23 =>
              have H := HA.out
              clear HA
              simp only [impl_MetaOk.j2] at H
              by_cases c43 : x68_23 = true
              case pos => subst c43; rw [if_pos rfl] at H; obtain rfl := Option.some.inj H; go_wp2; go_ret; exact ⟨zc, zx⟩
              replace c43 := Bool.eq_false_iff.mpr c43
              subst c43
              rw [if_neg (qj)] at H
              have H' := Aside0.mk H
              clear H
              have hnb44 := NB220_212.out
              have hnc44 := NB212_220.out
              obtain ⟨hcz45_0, hcz45_1, hfz45_0, hfz45_1⟩ := qk2 BK220.out
              go_wp2
              go_loopg [3, 72] kj23 (fun kq v3 v72 w' => ∃ (x3_4 : List Int) (x72_4 : Int), v72 = .int .i64 x72_4 ∧ Aside0 (impl_MetaOk.l1 kq x3_4 l0_3 (l0_3.length : Int) x44_2 ((rd_T60 l0_3 x44_2).f1) (((rd_T60 l0_3 x44_2).f1).length : Int) x72_4 a0_0 a0_1 a0_2 l0_3 = some r) ∧ Aside0 (kq ≤ kj23) ∧ Aside0 (Kd.R (Kd.int .i64) 3 w' w.heap.size (fun _ => True) v3 x3_4) ∧ Aside0 (w'.heap[gb212]? = some (.cells #[.int .i64 a0_0, .int .i64 a0_1, .int .i64 a0_2, (.slice (some ad219) l0_3.length c0_3)] 24 (0, 0))) ∧ Aside0 (w'.heap[gb220]? = some (.cells #[.int .i64 ((rd_T60 l0_3 x44_2).f0), (.slice A219_1 ((rd_T60 l0_3 x44_2).f1).length c219_1)] 60 (0, 0))) ∧ Aside0 (Below w.heap.size w w'))
              case atStart => exact ⟨(x3_2), (0), zd, H', ⟨Nat.le_refl _⟩, ⟨zaa⟩, ⟨za6⟩, ⟨zcv⟩, ⟨zx⟩⟩
              case round =>
                clear H'
                (try clear c7); (try clear c21); (try clear c22); (try clear c29); (try clear c30); (try clear c30b0); (try clear c32); (try clear c33); (try clear c33b0); (try clear c43); (try clear hcz45_0 hcz45_1 hfz45_0 hfz45_1); (try clear hx222_0); (try clear hx222_1); (try clear p222); (try clear q222)
                try clear HO_3 BK212 BK220 HB
                obtain ⟨x3_4, x72_4, rfl, HA, HK4, HO_3, BK212, BK220, HB⟩ := hrel
                cases gk with
                | zero => exact absurd HA.out (by simp [impl_MetaOk.l1])
                | succ k4 =>
                  have H := HA.out
                  clear HA
                  simp only [impl_MetaOk.l1] at H
                  by_cases c46 : x72_4 < (((rd_T60 l0_3 x44_2).f1).length : Int)
                  case neg =>
                    rw [if_neg c46] at H
                    have c46b0 := decide_eq_false c46
                    clear c46
                    have H' := Aside0.mk H
                    clear H
                    go_wp2
                    go_roundg k4
                    case measure => have := HJ1.out; have := HK2.out; have := HJ23.out; have := HK4.out; omega
                    case rel => exact ⟨(x3_4), (wrap64 (x44_2 + 1)), zd, H', ⟨by have := HJ1.out; have := HK2.out; have := HJ23.out; have := HK4.out; omega⟩, ⟨zaa⟩, ⟨za6⟩, ⟨zx⟩⟩
                  rw [if_pos c46] at H
                  have c46b0 := decide_eq_true c46
                  clear c46
                  by_cases c47 : 0 ≤ x72_4
                  case neg => exact qn c47 H
                  rw [if_pos c47] at H
                  have c47b0 := decide_eq_true c47
                  clear c47
                  by_cases c48 : x72_4 < (((rd_T60 l0_3 x44_2).f1).length : Int)
                  case neg => exact qn c48 H
                  rw [if_pos c48] at H
                  have c48b0 := decide_eq_true c48
                  clear c48
                  replace H := qi H
                  obtain ⟨t224, A49, H⟩ := H
                  by_cases c50 : t224 = true
                  case pos =>
                    subst c50
                    rw [if_pos rfl] at H
                    obtain rfl := Option.some.inj H
                    have p223 : 0 ≤ (x72_4 : Int) := of_decide_eq_true zb
                    have q223 : x72_4 < (((rd_T60 l0_3 x44_2).f1).length : Int) := of_decide_eq_true zb
                    obtain ⟨ad223, e223, hx223_0⟩ := Kd.at_int HR219_1.out x72_4 p223 q223
                    cases e223
                    replace hx223_0 := qw HB hx223_0
                    replace p223 := eq_true p223
                    replace q223 := eq_true q223
                    obtain ⟨Ao51, co51, eo51⟩ := Kd.R_slice HO_3.out
                    subst eo51
                    go_wp2_with (first | ((with_reducible refine gate_callee (f := 78) rfl ?_); refine qG (some 78) Try.func78 #[.slice Ao51 x3_4.length co51, .int .i64 (rd ((rd_T60 l0_3 x44_2).f1) x72_4)] ?_; (with_reducible refine (slices_Contains_int_int.calls k4 _ _ x3_4 (rd ((rd_T60 l0_3 x44_2).f1) x72_4) true _ ?side1 ?side2 A49.out).mono ?_); (case side1 => exact zck); (case side2 => exact (Kd.R_reads' HO_3.out).2.1); rintro e w' ⟨rfl, ⟨nd, rfl⟩⟩; refine ⟨_, rfl, ?_⟩))
                    go_ret
                    exact ⟨zc, zx⟩
                  replace c50 := Bool.eq_false_iff.mpr c50
                  subst c50
                  rw [if_neg (qj)] at H
                  by_cases c52 : x3_4.length < 17592186044416
                  case neg => exact qn c52 H
                  rw [if_pos c52] at H
                  have LMc52 := Aside0.mk c52
                  clear c52
                  obtain ⟨y225, hy225⟩ : ∃ y_ : List Int, y_ = (x3_4 ++ [rd ((rd_T60 l0_3 x44_2).f1) x72_4]) := ⟨_, rfl⟩
                  replace H : (impl_MetaOk.l1 k4 y225 l0_3 (l0_3.length : Int) x44_2 ((rd_T60 l0_3 x44_2).f1) (((rd_T60 l0_3 x44_2).f1).length : Int) (wrap64 (x72_4 + 1)) a0_0 a0_1 a0_2 l0_3) = some r := by first | (rw [hy225]; with_reducible exact H) | (have H2_ := (Option.bind_some _ _).symm.trans H; rw [hy225]; with_reducible exact H2_) | (have H2_ := (Option.bind_some _ _).symm.trans H; with_reducible exact H2_) | with_reducible exact H | (rw [hy225]; exact H) | exact H
                  have Ny225 := Aside0.mk hy225
                  clear hy225
                  have H' := Aside0.mk H
                  clear H
                  have p223 : 0 ≤ (x72_4 : Int) := of_decide_eq_true zb
                  have q223 : x72_4 < (((rd_T60 l0_3 x44_2).f1).length : Int) := of_decide_eq_true zb
                  obtain ⟨ad223, e223, hx223_0⟩ := Kd.at_int HR219_1.out x72_4 p223 q223
                  cases e223
                  replace hx223_0 := qw HB hx223_0
                  replace p223 := eq_true p223
                  replace q223 := eq_true q223
                  obtain ⟨Ao53, co53, eo53⟩ := Kd.R_slice HO_3.out
                  subst eo53
                  go_wp2_with (first | ((with_reducible refine gate_callee (f := 78) rfl ?_); refine qG (some 78) Try.func78 #[.slice Ao53 x3_4.length co53, .int .i64 (rd ((rd_T60 l0_3 x44_2).f1) x72_4)] ?_; (with_reducible refine (slices_Contains_int_int.calls k4 _ _ x3_4 (rd ((rd_T60 l0_3 x44_2).f1) x72_4) false _ ?side1 ?side2 A49.out).mono ?_); (case side1 => exact zck); (case side2 => exact (Kd.R_reads' HO_3.out).2.1); rintro e w' ⟨rfl, ⟨nd, rfl⟩⟩; refine ⟨_, rfl, ?_⟩) | ((with_reducible refine gate_builtin (b := .append) (xs := #[.tmp 79, .tmp 81]) rfl ?_); (try (refine gate_guard zdy ?_; dsimp only)); at_builtin; refine Kd.R_append (Kd.int .i64) (w0 := w) w.heap.size rfl (.tmp 79) (.tmp 81) 58 3 (.int .i64 0) 8 rfl Try.underlying58 info3 rfl zbf zd4 (.slice Ao53 x3_4.length co53) x3_4 (rd ((rd_T60 l0_3 x44_2).f1) x72_4) [.int .i64 (rd ((rd_T60 l0_3 x44_2).f1) x72_4)] (fun _ => True) (fun _ => False) rfl rfl ?aP (fun _ hk => hk.elim) ?aF ?aO ?aB ?aS ?aL ?_; (case aP => exact rfl); (case aB => exact zx); (case aF => exact (fun _ _ => trivial)); (case aO => exact zaa); (case aS => exact (below_size zx)); (case aL => have := LMc52.out; omega); intro v226 w54 ho hb hg hat; rw [← Ny225.out] at ho; replace BK212 := Aside0.mk (blk_grown (bP BK212.out) hg (Kd.R_ne HO_3.out BK212.out zbf)); replace BK220 := Aside0.mk (blk_grown (bP BK220.out) hg (Kd.R_ne HO_3.out BK220.out zbf)); replace HB := Aside0.mk (hb); have HO227 := Aside0.mk (ho); clear HO_3; clear ho hb hg hat))
                  go_roundg k4
                  case measure => have := HJ1.out; have := HK2.out; have := HJ23.out; have := HK4.out; omega
                  case rel => exact ⟨(y225), (wrap64 (x72_4 + 1)), zd, H', ⟨by have := HJ1.out; have := HK2.out; have := HJ23.out; have := HK4.out; omega⟩, ⟨by (with_reducible repeat (first | apply Kd.R_alloc | apply Kd.R_drewN | apply Kd.R_drew)); exact HO227.out⟩, ⟨za6⟩, ⟨zcv⟩, ⟨zx⟩⟩
end Go.Proofs.Yteokilffbcbllaa.VFnBest
