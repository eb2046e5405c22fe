-- Written by a program of this repo (wip/myprint.py), over the kit's print; functions that the print does not take stand in it by hand-proved contracts.
import Derived.Test.YteokilffbcbllaaVFnExactBestMetax0
import Derived.Test.YteokilffbcbllaaVFnExactBestMetax10
import Derived.Test.YteokilffbcbllaaVFnExactBestMetax13
namespace Go.Proofs.Yteokilffbcbllaa.VFnExactBestMeta
open Go.RowKit Go.Proofs.YteokilffbcbllaaW.PrintWords Go.Proofs.YteokilffbcbllaaW.PrintLast Go.Proofs.YteokilffbcbllaaW.PrintMore
attribute [local go_sem] max2_int min2_int max_two min_two max_three min_three max_four min_four   -- for this text's walks alone
attribute [local go_sem high] str_leq str_gtr str_geq str_lss
set_option linter.unusedVariables false
set_option linter.unusedSimpArgs false

/-! ### impl_varText: function 62 -/
def impl_varText.l0 : Nat → Int → List Int → Option (ByteArray)
 | 0, _, _ => none
 | k + 1, x0, x3 => if x0 > 127 then (if x3.length < 140737488355328 then (impl_varText.l0 k (x0 / 128) (x3 ++ [(Go.bits .or .i64 (Go.bits .and .i64 x0 127) 128) % 256])) else (none)) else (if x3.length < 140737488355328 then (some (strOfNums (x3 ++ [(x0) % 256]))) else (none))
def impl_varText.f (k : Nat) (a0 : Int) : Option (ByteArray) := impl_varText.l0 k a0 (([] : List Int))
theorem impl_varText.mono_l : ∀ k, (∀ y0 y1, LeO (impl_varText.l0 k y0 y1) (impl_varText.l0 (k + 1) y0 y1))
 | 0 => fun _ _ r h => by simp [impl_varText.l0] at h
 | k + 1 => by
  have ih0 := impl_varText.mono_l k
  ·intro y0 y1
   unfold impl_varText.l0
   repeat' first
   | (with_reducible exact ih0 _ _)
   | (with_reducible exact LeO.refl _)
   | (with_reducible exact LeO.none _)
   | (with_reducible refine LeO.ite ?_ ?_)
   | (with_reducible refine LeO.bind ?_ (fun _ => ?_))
   | exact ih0 _ _
   | exact LeO.none _
   | refine LeO.ite ?_ ?_
   | refine LeO.bind ?_ (fun _ => ?_)
theorem impl_varText.mono : ∀ a0 k, LeO (impl_varText.f k a0) (impl_varText.f (k + 1) a0) := by
 intro a0 k
 have ih0 := impl_varText.mono_l k
 unfold impl_varText.f
 repeat' first
   | (with_reducible exact ih0 _ _)
   | (with_reducible exact LeO.refl _)
   | (with_reducible exact LeO.none _)
   | (with_reducible refine LeO.ite ?_ ?_)
   | (with_reducible refine LeO.bind ?_ (fun _ => ?_))
   | exact ih0 _ _
   | exact LeO.none _
   | refine LeO.ite ?_ ?_
   | refine LeO.bind ?_ (fun _ => ?_)
set_option maxHeartbeats 8000000 in
set_option maxRecDepth 100000 in
theorem impl_varText.calls (k : Nat) (a0 : Int) (r : ByteArray) (w : World) (h : impl_varText.f k a0 = some r) :
  Calls Try.prog 62 #[.int .i64 a0] w fun e w' => e = .returned (.string r) ∧ Below w.heap.size w w' := by
 have HB := qo (Below.refl w.heap.size w)
 have H : (impl_varText.l0 k a0 (([] : List Int))) = some r := h
 clear h
 obtain ⟨y277, hy277⟩ : ∃ y_ : List Int, y_ = (([] : List Int)) := ⟨_, rfl⟩
 replace H : (impl_varText.l0 k a0 y277) = some r := by first | (rw [hy277]; with_reducible exact H) | (have H2_ := (Option.bind_some _ _).symm.trans H; rw [hy277]; with_reducible exact H2_) | (have H2_ := (Option.bind_some _ _).symm.trans H; with_reducible exact H2_) | with_reducible exact H | (rw [hy277]; exact H) | exact H
 have Ny277 := qo hy277
 clear hy277
 have H' := qo H
 clear H
 go_enter Try.func62, Try.ntmps62
 go_wp2_with (first | ((with_reducible refine gate_dst (N := 4) rfl ?_); refine Kd.R_lit (Kd.int .u8) _ 5 ?hg (N := 4) ?hd (xs := ([] : List Int)) (inner := []) (ok := fun _ => True) (okp := fun _ => True) ?hr ?hp (fun _ hk => hk) trivial (Below.refl _ _) (Nat.le_refl _) zbh ?_; (case hd => rfl); (case hg => rfl); (case hr => first | (go_simp; done) | (go_simp; rfl)); (case hp => exact (Reps.none _ _)); intro v278 w2 ho3 hb hg_ hnew_; clear hg_ hnew_; (first | rw [← Ny277.out] at ho3 | (simp only [Int.reduceToNat] at ho3; rw [← Ny277.out] at ho3)); have n0_ := qo (Kd.R_lower ho3 (qp za)); have n1_ := qo (qq za hb); clear HB; have HO279 := n0_; have HB := n1_; clear n0_ n1_; clear hb ho3))
 go_loopg [0, 3] k (fun kq v0 v3 w' => ∃ (x0_1 : Int) (x3_1 : List Int), v0 = .int .i64 x0_1 ∧ Aside0 (impl_varText.l0 kq x0_1 x3_1 = some r) ∧ Aside0 (kq ≤ k) ∧ Aside0 (Kd.R (Kd.int .u8) 5 w' w.heap.size (fun _ => True) v3 x3_1) ∧ Aside0 (Below w.heap.size w w'))
 case atStart => exact ⟨(a0), (y277), zc, H', ⟨Nat.le_refl _⟩, ⟨by (with_reducible repeat (first | apply Kd.R_alloc | apply Kd.R_drewN | apply Kd.R_drew)); exact HO279.out⟩, ⟨za⟩⟩
 case round =>
  clear H'
  (try clear p2)
  obtain ⟨x0_1, x3_1, rfl, HA, HK1, HO_3, HB⟩ := hrel
  cases gk with
  | zero => exact absurd HA.out (by simp [impl_varText.l0])
  | succ k1 =>
   have H := HA.out
   clear HA
   simp only [impl_varText.l0] at H
   by_cases c4 : x0_1 > 127
   ·rw [if_pos c4] at H
    have c4b0 : decide (127 < x0_1) = true := decide_eq_true c4
    clear c4
    by_cases c5 : x3_1.length < 140737488355328
    ·rw [if_pos c5] at H
     have LMc5 := qo c5
     clear c5
     obtain ⟨y280, hy280⟩ : ∃ y_ : List Int, y_ = (x3_1 ++ [(Go.bits .or .i64 (Go.bits .and .i64 x0_1 127) 128) % 256]) := ⟨_, rfl⟩
     replace H : (impl_varText.l0 k1 (x0_1 / 128) y280) = some r := by first | (rw [hy280]; with_reducible exact H) | (have H2_ := (Option.bind_some _ _).symm.trans H; rw [hy280]; with_reducible exact H2_) | (have H2_ := (Option.bind_some _ _).symm.trans H; with_reducible exact H2_) | with_reducible exact H | (rw [hy280]; exact H) | exact H
     have Ny280 := qo hy280
     clear hy280
     have H' := qo H
     clear H
     go_wp2_with (first | ((with_reducible refine gate_builtin (b := .append) (xs := #[.tmp 7, .tmp 12]) rfl ?_); at_builtin; refine Kd.R_append (Kd.int .u8) (w0 := w) w.heap.size rfl (.tmp 7) (.tmp 12) 43 5 (.int .u8 0) 1 rfl Try.underlying43 info5 rfl za7 zck u3 x3_1 ((Go.bits .or .i64 (Go.bits .and .i64 x0_1 127) 128) % 256) [.int .u8 ((Go.bits .or .i64 (Go.bits .and .i64 x0_1 127) 128) % 256)] (fun _ => True) (fun _ => False) rfl rfl ?aP (fun _ hk => hk.elim) ?aF ?aO ?aB ?aS ?aL ?_; (case aP => exact rfl); (case aB => exact za); (case aF => exact (fun _ _ => trivial)); (case aO => exact zs); (case aS => exact (qp za)); (case aL => have := LMc5.out; omega); intro v281 w6 ho hb hg hat; rw [← Ny280.out] at ho; have n0_ := qo (hb); have n1_ := qo (ho); clear HB; clear HO_3; have HB := n0_; have HO282 := n1_; clear n0_ n1_; clear ho hb hg hat))
     go_roundg k1
     case measure => have := HK1.out; omega
     case rel => exact ⟨(x0_1 / 128), (y280), zc, H', ⟨zb9⟩, ⟨by (with_reducible repeat (first | apply Kd.R_alloc | apply Kd.R_drewN | apply Kd.R_drew)); exact HO282.out⟩, ⟨za⟩⟩
    ·rw [if_neg c5] at H
     exact absurd H zbh
   ·rw [if_neg c4] at H
    have c4b0 : decide (127 < x0_1) = false := decide_eq_false c4
    clear c4
    by_cases c7 : x3_1.length < 140737488355328
    ·rw [if_pos c7] at H
     have LMc7 := qo c7
     clear c7
     obtain ⟨y283, hy283⟩ : ∃ y_ : List Int, y_ = (x3_1 ++ [(x0_1) % 256]) := ⟨_, rfl⟩
     replace H : (some (strOfNums y283)) = some r := by first | (rw [hy283]; with_reducible exact H) | (have H2_ := (Option.bind_some _ _).symm.trans H; rw [hy283]; with_reducible exact H2_) | (have H2_ := (Option.bind_some _ _).symm.trans H; with_reducible exact H2_) | with_reducible exact H | (rw [hy283]; exact H) | exact H
     have Ny283 := qo hy283
     clear hy283
     obtain rfl := Option.some.inj H
     go_wp2_with (first | ((with_reducible refine gate_builtin (b := .append) (xs := #[.tmp 16, .tmp 19]) rfl ?_); at_builtin; refine Kd.R_append (Kd.int .u8) (w0 := w) w.heap.size rfl (.tmp 16) (.tmp 19) 43 5 (.int .u8 0) 1 rfl Try.underlying43 info5 rfl za7 zck u3 x3_1 ((x0_1) % 256) [.int .u8 ((x0_1) % 256)] (fun _ => True) (fun _ => False) rfl rfl ?aP (fun _ hk => hk.elim) ?aF ?aO ?aB ?aS ?aL ?_; (case aP => exact rfl); (case aB => exact za); (case aF => exact (fun _ _ => trivial)); (case aO => exact zs); (case aS => exact (qp za)); (case aL => have := LMc7.out; omega); intro v284 w8 ho hb hg hat; rw [← Ny283.out] at ho; have n0_ := qo (hb); have n1_ := qo (ho); clear HB; clear HO_3; have HB := n0_; have HO285 := n1_; clear n0_ n1_; clear ho hb hg hat; have hcv9 := own_string (P := Try.prog) Try.underlying43 Try.underlying5 Try.underlying9 (Kd.own_of_R HO285.out)))
     go_ret
     exact ⟨zd, za⟩
    ·rw [if_neg c7] at H
     exact absurd H zbh

/-! ### impl_MetaText: function 29 -/
mutual
def impl_MetaText.l0 : Nat → ByteArray → List (S60) → Int → Int → Option (ByteArray × Bool)
 | 0, _, _, _, _ => none
 | k + 1, x4, x29, x30, x31 => if x31 < x30 then (if 0 ≤ x31 then (if x31 < (x29.length : Int) then ((impl_varText.f k ((rd_T60 x29 x31).f0)).bind fun t294 => ((impl_varText.f k (((rd_T60 x29 x31).f1).length : Int)).bind fun t295 => (if t294.size + t295.size ≤ 9223372036854775807 then (if x4.size + (t294 ++ t295).size ≤ 9223372036854775807 then (impl_MetaText.l1 k (x4 ++ (t294 ++ t295)) x29 x30 x31 ((rd_T60 x29 x31).f1) (((rd_T60 x29 x31).f1).length : Int) 0) else (none)) else (none)))) else (none)) else (none)) else ((impl_seal.f k x4).bind fun t298 => (if x4.size + t298.size ≤ 9223372036854775807 then (if ((x4 ++ t298).size : Int) > 240 then (some ((⟨#[]⟩ : ByteArray), false)) else (some (x4 ++ t298, true))) else (none)))
def impl_MetaText.l1 : Nat → ByteArray → List (S60) → Int → Int → List Int → Int → Int → Option (ByteArray × Bool)
 | 0, _, _, _, _, _, _, _ => none
 | k + 1, x4, x29, x30, x31, x46, x47, x48 => if x48 < x47 then (if 0 ≤ x48 then (if x48 < (x46.length : Int) then ((impl_varText.f k (rd x46 x48)).bind fun t297 => (if x4.size + t297.size ≤ 9223372036854775807 then (impl_MetaText.l1 k (x4 ++ t297) x29 x30 x31 x46 x47 (wrap64 (x48 + 1))) else (none))) else (none)) else (none)) else (impl_MetaText.l0 k x4 x29 x30 (wrap64 (x31 + 1)))
end
def impl_MetaText.f (k : Nat) (a0_0 : Int) (a0_1 : Int) (a0_2 : Int) (l0_3 : List (S60)) : Option (ByteArray × Bool) := (impl_MetaOk.f k a0_0 a0_1 a0_2 l0_3).bind fun t287 => (if t287 = true then ((impl_varText.f k a0_0).bind fun t288 => ((impl_varText.f k a0_1).bind fun t289 => (if t288.size + t289.size ≤ 9223372036854775807 then ((impl_varText.f k a0_2).bind fun t290 => (if (t288 ++ t289).size + t290.size ≤ 9223372036854775807 then ((impl_varText.f k (l0_3.length : Int)).bind fun t291 => (if ((t288 ++ t289) ++ t290).size + t291.size ≤ 9223372036854775807 then (impl_MetaText.l0 k (((t288 ++ t289) ++ t290) ++ t291) l0_3 (l0_3.length : Int) 0) else (none))) else (none))) else (none)))) else (some ((⟨#[]⟩ : ByteArray), false)))
theorem impl_MetaText.mono_l : ∀ k, (∀ y0 y1 y2 y3, LeO (impl_MetaText.l0 k y0 y1 y2 y3) (impl_MetaText.l0 (k + 1) y0 y1 y2 y3)) ∧ (∀ y0 y1 y2 y3 y4 y5 y6, LeO (impl_MetaText.l1 k y0 y1 y2 y3 y4 y5 y6) (impl_MetaText.l1 (k + 1) y0 y1 y2 y3 y4 y5 y6))
 | 0 => ⟨fun _ _ _ _ r h => by simp [impl_MetaText.l0] at h, fun _ _ _ _ _ _ _ r h => by simp [impl_MetaText.l1] at h⟩
 | k + 1 => by
  obtain ⟨ih0, ih1⟩ := impl_MetaText.mono_l k
  refine ⟨?_, ?_⟩
  ·intro y0 y1 y2 y3
   unfold impl_MetaText.l0
   repeat' first
   | (with_reducible exact ih0 _ _ _ _)
   | (with_reducible exact ih1 _ _ _ _ _ _ _)
   | (with_reducible exact impl_MetaOk.mono _ _ _ _ _)
   | (with_reducible exact impl_seal.mono _ _)
   | (with_reducible exact impl_varText.mono _ _)
   | (with_reducible exact LeO.refl _)
   | (with_reducible exact LeO.none _)
   | (with_reducible refine LeO.ite ?_ ?_)
   | (with_reducible refine LeO.bind ?_ (fun _ => ?_))
   | exact ih0 _ _ _ _
   | exact ih1 _ _ _ _ _ _ _
   | exact impl_MetaOk.mono _ _ _ _ _
   | exact impl_seal.mono _ _
   | exact impl_varText.mono _ _
   | exact LeO.none _
   | refine LeO.ite ?_ ?_
   | refine LeO.bind ?_ (fun _ => ?_)
  ·intro y0 y1 y2 y3 y4 y5 y6
   unfold impl_MetaText.l1
   repeat' first
   | (with_reducible exact ih0 _ _ _ _)
   | (with_reducible exact ih1 _ _ _ _ _ _ _)
   | (with_reducible exact impl_MetaOk.mono _ _ _ _ _)
   | (with_reducible exact impl_seal.mono _ _)
   | (with_reducible exact impl_varText.mono _ _)
   | (with_reducible exact LeO.refl _)
   | (with_reducible exact LeO.none _)
   | (with_reducible refine LeO.ite ?_ ?_)
   | (with_reducible refine LeO.bind ?_ (fun _ => ?_))
   | exact ih0 _ _ _ _
   | exact ih1 _ _ _ _ _ _ _
   | exact impl_MetaOk.mono _ _ _ _ _
   | exact impl_seal.mono _ _
   | exact impl_varText.mono _ _
   | exact LeO.none _
   | refine LeO.ite ?_ ?_
   | refine LeO.bind ?_ (fun _ => ?_)
theorem impl_MetaText.mono : ∀ a0 a1 a2 a3 k, LeO (impl_MetaText.f k a0 a1 a2 a3) (impl_MetaText.f (k + 1) a0 a1 a2 a3) := by
 intro a0 a1 a2 a3 k
 obtain ⟨ih0, ih1⟩ := impl_MetaText.mono_l k
 unfold impl_MetaText.f
 repeat' first
   | (with_reducible exact ih0 _ _ _ _)
   | (with_reducible exact ih1 _ _ _ _ _ _ _)
   | (with_reducible exact impl_MetaOk.mono _ _ _ _ _)
   | (with_reducible exact impl_seal.mono _ _)
   | (with_reducible exact impl_varText.mono _ _)
   | (with_reducible exact LeO.refl _)
   | (with_reducible exact LeO.none _)
   | (with_reducible refine LeO.ite ?_ ?_)
   | (with_reducible refine LeO.bind ?_ (fun _ => ?_))
   | exact ih0 _ _ _ _
   | exact ih1 _ _ _ _ _ _ _
   | exact impl_MetaOk.mono _ _ _ _ _
   | exact impl_seal.mono _ _
   | exact impl_varText.mono _ _
   | exact LeO.none _
   | refine LeO.ite ?_ ?_
   | refine LeO.bind ?_ (fun _ => ?_)
def impl_MetaText.T3 : Bool × List (List Nat × List Nat) := (true, [([], []), ([0], [0]), ([1], [1]), ([], []), ([3], [3]), ([4, 2], [4]), ([2, 5], [2, 5]), ([], []), ([7], [7]), ([8, 5], [8]), ([6, 9], [6, 9]), ([], []), ([11], [11]), ([12], [12]), ([13, 9], [13]), ([10, 14], [10, 14]), ([15, 14, 0, 1, 2, 3, 4, 5, 6, 7, 8, 9, 10, 11, 12, 13, 14, 15], [15])])
def impl_MetaText.B3 : List Nat := [0, 1, 3, 0, 8, 31, 63, 0, 128, 447, 1023, 0, 2048, 6144, 15295, 32767, 65535]
theorem impl_MetaText.tab3 : rtab .any (opsOf Try.f29 3) = impl_MetaText.T3 := by kernel_rfl
theorem impl_MetaText.bits3 : waitsOk impl_MetaText.T3.2 impl_MetaText.B3 = true := by kernel_rfl
def impl_MetaText.T7 : Bool × List (List Nat × List Nat) := (true, [([], []), ([], []), ([1], [1]), ([2], [2]), ([], []), ([4], [4]), ([5], [5]), ([6, 3], [6]), ([3, 7], [3, 7]), ([0, 8], [0, 8]), ([9, 7, 0, 1, 2, 3, 4, 5, 6, 7, 8, 9], [0, 9])])
def impl_MetaText.B7 : List Nat := [0, 0, 2, 6, 0, 16, 48, 126, 254, 511, 1023]
theorem impl_MetaText.tab7 : rtab .any (opsOf Try.f29 7) = impl_MetaText.T7 := by kernel_rfl
theorem impl_MetaText.bits7 : waitsOk impl_MetaText.T7.2 impl_MetaText.B7 = true := by kernel_rfl
set_option maxHeartbeats 8000000 in
set_option maxRecDepth 100000 in
theorem impl_MetaText.calls (k : Nat) (a0_0 : Int) (a0_1 : Int) (a0_2 : Int) (A0_3 : Option Addr) (c0_3 : Nat) (l0_3 : List (S60)) (r1 : ByteArray) (r2 : Bool) (w : World) (hr0_3 : Kd.C k60 w A0_3 l0_3.length l0_3) (hc0_3 : l0_3.length ≤ c0_3) (h : impl_MetaText.f k a0_0 a0_1 a0_2 l0_3 = some (r1, r2)) :
  Calls Try.prog 29 #[.agg #[.int .i64 a0_0, .int .i64 a0_1, .int .i64 a0_2, .slice A0_3 l0_3.length c0_3]] w fun e w' => e = .returned (.tuple #[.string r1, .bool r2]) ∧ Below w.heap.size w w' := by
 have hu24 := Try.underlying24
 have hu60 := Try.underlying60
 have HR0_3 := qo hr0_3
 have HC0_3 := qo hc0_3
 clear hr0_3 hc0_3
 have HB := qo (Below.refl w.heap.size w)
 have H : ((impl_MetaOk.f k a0_0 a0_1 a0_2 l0_3).bind fun t287 => (if t287 = true then ((impl_varText.f k a0_0).bind fun t288 => ((impl_varText.f k a0_1).bind fun t289 => (if t288.size + t289.size ≤ 9223372036854775807 then ((impl_varText.f k a0_2).bind fun t290 => (if (t288 ++ t289).size + t290.size ≤ 9223372036854775807 then ((impl_varText.f k (l0_3.length : Int)).bind fun t291 => (if ((t288 ++ t289) ++ t290).size + t291.size ≤ 9223372036854775807 then (impl_MetaText.l0 k (((t288 ++ t289) ++ t290) ++ t291) l0_3 (l0_3.length : Int) 0) else (none))) else (none))) else (none)))) else (some ((⟨#[]⟩ : ByteArray), false)))) = some (r1, r2) := h
 clear h
 replace H := Option.bind_eq_some_iff.mp H
 obtain ⟨t287, A20, H⟩ := H
 replace H : (if t287 = true then ((impl_varText.f k a0_0).bind fun t288 => ((impl_varText.f k a0_1).bind fun t289 => (if t288.size + t289.size ≤ 9223372036854775807 then ((impl_varText.f k a0_2).bind fun t290 => (if (t288 ++ t289).size + t290.size ≤ 9223372036854775807 then ((impl_varText.f k (l0_3.length : Int)).bind fun t291 => (if ((t288 ++ t289) ++ t290).size + t291.size ≤ 9223372036854775807 then (impl_MetaText.l0 k (((t288 ++ t289) ++ t290) ++ t291) l0_3 (l0_3.length : Int) 0) else (none))) else (none))) else (none)))) else (some ((⟨#[]⟩ : ByteArray), false))) = some (r1, r2) := H
 have A2 := qo A20
 clear A20
 by_cases c3 : t287 = true
 ·subst c3
  have H1 : ((impl_varText.f k a0_0).bind fun t288 => ((impl_varText.f k a0_1).bind fun t289 => (if t288.size + t289.size ≤ 9223372036854775807 then ((impl_varText.f k a0_2).bind fun t290 => (if (t288 ++ t289).size + t290.size ≤ 9223372036854775807 then ((impl_varText.f k (l0_3.length : Int)).bind fun t291 => (if ((t288 ++ t289) ++ t290).size + t291.size ≤ 9223372036854775807 then (impl_MetaText.l0 k (((t288 ++ t289) ++ t290) ++ t291) l0_3 (l0_3.length : Int) 0) else (none))) else (none))) else (none)))) = some (r1, r2) := by rw [if_pos rfl] at H; exact H
  clear H
  have H := H1
  clear H1
  replace H := Option.bind_eq_some_iff.mp H
  obtain ⟨t288, A40, H⟩ := H
  replace H : ((impl_varText.f k a0_1).bind fun t289 => (if t288.size + t289.size ≤ 9223372036854775807 then ((impl_varText.f k a0_2).bind fun t290 => (if (t288 ++ t289).size + t290.size ≤ 9223372036854775807 then ((impl_varText.f k (l0_3.length : Int)).bind fun t291 => (if ((t288 ++ t289) ++ t290).size + t291.size ≤ 9223372036854775807 then (impl_MetaText.l0 k (((t288 ++ t289) ++ t290) ++ t291) l0_3 (l0_3.length : Int) 0) else (none))) else (none))) else (none))) = some (r1, r2) := H
  have A4 := qo A40
  clear A40
  replace H := Option.bind_eq_some_iff.mp H
  obtain ⟨t289, A50, H⟩ := H
  replace H : (if t288.size + t289.size ≤ 9223372036854775807 then ((impl_varText.f k a0_2).bind fun t290 => (if (t288 ++ t289).size + t290.size ≤ 9223372036854775807 then ((impl_varText.f k (l0_3.length : Int)).bind fun t291 => (if ((t288 ++ t289) ++ t290).size + t291.size ≤ 9223372036854775807 then (impl_MetaText.l0 k (((t288 ++ t289) ++ t290) ++ t291) l0_3 (l0_3.length : Int) 0) else (none))) else (none))) else (none)) = some (r1, r2) := H
  have A5 := qo A50
  clear A50
  by_cases c6 : t288.size + t289.size ≤ 9223372036854775807
  ·rw [if_pos c6] at H
   have c6b0 := eq_true c6
   have c6b1 : decide (t288.size + t289.size ≤ 9223372036854775807) = true := decide_eq_true c6
   try have c6b2 : (9223372036854775807 < t288.size + t289.size) = False := eq_false (Nat.not_lt.2 c6)
   replace H := Option.bind_eq_some_iff.mp H
   obtain ⟨t290, A70, H⟩ := H
   replace H : (if (t288 ++ t289).size + t290.size ≤ 9223372036854775807 then ((impl_varText.f k (l0_3.length : Int)).bind fun t291 => (if ((t288 ++ t289) ++ t290).size + t291.size ≤ 9223372036854775807 then (impl_MetaText.l0 k (((t288 ++ t289) ++ t290) ++ t291) l0_3 (l0_3.length : Int) 0) else (none))) else (none)) = some (r1, r2) := H
   have A7 := qo A70
   clear A70
   by_cases c8 : (t288 ++ t289).size + t290.size ≤ 9223372036854775807
   ·rw [if_pos c8] at H
    have c8b0 := eq_true c8
    have c8b1 : decide ((t288 ++ t289).size + t290.size ≤ 9223372036854775807) = true := decide_eq_true c8
    try have c8b2 : (9223372036854775807 < (t288 ++ t289).size + t290.size) = False := eq_false (Nat.not_lt.2 c8)
    try have c8b3 := c8b2
    try simp only [ByteArray.size_append] at c8b3
    replace H := Option.bind_eq_some_iff.mp H
    obtain ⟨t291, A90, H⟩ := H
    replace H : (if ((t288 ++ t289) ++ t290).size + t291.size ≤ 9223372036854775807 then (impl_MetaText.l0 k (((t288 ++ t289) ++ t290) ++ t291) l0_3 (l0_3.length : Int) 0) else (none)) = some (r1, r2) := H
    have A9 := qo A90
    clear A90
    by_cases c10 : ((t288 ++ t289) ++ t290).size + t291.size ≤ 9223372036854775807
    ·rw [if_pos c10] at H
     have c10b0 := eq_true c10
     have c10b1 : decide (((t288 ++ t289) ++ t290).size + t291.size ≤ 9223372036854775807) = true := decide_eq_true c10
     try have c10b2 : (9223372036854775807 < ((t288 ++ t289) ++ t290).size + t291.size) = False := eq_false (Nat.not_lt.2 c10)
     try have c10b3 := c10b2
     try simp only [ByteArray.size_append] at c10b3
     have H' := qo H
     clear H
     go_enter Try.func29, Try.ntmps29
     try go_wp2_with (first | ((with_reducible refine gate_dst (N := 1) rfl ?_); refine box_event ?hg (N := 1) ?hd (cs := #[.int .i64 a0_0, .int .i64 a0_1, .int .i64 a0_2, .slice A0_3 l0_3.length c0_3]) (t := 24) ?hr ?_; (case hd => rfl); (case hg => rfl); (case hr => first | (go_simp; done) | (go_simp; rfl)); intro gb286 hg w11 hbox hb; have n0_ := qo (qq za hb); have n1_ := qo (hbox); have n2_ := qo ((zcn : w.heap.size ≤ gb286)); have n3_ := qo ((zcn : w.heap.size ≤ gb286)); clear HB; have HB := n0_; have BK286 := n1_; have GW286 := n2_; have GE286 := n3_; clear n0_ n1_ n2_ n3_; clear hb hbox hg; have hcz12_0 : w11.cell? ⟨gb286, 0, none⟩ = some (.int .i64 a0_0) := (qs BK286.out 0).trans rfl; have hcz12_1 : w11.cell? ⟨gb286, 1, none⟩ = some (.int .i64 a0_1) := (qs BK286.out 1).trans rfl; have hcz12_2 : w11.cell? ⟨gb286, 2, none⟩ = some (.int .i64 a0_2) := (qs BK286.out 2).trans rfl; have hcz12_3 : w11.cell? ⟨gb286, 3, none⟩ = some (.slice A0_3 l0_3.length c0_3) := (qs BK286.out 3).trans rfl; have hfz12_0 := qu BK286.out 0; have hfz12_1 := qu BK286.out 1; have hfz12_2 := qu BK286.out 2; have hfz12_3 := qu BK286.out 3) | ((with_reducible refine gate_callee (f := 61) rfl ?_); refine goesL_ (some 10) rfl rfl Try.func61 ze rfl #[.agg #[.int .i64 a0_0, .int .i64 a0_1, .int .i64 a0_2, .slice A0_3 l0_3.length c0_3]] rfl zcm ?_; (with_reducible refine (impl_MetaOk.calls k a0_0 a0_1 a0_2 _ _ l0_3 true _ ?side1 ?side2 A2.out).mono ?_); (case side1 => repeat (first | exact (Kd.C_below HR0_3.out HB.out) | (with_reducible refine Kd.C_alloc ?_ _) | (with_reducible refine Kd.C_drewN ?_ _) | (with_reducible refine Kd.C_drew ?_))); (case side2 => exact HC0_3.out); rintro e w13 ⟨rfl, hb⟩; refine ⟨_, rfl, ?_⟩; have n0_ := qo (qr (g := gb286) (o := .cells #[.int .i64 a0_0, .int .i64 a0_1, .int .i64 a0_2, .slice A0_3 l0_3.length c0_3] 24 (0, 0)) z2 hb); have n1_ := qo (qq zx hb); clear BK286; clear HB; have BK286 := n0_; have HB := n1_; clear n0_ n1_; (try clear hb); (try clear hb2); (try clear hk); (try clear hi)))
     have n0_ := qo (qj BK286.out)
     have n1_ := qo (qn HB.out)
     clear BK286
     clear HB
     have BK286 := n0_
     have HB := n1_
     clear n0_ n1_
     refine start_ (n := 17) (S := fun w' => w'.cell? ⟨gb286, 0, none⟩ = some (.int .i64 a0_0) ∧ w'.cell? ⟨gb286, 1, none⟩ = some (.int .i64 a0_1) ∧ w'.cell? ⟨gb286, 2, none⟩ = some (.int .i64 a0_2) ∧ w'.cell? ⟨gb286, 3, none⟩ = some (.slice A0_3 l0_3.length c0_3)) (ds := []) (bz 17 0) ze rfl rfl ⟨(qs BK286.out 0).trans rfl, (qs BK286.out 1).trans rfl, (qs BK286.out 2).trans rfl, (qs BK286.out 3).trans rfl⟩ (fun hHeld => ?_); refine with_tabW impl_MetaText.tab3 impl_MetaText.bits3 (fun HT_ HW_ => ?_)
     generalize w13.drew = w14 at BK286 HB hHeld ⊢
     refine pure_ (i := 0) (N := some 12) (v := ?_) (a' := ?_) (bz 17 1) rfl rfl (any_of HT_.out ze) (fun _ _ _ h => h) (Or.inl ⟨zae, ?_⟩) ?_ ?_; rotate_left; (intro w'; go_simp; with_reducible rfl); rotate_left; (simp only [Act.put, qa, qb, qc, i64_w, i32_w]; rfl)
     refine pure_ (i := 3) (N := some 15) (v := ?_) (a' := ?_) (bz 17 9) rfl rfl (any_of HT_.out ze) (fun _ _ _ h => h) (Or.inl ⟨zae, ?_⟩) ?_ ?_; rotate_left; (intro w'; go_simp; with_reducible rfl); rotate_left; (simp only [Act.put, qa, qb, qc, i64_w, i32_w]; rfl)
     refine pure_ (i := 7) (N := some 19) (v := ?_) (a' := ?_) (bz 17 137) rfl rfl (any_of HT_.out ze) (fun _ _ _ h => h) (Or.inl ⟨zae, ?_⟩) ?_ ?_; rotate_left; (intro w'; go_simp; with_reducible rfl); rotate_left; (simp only [Act.put, qa, qb, qc, i64_w, i32_w]; rfl)
     refine pure_ (i := 11) (N := some 23) (v := ?_) (a' := ?_) (bz 17 2185) rfl rfl (any_of HT_.out ze) (fun _ _ _ h => h) (Or.inl ⟨zae, ?_⟩) ?_ ?_; rotate_left; (intro w'; go_simp; with_reducible rfl); rotate_left; (simp only [Act.put, qa, qb, qc, i64_w, i32_w]; rfl)
     refine take_ (i := 1) (N := some 13) (v := ?_) (a' := ?_) (bz 17 2187) rfl rfl (take_ofW HT_.out HW_.out ze) (fun _ _ _ h => h) (Or.inl ⟨zae, ?_⟩) hHeld ?_ ?_; rotate_left; (rintro w' ⟨s0, s1, s2, s3⟩; go_simp; with_reducible rfl); rotate_left; (simp only [Act.put, qa, qb, qc, i64_w, i32_w]; rfl)
     refine take_ (i := 4) (N := some 16) (v := ?_) (a' := ?_) (bz 17 2203) rfl rfl (take_ofW HT_.out HW_.out ze) (fun _ _ _ h => h) (Or.inl ⟨zae, ?_⟩) hHeld ?_ ?_; rotate_left; (rintro w' ⟨s0, s1, s2, s3⟩; go_simp; with_reducible rfl); rotate_left; (simp only [Act.put, qa, qb, qc, i64_w, i32_w]; rfl)
     refine take_ (i := 8) (N := some 20) (v := ?_) (a' := ?_) (bz 17 2459) rfl rfl (take_ofW HT_.out HW_.out ze) (fun _ _ _ h => h) (Or.inl ⟨zae, ?_⟩) hHeld ?_ ?_; rotate_left; (rintro w' ⟨s0, s1, s2, s3⟩; go_simp; with_reducible rfl); rotate_left; (simp only [Act.put, qa, qb, qc, i64_w, i32_w]; rfl)
     refine take_ (i := 12) (N := some 24) (v := ?_) (a' := ?_) (bz 17 6555) rfl rfl (take_ofW HT_.out HW_.out ze) (fun _ _ _ h => h) (Or.inl ⟨zae, ?_⟩) hHeld ?_ ?_; rotate_left; (rintro w' ⟨s0, s1, s2, s3⟩; go_simp; with_reducible rfl); rotate_left; (simp only [Act.put, qa, qb, qc, i64_w, i32_w]; rfl)
     refine pure_ (i := 13) (N := some 25) (v := ?_) (a' := ?_) (bz 17 14747) rfl rfl (any_of HT_.out ze) (fun _ _ _ h => h) (Or.inl ⟨zae, ?_⟩) ?_ ?_; rotate_left; (intro w'; go_simp; with_reducible rfl); rotate_left; (simp only [Act.put, qa, qb, qc, i64_w, i32_w]; rfl)
     refine one_ (i := 2) (N := some 14) (bz 17 14751) rfl rfl (one_of HT_.out ze) za7 (fun K hK => ?_)
     refine goes_ Try.func62 ze rfl #[.int .i64 a0_0] zae rfl rfl zcm ?_
     with_reducible refine (impl_varText.calls k a0_0 t288 _ A4.out).mono ?_
     rintro e w15 ⟨rfl, hb⟩
     refine ⟨_, rfl, ?_⟩
     have n0_ := qo (qr (g := gb286) (o := .cells #[.int .i64 a0_0, .int .i64 a0_1, .int .i64 a0_2, .slice A0_3 l0_3.length c0_3] 24 (0, 0)) z2 hb)
     have n1_ := qo (qq zx hb)
     clear BK286
     clear HB
     have BK286 := n0_
     have HB := n1_
     clear n0_ n1_
     (try clear hb)
     (try clear hb2)
     (try clear hk)
     (try clear hi)
     refine hK.out _ _ ⟨(qs BK286.out 0).trans rfl, (qs BK286.out 1).trans rfl, (qs BK286.out 2).trans rfl, (qs BK286.out 3).trans rfl⟩ (fun hHeld => ?_)
     clear hK K
     refine norm_ (a' := ?_) ?_ ?_; rotate_left; (show Act.put _ (some 14) _ = _; simp only [Act.put, qa, qb, qc, i64_w, i32_w]; rfl)
     refine one_ (i := 5) (N := some 17) (bz 17 14783) rfl rfl (one_of HT_.out ze) za7 (fun K hK => ?_)
     refine goes_ Try.func62 ze rfl #[.int .i64 a0_1] zae rfl rfl zcm ?_
     with_reducible refine (impl_varText.calls k a0_1 t289 _ A5.out).mono ?_
     rintro e w16 ⟨rfl, hb⟩
     refine ⟨_, rfl, ?_⟩
     have n0_ := qo (qr (g := gb286) (o := .cells #[.int .i64 a0_0, .int .i64 a0_1, .int .i64 a0_2, .slice A0_3 l0_3.length c0_3] 24 (0, 0)) z2 hb)
     have n1_ := qo (qq zx hb)
     clear BK286
     clear HB
     have BK286 := n0_
     have HB := n1_
     clear n0_ n1_
     (try clear hb)
     (try clear hb2)
     (try clear hk)
     (try clear hi)
     refine hK.out _ _ ⟨(qs BK286.out 0).trans rfl, (qs BK286.out 1).trans rfl, (qs BK286.out 2).trans rfl, (qs BK286.out 3).trans rfl⟩ (fun hHeld => ?_)
     clear hK K
     refine norm_ (a' := ?_) ?_ ?_; rotate_left; (show Act.put _ (some 17) _ = _; simp only [Act.put, qa, qb, qc, i64_w, i32_w]; rfl)
     refine pure_ (i := 6) (N := some 18) (v := ?_) (a' := ?_) (bz 17 14847) rfl rfl (any_of HT_.out ze) (fun _ _ _ h => h) (Or.inl ⟨zae, ?_⟩) ?_ ?_; rotate_left; (intro w'; go_simp; with_reducible rfl); rotate_left; (simp only [Act.put, qa, qb, qc, i64_w, i32_w]; rfl)
     refine one_ (i := 9) (N := some 21) (bz 17 15359) rfl rfl (one_of HT_.out ze) za7 (fun K hK => ?_)
     refine goes_ Try.func62 ze rfl #[.int .i64 a0_2] zae rfl rfl zcm ?_
     with_reducible refine (impl_varText.calls k a0_2 t290 _ A7.out).mono ?_
     rintro e w17 ⟨rfl, hb⟩
     refine ⟨_, rfl, ?_⟩
     have n0_ := qo (qr (g := gb286) (o := .cells #[.int .i64 a0_0, .int .i64 a0_1, .int .i64 a0_2, .slice A0_3 l0_3.length c0_3] 24 (0, 0)) z2 hb)
     have n1_ := qo (qq zx hb)
     clear BK286
     clear HB
     have BK286 := n0_
     have HB := n1_
     clear n0_ n1_
     (try clear hb)
     (try clear hb2)
     (try clear hk)
     (try clear hi)
     refine hK.out _ _ ⟨(qs BK286.out 0).trans rfl, (qs BK286.out 1).trans rfl, (qs BK286.out 2).trans rfl, (qs BK286.out 3).trans rfl⟩ (fun hHeld => ?_)
     clear hK K
     refine norm_ (a' := ?_) ?_ ?_; rotate_left; (show Act.put _ (some 21) _ = _; simp only [Act.put, qa, qb, qc, i64_w, i32_w]; rfl)
     refine pure_ (i := 10) (N := some 22) (v := ?_) (a' := ?_) (bz 17 16383) rfl rfl (any_of HT_.out ze) (fun _ _ _ h => h) (Or.inl ⟨zae, ?_⟩) ?_ ?_; rotate_left; (intro w'; go_simp; with_reducible rfl); rotate_left; (simp only [Act.put, qa, qb, qc, i64_w, i32_w]; rfl)
     refine one_ (i := 14) (N := some 26) (bz 17 32767) rfl rfl (one_of HT_.out ze) za7 (fun K hK => ?_)
     refine goes_ Try.func62 ze rfl #[.int .i64 (l0_3.length : Int)] zae rfl rfl zcm ?_
     with_reducible refine (impl_varText.calls k (l0_3.length : Int) t291 _ A9.out).mono ?_
     rintro e w18 ⟨rfl, hb⟩
     refine ⟨_, rfl, ?_⟩
     have n0_ := qo (qr (g := gb286) (o := .cells #[.int .i64 a0_0, .int .i64 a0_1, .int .i64 a0_2, .slice A0_3 l0_3.length c0_3] 24 (0, 0)) z2 hb)
     have n1_ := qo (qq zx hb)
     clear BK286
     clear HB
     have BK286 := n0_
     have HB := n1_
     clear n0_ n1_
     (try clear hb)
     (try clear hb2)
     (try clear hk)
     (try clear hi)
     refine hK.out _ _ ⟨(qs BK286.out 0).trans rfl, (qs BK286.out 1).trans rfl, (qs BK286.out 2).trans rfl, (qs BK286.out 3).trans rfl⟩ (fun hHeld => ?_)
     clear hK K
     refine norm_ (a' := ?_) ?_ ?_; rotate_left; (show Act.put _ (some 26) _ = _; simp only [Act.put, qa, qb, qc, i64_w, i32_w]; rfl)
     refine pure_ (i := 15) (N := some 27) (v := ?_) (a' := ?_) (bz 17 65535) rfl rfl (any_of HT_.out ze) (fun _ _ _ h => h) (Or.inl ⟨zae, ?_⟩) ?_ ?_; rotate_left; (intro w'; go_simp; with_reducible rfl); rotate_left; (simp only [Act.put, qa, qb, qc, i64_w, i32_w]; rfl)
     refine pure_ (i := 16) (N := some 4) (v := ?_) (a' := ?_) (bz 17 131071) rfl rfl (any_of HT_.out ze) (fun _ _ _ h => h) (Or.inl ⟨zae, ?_⟩) ?_ ?_; rotate_left; (intro w'; go_simp; with_reducible rfl); rotate_left; (simp only [Act.put, qa, qb, qc, i64_w, i32_w]; rfl)
     refine done_ (done_of HT_.out ze) ?_
     have hcz19_0 : w18.cell? ⟨gb286, 0, none⟩ = some (.int .i64 a0_0) := (qs BK286.out 0).trans rfl
     have hcz19_1 : w18.cell? ⟨gb286, 1, none⟩ = some (.int .i64 a0_1) := (qs BK286.out 1).trans rfl
     have hcz19_2 : w18.cell? ⟨gb286, 2, none⟩ = some (.int .i64 a0_2) := (qs BK286.out 2).trans rfl
     have hcz19_3 : w18.cell? ⟨gb286, 3, none⟩ = some (.slice A0_3 l0_3.length c0_3) := (qs BK286.out 3).trans rfl
     have hfz19_0 := qu BK286.out 0
     have hfz19_1 := qu BK286.out 1
     have hfz19_2 := qu BK286.out 2
     have hfz19_3 := qu BK286.out 3
     try go_wp2
     go_loopg [4, 31] k (fun kq v4 v31 w' => ∃ (x4_1 : ByteArray) (x31_1 : Int), v4 = .string x4_1 ∧ v31 = .int .i64 x31_1 ∧ Aside0 (impl_MetaText.l0 kq x4_1 l0_3 (l0_3.length : Int) x31_1 = some (r1, r2)) ∧ Aside0 (kq ≤ k) ∧ Aside0 (w'.heap[gb286]? = some (.cells #[.int .i64 a0_0, .int .i64 a0_1, .int .i64 a0_2, (.slice A0_3 l0_3.length c0_3)] 24 (0, 0))) ∧ Aside0 (Below w.heap.size w w'))
     case atStart => exact ⟨(((t288 ++ t289) ++ t290) ++ t291), (0), zc, zc, H', ⟨Nat.le_refl _⟩, ⟨z2⟩, ⟨zx⟩⟩
     case round =>
      clear H'
      (try clear c1); (try clear c2); (try clear p2); (try clear c3); (try clear c6); (try clear c6b0); (try clear c6b1); (try clear c6b2); (try clear c8); (try clear c8b0); (try clear c8b1); (try clear c8b2); (try clear c10); (try clear c10b0); (try clear c10b1); (try clear c10b2); (try clear hcz12_0); (try clear hcz12_1); (try clear hcz12_2); (try clear hcz12_3); (try clear hcz19_0); (try clear hcz19_1); (try clear hcz19_2); (try clear hcz19_3); (try clear hfz12_0); (try clear hfz12_1); (try clear hfz12_2); (try clear hfz12_3); (try clear hfz19_0); (try clear hfz19_1); (try clear hfz19_2); (try clear hfz19_3)
      obtain ⟨x4_1, x31_1, rfl, rfl, HA, HK1, BK286, HB⟩ := hrel
      cases gk with
      | zero => exact absurd HA.out (by simp [impl_MetaText.l0])
      | succ k1 =>
       have H := HA.out
       clear HA
       simp only [impl_MetaText.l0] at H
       by_cases c20 : x31_1 < (l0_3.length : Int)
       ·rw [if_pos c20] at H
        have c20b0 : decide (x31_1 < (l0_3.length : Int)) = true := decide_eq_true c20
        clear c20
        by_cases c21 : 0 ≤ x31_1
        ·rw [if_pos c21] at H
         have c21b0 : decide (0 ≤ x31_1) = true := decide_eq_true c21
         clear c21
         by_cases c22 : x31_1 < (l0_3.length : Int)
         ·rw [if_pos c22] at H
          have c22b0 : decide (x31_1 < (l0_3.length : Int)) = true := decide_eq_true c22
          clear c22
          replace H := Option.bind_eq_some_iff.mp H
          obtain ⟨t294, A230, H⟩ := H
          replace H : ((impl_varText.f k1 (((rd_T60 l0_3 x31_1).f1).length : Int)).bind fun t295 => (if t294.size + t295.size ≤ 9223372036854775807 then (if x4_1.size + (t294 ++ t295).size ≤ 9223372036854775807 then (impl_MetaText.l1 k1 (x4_1 ++ (t294 ++ t295)) l0_3 (l0_3.length : Int) x31_1 ((rd_T60 l0_3 x31_1).f1) (((rd_T60 l0_3 x31_1).f1).length : Int) 0) else (none)) else (none))) = some (r1, r2) := H
          have A23 := qo A230
          clear A230
          replace H := Option.bind_eq_some_iff.mp H
          obtain ⟨t295, A240, H⟩ := H
          replace H : (if t294.size + t295.size ≤ 9223372036854775807 then (if x4_1.size + (t294 ++ t295).size ≤ 9223372036854775807 then (impl_MetaText.l1 k1 (x4_1 ++ (t294 ++ t295)) l0_3 (l0_3.length : Int) x31_1 ((rd_T60 l0_3 x31_1).f1) (((rd_T60 l0_3 x31_1).f1).length : Int) 0) else (none)) else (none)) = some (r1, r2) := H
          have A24 := qo A240
          clear A240
          by_cases c25 : t294.size + t295.size ≤ 9223372036854775807
          ·rw [if_pos c25] at H
           have c25b0 := eq_true c25
           have c25b1 : decide (t294.size + t295.size ≤ 9223372036854775807) = true := decide_eq_true c25
           try have c25b2 : (9223372036854775807 < t294.size + t295.size) = False := eq_false (Nat.not_lt.2 c25)
           by_cases c26 : x4_1.size + (t294 ++ t295).size ≤ 9223372036854775807
           ·rw [if_pos c26] at H
            have c26b0 := eq_true c26
            have c26b1 : decide (x4_1.size + (t294 ++ t295).size ≤ 9223372036854775807) = true := decide_eq_true c26
            try have c26b2 : (9223372036854775807 < x4_1.size + (t294 ++ t295).size) = False := eq_false (Nat.not_lt.2 c26)
            try have c26b3 := c26b2
            try simp only [ByteArray.size_append] at c26b3
            have H' := qo H
            clear H
            have p292 : 0 ≤ (x31_1 : Int) := of_decide_eq_true zb
            have q292 : x31_1 < (l0_3.length : Int) := of_decide_eq_true zb
            obtain ⟨ad292, A292_1, c292_1, e292, hx292_0, hx292_1, hl292_1, hi292_1⟩ := at_T60 HR0_3.out x31_1 p292 q292
            cases e292
            replace hx292_0 := (HB.out.cell (World.block_lt_of_cell? w _ hx292_0)).trans hx292_0
            replace hx292_1 := (HB.out.cell (World.block_lt_of_cell? w _ hx292_1)).trans hx292_1
            have HR292_1 := qo hi292_1
            have HC292_1 := qo hl292_1
            clear hi292_1 hl292_1
            replace p292 := eq_true p292
            replace q292 := eq_true q292
            try go_wp2_with (first | ((with_reducible refine gate_dst (N := 6) rfl ?_); refine box_event ?hg (N := 6) ?hd (cs := #[.int .i64 0, .slice none 0 0]) (t := 60) ?hr ?_; (case hd => rfl); (case hg => rfl); (case hr => first | (go_simp; done) | (go_simp; rfl)); intro gb293 hg w27 hbox hb; have n0_ := qo (qr (g := gb286) (o := .cells #[.int .i64 a0_0, .int .i64 a0_1, .int .i64 a0_2, .slice (some ad292) l0_3.length c0_3] 24 (0, 0)) z2 hb); have n1_ := qo (qq zx hb); have n2_ := qo (hbox); have n3_ := qo ((by rw [hg]; exact (qp zx) : w.heap.size ≤ gb293)); have n4_ := qo ((by rw [hg]; exact (qp zx) : w.heap.size ≤ gb293)); have n5_ := qo ((by rw [hg]; exact Nat.ne_of_lt (blk_lt (g := gb286) (o := .cells #[.int .i64 a0_0, .int .i64 a0_1, .int .i64 a0_2, .slice (some ad292) l0_3.length c0_3] 24 (0, 0)) z2) : gb286 ≠ gb293)); have n6_ := qo ((by rw [hg]; exact Nat.ne_of_gt (blk_lt (g := gb286) (o := .cells #[.int .i64 a0_0, .int .i64 a0_1, .int .i64 a0_2, .slice (some ad292) l0_3.length c0_3] 24 (0, 0)) z2) : gb293 ≠ gb286)); clear BK286; clear HB; have BK286 := n0_; have HB := n1_; have BK293 := n2_; have GW293 := n3_; have GE293 := n4_; have NB286_293 := n5_; have NB293_286 := n6_; clear n0_ n1_ n2_ n3_ n4_ n5_ n6_; clear hb hbox hg; have hnb28 := NB293_286.out; have hnc28 := NB286_293.out; have hcz29_0 : w27.cell? ⟨gb293, 0, none⟩ = some (.int .i64 0) := (qs BK293.out 0).trans rfl; have hcz29_1 : w27.cell? ⟨gb293, 1, none⟩ = some (.slice none 0 0) := (qs BK293.out 1).trans rfl; have hfz29_0 := qu BK293.out 0; have hfz29_1 := qu BK293.out 1))
            have n0_ : Aside0 (((w27.setCell ⟨gb293, 0, none⟩ (.int .i64 ((rd_T60 l0_3 x31_1).f0))).setCell ⟨gb293, 1, none⟩ (.slice A292_1 ((rd_T60 l0_3 x31_1).f1).length c292_1)).heap[gb286]? = some (.cells #[.int .i64 a0_0, .int .i64 a0_1, .int .i64 a0_2, .slice (some ad292) l0_3.length c0_3] 24 (0, 0))) := ⟨by (with_reducible repeat (first | refine qi ?_ _ | refine qj ?_ | refine qk ?_ _)); refine blk_far ?_ NB286_293.out _; (with_reducible repeat (first | refine qi ?_ _ | refine qj ?_ | refine qk ?_ _)); refine blk_far ?_ NB286_293.out _; (with_reducible repeat (first | refine qi ?_ _ | refine qj ?_ | refine qk ?_ _)); exact BK286.out⟩
            have n1_ : Aside0 (((w27.setCell ⟨gb293, 0, none⟩ (.int .i64 ((rd_T60 l0_3 x31_1).f0))).setCell ⟨gb293, 1, none⟩ (.slice A292_1 ((rd_T60 l0_3 x31_1).f1).length c292_1)).heap[gb293]? = some (.cells #[.int .i64 ((rd_T60 l0_3 x31_1).f0), .slice A292_1 ((rd_T60 l0_3 x31_1).f1).length c292_1] 60 (0, 0))) := ⟨by (with_reducible repeat (first | refine qi ?_ _ | refine qj ?_ | refine qk ?_ _)); refine blk_put (cs := #[.int .i64 ((rd_T60 l0_3 x31_1).f0), .slice none 0 0]) ?_ 1 _ rfl; (with_reducible repeat (first | refine qi ?_ _ | refine qj ?_ | refine qk ?_ _)); refine blk_put (cs := #[.int .i64 0, .slice none 0 0]) ?_ 0 _ rfl; (with_reducible repeat (first | refine qi ?_ _ | refine qj ?_ | refine qk ?_ _)); exact BK293.out⟩
            have n2_ : Aside0 (Below w.heap.size w ((w27.setCell ⟨gb293, 0, none⟩ (.int .i64 ((rd_T60 l0_3 x31_1).f0))).setCell ⟨gb293, 1, none⟩ (.slice A292_1 ((rd_T60 l0_3 x31_1).f1).length c292_1))) := ⟨zaj⟩
            (try clear BK286)
            (try clear BK293)
            (try clear HB)
            generalize ((w27.setCell ⟨gb293, 0, none⟩ (.int .i64 ((rd_T60 l0_3 x31_1).f0))).setCell ⟨gb293, 1, none⟩ (.slice A292_1 ((rd_T60 l0_3 x31_1).f1).length c292_1)) = w30 at n0_ n1_ n2_ ⊢
            have BK286 := n0_
            have BK293 := n1_
            have HB := n2_
            clear n0_ n1_ n2_
            have n0_ := qo (qj BK286.out)
            have n1_ := qo (qj BK293.out)
            have n2_ := qo (qn HB.out)
            clear BK286
            clear BK293
            clear HB
            have BK286 := n0_
            have BK293 := n1_
            have HB := n2_
            clear n0_ n1_ n2_
            refine start_ (n := 11) (S := fun w' => w'.cell? ⟨gb293, 0, none⟩ = some (.int .i64 ((rd_T60 l0_3 x31_1).f0)) ∧ w'.cell? ⟨gb293, 1, none⟩ = some (.slice A292_1 ((rd_T60 l0_3 x31_1).f1).length c292_1)) (ds := []) (bz 11 0) ze rfl rfl ⟨(qs BK293.out 0).trans rfl, (qs BK293.out 1).trans rfl⟩ (fun hHeld => ?_); refine with_tabW impl_MetaText.tab7 impl_MetaText.bits7 (fun HT_ HW_ => ?_)
            generalize w30.drew = w31 at BK286 BK293 HB hHeld ⊢
            refine pure_ (i := 0) (N := some 35) (v := ?_) (a' := ?_) (bz 11 1) rfl rfl (any_of HT_.out ze) (fun _ _ _ h => h) (Or.inl ⟨zae, ?_⟩) ?_ ?_; rotate_left; (intro w'; go_simp; with_reducible rfl); rotate_left; (simp only [Act.put, qa, qb, qc, i64_w, i32_w]; rfl)
            refine pure_ (i := 1) (N := some 36) (v := ?_) (a' := ?_) (bz 11 3) rfl rfl (any_of HT_.out ze) (fun _ _ _ h => h) (Or.inl ⟨zae, ?_⟩) ?_ ?_; rotate_left; (intro w'; go_simp; with_reducible rfl); rotate_left; (simp only [Act.put, qa, qb, qc, i64_w, i32_w]; rfl)
            refine pure_ (i := 4) (N := some 39) (v := ?_) (a' := ?_) (bz 11 19) rfl rfl (any_of HT_.out ze) (fun _ _ _ h => h) (Or.inl ⟨zae, ?_⟩) ?_ ?_; rotate_left; (intro w'; go_simp; with_reducible rfl); rotate_left; (simp only [Act.put, qa, qb, qc, i64_w, i32_w]; rfl)
            refine take_ (i := 2) (N := some 37) (v := ?_) (a' := ?_) (bz 11 23) rfl rfl (take_ofW HT_.out HW_.out ze) (fun _ _ _ h => h) (Or.inl ⟨zae, ?_⟩) hHeld ?_ ?_; rotate_left; (rintro w' ⟨s0, s1⟩; go_simp; with_reducible rfl); rotate_left; (simp only [Act.put, qa, qb, qc, i64_w, i32_w]; rfl)
            refine take_ (i := 5) (N := some 40) (v := ?_) (a' := ?_) (bz 11 55) rfl rfl (take_ofW HT_.out HW_.out ze) (fun _ _ _ h => h) (Or.inl ⟨zae, ?_⟩) hHeld ?_ ?_; rotate_left; (rintro w' ⟨s0, s1⟩; go_simp; with_reducible rfl); rotate_left; (simp only [Act.put, qa, qb, qc, i64_w, i32_w]; rfl)
            refine pure_ (i := 6) (N := some 41) (v := ?_) (a' := ?_) (bz 11 119) rfl rfl (any_of HT_.out ze) (fun _ _ _ h => h) (Or.inl ⟨zae, ?_⟩) ?_ ?_; rotate_left; (intro w'; go_simp; with_reducible rfl); rotate_left; (simp only [Act.put, qa, qb, qc, i64_w, i32_w]; rfl)
            refine one_ (i := 3) (N := some 38) (bz 11 127) rfl rfl (one_of HT_.out ze) za7 (fun K hK => ?_)
            refine goes_ Try.func62 ze rfl #[.int .i64 ((rd_T60 l0_3 x31_1).f0)] zae rfl rfl zcm ?_
            with_reducible refine (impl_varText.calls k1 ((rd_T60 l0_3 x31_1).f0) t294 _ A23.out).mono ?_
            rintro e w32 ⟨rfl, hb⟩
            refine ⟨_, rfl, ?_⟩
            have n0_ := qo (qr (g := gb286) (o := .cells #[.int .i64 a0_0, .int .i64 a0_1, .int .i64 a0_2, .slice (some ad292) l0_3.length c0_3] 24 (0, 0)) z2 hb)
            have n1_ := qo (qr (g := gb293) (o := .cells #[.int .i64 ((rd_T60 l0_3 x31_1).f0), .slice A292_1 ((rd_T60 l0_3 x31_1).f1).length c292_1] 60 (0, 0)) zbm hb)
            have n2_ := qo (qq zaj hb)
            clear BK286
            clear BK293
            clear HB
            have BK286 := n0_
            have BK293 := n1_
            have HB := n2_
            clear n0_ n1_ n2_
            (try clear hb)
            (try clear hb2)
            (try clear hk)
            (try clear hi)
            refine hK.out _ _ ⟨(qs BK293.out 0).trans rfl, (qs BK293.out 1).trans rfl⟩ (fun hHeld => ?_)
            clear hK K
            refine norm_ (a' := ?_) ?_ ?_; rotate_left; (show Act.put _ (some 38) _ = _; simp only [Act.put, qa, qb, qc, i64_w, i32_w]; rfl)
            refine one_ (i := 7) (N := some 42) (bz 11 255) rfl rfl (one_of HT_.out ze) za7 (fun K hK => ?_)
            refine goes_ Try.func62 ze rfl #[.int .i64 (((rd_T60 l0_3 x31_1).f1).length : Int)] zae rfl rfl zcm ?_
            with_reducible refine (impl_varText.calls k1 (((rd_T60 l0_3 x31_1).f1).length : Int) t295 _ A24.out).mono ?_
            rintro e w33 ⟨rfl, hb⟩
            refine ⟨_, rfl, ?_⟩
            have n0_ := qo (qr (g := gb286) (o := .cells #[.int .i64 a0_0, .int .i64 a0_1, .int .i64 a0_2, .slice (some ad292) l0_3.length c0_3] 24 (0, 0)) z2 hb)
            have n1_ := qo (qr (g := gb293) (o := .cells #[.int .i64 ((rd_T60 l0_3 x31_1).f0), .slice A292_1 ((rd_T60 l0_3 x31_1).f1).length c292_1] 60 (0, 0)) zbm hb)
            have n2_ := qo (qq zaj hb)
            clear BK286
            clear BK293
            clear HB
            have BK286 := n0_
            have BK293 := n1_
            have HB := n2_
            clear n0_ n1_ n2_
            (try clear hb)
            (try clear hb2)
            (try clear hk)
            (try clear hi)
            refine hK.out _ _ ⟨(qs BK293.out 0).trans rfl, (qs BK293.out 1).trans rfl⟩ (fun hHeld => ?_)
            clear hK K
            refine norm_ (a' := ?_) ?_ ?_; rotate_left; (show Act.put _ (some 42) _ = _; simp only [Act.put, qa, qb, qc, i64_w, i32_w]; rfl)
            refine pure_ (i := 8) (N := some 43) (v := ?_) (a' := ?_) (bz 11 511) rfl rfl (any_of HT_.out ze) (fun _ _ _ h => h) (Or.inl ⟨zae, ?_⟩) ?_ ?_; rotate_left; (intro w'; go_simp; with_reducible rfl); rotate_left; (simp only [Act.put, qa, qb, qc, i64_w, i32_w]; rfl)
            refine pure_ (i := 9) (N := some 44) (v := ?_) (a' := ?_) (bz 11 1023) rfl rfl (any_of HT_.out ze) (fun _ _ _ h => h) (Or.inl ⟨zae, ?_⟩) ?_ ?_; rotate_left; (intro w'; go_simp; with_reducible rfl); rotate_left; (simp only [Act.put, qa, qb, qc, i64_w, i32_w]; rfl)
            refine pure_ (i := 10) (N := some 4) (v := ?_) (a' := ?_) (bz 11 2047) rfl rfl (any_of HT_.out ze) (fun _ _ _ h => h) (Or.inl ⟨zae, ?_⟩) ?_ ?_; rotate_left; (intro w'; go_simp; with_reducible rfl); rotate_left; (simp only [Act.put, qa, qb, qc, i64_w, i32_w]; rfl)
            refine done_ (done_of HT_.out ze) ?_
            have hcz34_0 : w33.cell? ⟨gb293, 0, none⟩ = some (.int .i64 ((rd_T60 l0_3 x31_1).f0)) := (qs BK293.out 0).trans rfl
            have hcz34_1 : w33.cell? ⟨gb293, 1, none⟩ = some (.slice A292_1 ((rd_T60 l0_3 x31_1).f1).length c292_1) := (qs BK293.out 1).trans rfl
            have hfz34_0 := qu BK293.out 0
            have hfz34_1 := qu BK293.out 1
            try go_wp2
            go_loopg [4, 48] k1 (fun kq v4 v48 w' => ∃ (x4_2 : ByteArray) (x48_2 : Int), v4 = .string x4_2 ∧ v48 = .int .i64 x48_2 ∧ Aside0 (impl_MetaText.l1 kq x4_2 l0_3 (l0_3.length : Int) x31_1 ((rd_T60 l0_3 x31_1).f1) (((rd_T60 l0_3 x31_1).f1).length : Int) x48_2 = some (r1, r2)) ∧ Aside0 (kq ≤ k1) ∧ Aside0 (w'.heap[gb286]? = some (.cells #[.int .i64 a0_0, .int .i64 a0_1, .int .i64 a0_2, (.slice (some ad292) l0_3.length c0_3)] 24 (0, 0))) ∧ Aside0 (w'.heap[gb293]? = some (.cells #[.int .i64 ((rd_T60 l0_3 x31_1).f0), (.slice A292_1 ((rd_T60 l0_3 x31_1).f1).length c292_1)] 60 (0, 0))) ∧ Aside0 (Below w.heap.size w w'))
            case atStart => exact ⟨(x4_1 ++ (t294 ++ t295)), (0), zc, zc, H', ⟨Nat.le_refl _⟩, ⟨z2⟩, ⟨zbm⟩, ⟨zaj⟩⟩
            case round =>
             clear H'
             (try clear c1); (try clear c2); (try clear p2); (try clear q2); (try clear hx2); (try clear c3); (try clear c6); (try clear c6b0); (try clear c6b1); (try clear c6b2); (try clear c8); (try clear c8b0); (try clear c8b1); (try clear c8b2); (try clear c10); (try clear c10b0); (try clear c10b1); (try clear c10b2); (try clear c20); (try clear c20b0); (try clear c21); (try clear c21b0); (try clear c22); (try clear c22b0); (try clear c25); (try clear c25b0); (try clear c25b1); (try clear c25b2); (try clear c26); (try clear c26b0); (try clear c26b1); (try clear c26b2); (try clear c28); (try clear c29); (try clear p29); (try clear q29); (try clear hx29); (try clear hcz12_0); (try clear hcz12_1); (try clear hcz12_2); (try clear hcz12_3); (try clear hcz19_0); (try clear hcz19_1); (try clear hcz19_2); (try clear hcz19_3); (try clear hcz29_0); (try clear hcz29_1); (try clear hcz34_0); (try clear hcz34_1); (try clear hfz12_0); (try clear hfz12_1); (try clear hfz12_2); (try clear hfz12_3); (try clear hfz19_0); (try clear hfz19_1); (try clear hfz19_2); (try clear hfz19_3); (try clear hfz29_0); (try clear hfz29_1); (try clear hfz34_0); (try clear hfz34_1); (try clear hx292_0); (try clear hx292_1); (try clear p2); (try clear p292); (try clear q292)
             obtain ⟨x4_2, x48_2, rfl, rfl, HA, HK2, BK286, BK293, HB⟩ := hrel
             cases gk with
             | zero => exact absurd HA.out (by simp [impl_MetaText.l1])
             | succ k2 =>
              have H := HA.out
              clear HA
              simp only [impl_MetaText.l1] at H
              by_cases c35 : x48_2 < (((rd_T60 l0_3 x31_1).f1).length : Int)
              ·rw [if_pos c35] at H
               have c35b0 : decide (x48_2 < (((rd_T60 l0_3 x31_1).f1).length : Int)) = true := decide_eq_true c35
               clear c35
               by_cases c36 : 0 ≤ x48_2
               ·rw [if_pos c36] at H
                have c36b0 : decide (0 ≤ x48_2) = true := decide_eq_true c36
                clear c36
                by_cases c37 : x48_2 < (((rd_T60 l0_3 x31_1).f1).length : Int)
                ·rw [if_pos c37] at H
                 have c37b0 : decide (x48_2 < (((rd_T60 l0_3 x31_1).f1).length : Int)) = true := decide_eq_true c37
                 clear c37
                 replace H := Option.bind_eq_some_iff.mp H
                 obtain ⟨t297, A380, H⟩ := H
                 replace H : (if x4_2.size + t297.size ≤ 9223372036854775807 then (impl_MetaText.l1 k2 (x4_2 ++ t297) l0_3 (l0_3.length : Int) x31_1 ((rd_T60 l0_3 x31_1).f1) (((rd_T60 l0_3 x31_1).f1).length : Int) (wrap64 (x48_2 + 1))) else (none)) = some (r1, r2) := H
                 have A38 := qo A380
                 clear A380
                 by_cases c39 : x4_2.size + t297.size ≤ 9223372036854775807
                 ·rw [if_pos c39] at H
                  have c39b0 := eq_true c39
                  have c39b1 : decide (x4_2.size + t297.size ≤ 9223372036854775807) = true := decide_eq_true c39
                  try have c39b2 : (9223372036854775807 < x4_2.size + t297.size) = False := eq_false (Nat.not_lt.2 c39)
                  have H' := qo H
                  clear H
                  have p296 : 0 ≤ (x48_2 : Int) := of_decide_eq_true zb
                  have q296 : x48_2 < (((rd_T60 l0_3 x31_1).f1).length : Int) := of_decide_eq_true zb
                  obtain ⟨ad296, e296, hx296_0⟩ := Kd.at_int HR292_1.out x48_2 p296 q296
                  cases e296
                  replace hx296_0 := (HB.out.cell (World.block_lt_of_cell? w _ hx296_0)).trans hx296_0
                  replace p296 := eq_true p296
                  replace q296 := eq_true q296
                  go_wp2_with (first | ((with_reducible refine gate_callee (f := 62) rfl ?_); refine goesL_ (some 54) rfl rfl Try.func62 ze rfl #[.int .i64 (rd ((rd_T60 l0_3 x31_1).f1) x48_2)] rfl zcm ?_; (with_reducible refine (impl_varText.calls k2 (rd ((rd_T60 l0_3 x31_1).f1) x48_2) t297 _ A38.out).mono ?_); rintro e w40 ⟨rfl, hb⟩; refine ⟨_, rfl, ?_⟩; have n0_ := qo (qr (g := gb286) (o := .cells #[.int .i64 a0_0, .int .i64 a0_1, .int .i64 a0_2, .slice (some ad292) l0_3.length c0_3] 24 (0, 0)) z2 hb); have n1_ := qo (qr (g := gb293) (o := .cells #[.int .i64 ((rd_T60 l0_3 x31_1).f0), .slice (some ad296) ((rd_T60 l0_3 x31_1).f1).length c292_1] 60 (0, 0)) zbm hb); have n2_ := qo (qq zaj hb); clear BK286; clear BK293; clear HB; have BK286 := n0_; have BK293 := n1_; have HB := n2_; clear n0_ n1_ n2_; (try clear hb); (try clear hb2); (try clear hk); (try clear hi)))
                  go_roundg k2
                  case measure => have := HK1.out; have := HK2.out; omega
                  case rel => exact ⟨(x4_2 ++ t297), (wrap64 (x48_2 + 1)), zc, zc, H', ⟨zb6⟩, ⟨z2⟩, ⟨zbm⟩, ⟨zaj⟩⟩
                 ·rw [if_neg c39] at H
                  exact absurd H zbh
                ·rw [if_neg c37] at H
                 exact absurd H zbh
               ·rw [if_neg c36] at H
                exact absurd H zbh
              ·rw [if_neg c35] at H
               have c35b0 : decide (x48_2 < (((rd_T60 l0_3 x31_1).f1).length : Int)) = false := decide_eq_false c35
               clear c35
               have H' := qo H
               clear H
               go_wp2
               go_roundg k2
               case measure => have := HK1.out; have := HK2.out; omega
               case rel => exact ⟨(x4_2), (wrap64 (x31_1 + 1)), zc, zc, H', ⟨zb6⟩, ⟨z2⟩, ⟨zaj⟩⟩
           ·rw [if_neg c26] at H
            exact absurd H zbh
          ·rw [if_neg c25] at H
           exact absurd H zbh
         ·rw [if_neg c22] at H
          exact absurd H zbh
        ·rw [if_neg c21] at H
         exact absurd H zbh
       ·rw [if_neg c20] at H
        have c20b0 : decide (x31_1 < (l0_3.length : Int)) = false := decide_eq_false c20
        clear c20
        replace H := Option.bind_eq_some_iff.mp H
        obtain ⟨t298, A410, H⟩ := H
        replace H : (if x4_1.size + t298.size ≤ 9223372036854775807 then (if ((x4_1 ++ t298).size : Int) > 240 then (some ((⟨#[]⟩ : ByteArray), false)) else (some (x4_1 ++ t298, true))) else (none)) = some (r1, r2) := H
        have A41 := qo A410
        clear A410
        by_cases c42 : x4_1.size + t298.size ≤ 9223372036854775807
        ·rw [if_pos c42] at H
         have c42b0 := eq_true c42
         have c42b1 : decide (x4_1.size + t298.size ≤ 9223372036854775807) = true := decide_eq_true c42
         try have c42b2 : (9223372036854775807 < x4_1.size + t298.size) = False := eq_false (Nat.not_lt.2 c42)
         by_cases c43 : ((x4_1 ++ t298).size : Int) > 240
         ·rw [if_pos c43] at H
          have c43b0 : decide (240 < ((x4_1 ++ t298).size : Int)) = true := decide_eq_true c43
          have c43b1 : decide (240 < (x4_1 ++ t298).size) = true := decide_eq_true zck
          have c43b4 : decide (240 < x4_1.size + t298.size) = true := by rw [ByteArray.size_append] at c43b1; exact c43b1
          have c43b5 : decide (240 < (x4_1.size : Int) + (t298.size : Int)) = true := decide_eq_true (by have h_ := of_decide_eq_true c43b4; omega)
          clear c43
          simp only [Option.some.injEq, Prod.mk.injEq] at H
          obtain ⟨rfl, rfl⟩ := H
          go_wp2_with (first | ((with_reducible refine gate_callee (f := 59) rfl ?_); refine goesL_ (some 60) rfl rfl Try.func59 ze rfl #[.string x4_1] rfl zcm ?_; (with_reducible refine (impl_seal.calls k1 x4_1 t298 _ A41.out).mono ?_); rintro e w44 ⟨rfl, hb⟩; refine ⟨_, rfl, ?_⟩; have n0_ := qo (qr (g := gb286) (o := .cells #[.int .i64 a0_0, .int .i64 a0_1, .int .i64 a0_2, .slice A0_3 l0_3.length c0_3] 24 (0, 0)) z2 hb); have n1_ := qo (qq zx hb); clear BK286; clear HB; have BK286 := n0_; have HB := n1_; clear n0_ n1_; (try clear hb); (try clear hb2); (try clear hk); (try clear hi)))
          go_ret2
          exact ⟨zd, zx⟩
         ·rw [if_neg c43] at H
          have c43b0 : decide (240 < ((x4_1 ++ t298).size : Int)) = false := decide_eq_false c43
          have c43b1 : decide (240 < (x4_1 ++ t298).size) = false := decide_eq_false zck
          have c43b4 : decide (240 < x4_1.size + t298.size) = false := by rw [ByteArray.size_append] at c43b1; exact c43b1
          have c43b5 : decide (240 < (x4_1.size : Int) + (t298.size : Int)) = false := decide_eq_false (by have h_ := of_decide_eq_false c43b4; omega)
          clear c43
          simp only [Option.some.injEq, Prod.mk.injEq] at H
          obtain ⟨rfl, rfl⟩ := H
          go_wp2_with (first | ((with_reducible refine gate_callee (f := 59) rfl ?_); refine goesL_ (some 60) rfl rfl Try.func59 ze rfl #[.string x4_1] rfl zcm ?_; (with_reducible refine (impl_seal.calls k1 x4_1 t298 _ A41.out).mono ?_); rintro e w45 ⟨rfl, hb⟩; refine ⟨_, rfl, ?_⟩; have n0_ := qo (qr (g := gb286) (o := .cells #[.int .i64 a0_0, .int .i64 a0_1, .int .i64 a0_2, .slice A0_3 l0_3.length c0_3] 24 (0, 0)) z2 hb); have n1_ := qo (qq zx hb); clear BK286; clear HB; have BK286 := n0_; have HB := n1_; clear n0_ n1_; (try clear hb); (try clear hb2); (try clear hk); (try clear hi)))
          go_ret2
          exact ⟨zd, zx⟩
        ·rw [if_neg c42] at H
         exact absurd H zbh
    ·rw [if_neg c10] at H
     exact absurd H zbh
   ·rw [if_neg c8] at H
    exact absurd H zbh
  ·rw [if_neg c6] at H
   exact absurd H zbh
 ·replace c3 := Bool.eq_false_iff.mpr c3
  subst c3
  have H1 : (some ((⟨#[]⟩ : ByteArray), false)) = some (r1, r2) := by rw [if_neg (show ¬ (false = true) by decide)] at H; exact H
  clear H
  have H := H1
  clear H1
  simp only [Option.some.injEq, Prod.mk.injEq] at H
  obtain ⟨rfl, rfl⟩ := H
  go_enter Try.func29, Try.ntmps29
  go_wp2_with (first | ((with_reducible refine gate_dst (N := 1) rfl ?_); refine box_event ?hg (N := 1) ?hd (cs := #[.int .i64 a0_0, .int .i64 a0_1, .int .i64 a0_2, .slice A0_3 l0_3.length c0_3]) (t := 24) ?hr ?_; (case hd => rfl); (case hg => rfl); (case hr => first | (go_simp; done) | (go_simp; rfl)); intro gb286 hg w46 hbox hb; have n0_ := qo (qq za hb); have n1_ := qo (hbox); have n2_ := qo ((zcn : w.heap.size ≤ gb286)); have n3_ := qo ((zcn : w.heap.size ≤ gb286)); clear HB; have HB := n0_; have BK286 := n1_; have GW286 := n2_; have GE286 := n3_; clear n0_ n1_ n2_ n3_; clear hb hbox hg; have hcz47_0 : w46.cell? ⟨gb286, 0, none⟩ = some (.int .i64 a0_0) := (qs BK286.out 0).trans rfl; have hcz47_1 : w46.cell? ⟨gb286, 1, none⟩ = some (.int .i64 a0_1) := (qs BK286.out 1).trans rfl; have hcz47_2 : w46.cell? ⟨gb286, 2, none⟩ = some (.int .i64 a0_2) := (qs BK286.out 2).trans rfl; have hcz47_3 : w46.cell? ⟨gb286, 3, none⟩ = some (.slice A0_3 l0_3.length c0_3) := (qs BK286.out 3).trans rfl; have hfz47_0 := qu BK286.out 0; have hfz47_1 := qu BK286.out 1; have hfz47_2 := qu BK286.out 2; have hfz47_3 := qu BK286.out 3) | ((with_reducible refine gate_callee (f := 61) rfl ?_); refine goesL_ (some 10) rfl rfl Try.func61 ze rfl #[.agg #[.int .i64 a0_0, .int .i64 a0_1, .int .i64 a0_2, .slice A0_3 l0_3.length c0_3]] rfl zcm ?_; (with_reducible refine (impl_MetaOk.calls k a0_0 a0_1 a0_2 _ _ l0_3 false _ ?side1 ?side2 A2.out).mono ?_); (case side1 => repeat (first | exact (Kd.C_below HR0_3.out HB.out) | (with_reducible refine Kd.C_alloc ?_ _) | (with_reducible refine Kd.C_drewN ?_ _) | (with_reducible refine Kd.C_drew ?_))); (case side2 => exact HC0_3.out); rintro e w48 ⟨rfl, hb⟩; refine ⟨_, rfl, ?_⟩; have n0_ := qo (qr (g := gb286) (o := .cells #[.int .i64 a0_0, .int .i64 a0_1, .int .i64 a0_2, .slice A0_3 l0_3.length c0_3] 24 (0, 0)) z2 hb); have n1_ := qo (qq zx hb); clear BK286; clear HB; have BK286 := n0_; have HB := n1_; clear n0_ n1_; (try clear hb); (try clear hb2); (try clear hk); (try clear hi)))
  go_ret2
  exact ⟨zd, zx⟩

end Go.Proofs.Yteokilffbcbllaa.VFnExactBestMeta
