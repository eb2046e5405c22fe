-- Written by a program of this repo (wip/myprint.py), over the kit's print; functions that the print does not take stand in it by hand-proved contracts.
import Derived.Test.YteokilffbcbllaaVFnExactBestMetax0
import Derived.Test.YteokilffbcbllaaVFnExactBestMetax3
import Derived.Test.YteokilffbcbllaaVFnExactBestMetax4
namespace Go.Proofs.Yteokilffbcbllaa.VFnExactBestMeta
open Go.RowKit Go.Proofs.YteokilffbcbllaaW.PrintWords Go.Proofs.YteokilffbcbllaaW.PrintLast Go.Proofs.YteokilffbcbllaaW.PrintMore
attribute [local go_sem] max2_int min2_int max_two min_two max_three min_three max_four min_four   -- for this text's walks alone
attribute [local go_sem high] str_leq str_gtr str_geq str_lss
set_option linter.unusedVariables false
set_option linter.unusedSimpArgs false

/-! ### spec_MetaText: function 20 -/
mutual
def spec_MetaText.l0 : Nat → ByteArray → Int → Int → Int → Int → List (S60) → Option (ByteArray × Bool)
 | 0, _, _, _, _, _, _ => none
 | k + 1, x4, x5, x143000, x143001, x143002, x143003 => if x5 < (x143003.length : Int) then (if 0 ≤ x5 then ((spec_l01Var.f k ((rd_T60 x143003 x5).f0)).bind fun t149 => (if x4.size + t149.size ≤ 9223372036854775807 then ((spec_l01Var.f k (((rd_T60 x143003 x5).f1).length : Int)).bind fun t151 => (if (x4 ++ t149).size + t151.size ≤ 9223372036854775807 then (spec_MetaText.l1 k ((x4 ++ t149) ++ t151) x5 0 x143000 x143001 x143002 x143003) else (none))) else (none))) else (none)) else ((spec_Sealed.f k x4).bind fun bt156 => (if bt156.2 = true then (if (bt156.1.size : Int) > 240 then (some ((⟨#[]⟩ : ByteArray), false)) else (some (bt156.1, true))) else (some ((⟨#[]⟩ : ByteArray), false))))
def spec_MetaText.l1 : Nat → ByteArray → Int → Int → Int → Int → Int → List (S60) → Option (ByteArray × Bool)
 | 0, _, _, _, _, _, _, _ => none
 | k + 1, x4, x5, x6, x143000, x143001, x143002, x143003 => if 0 ≤ x5 then (if x5 < (x143003.length : Int) then (if x6 < (((rd_T60 x143003 x5).f1).length : Int) then (if 0 ≤ x6 then ((spec_l01Var.f k (rd ((rd_T60 x143003 x5).f1) x6)).bind fun t155 => (if x4.size + t155.size ≤ 9223372036854775807 then (spec_MetaText.l1 k (x4 ++ t155) x5 (wrap64 (x6 + 1)) x143000 x143001 x143002 x143003) else (none))) else (none)) else (spec_MetaText.l0 k x4 (wrap64 (x5 + 1)) x143000 x143001 x143002 x143003)) else (none)) else (none)
end
def spec_MetaText.f (k : Nat) (a0_0 : Int) (a0_1 : Int) (a0_2 : Int) (l0_3 : List (S60)) : Option (ByteArray × Bool) := (spec_MetaOk.f k a0_0 a0_1 a0_2 l0_3).bind fun t143 => (if t143 = true then ((spec_l01Var.f k a0_0).bind fun t144 => ((spec_l01Var.f k a0_1).bind fun t145 => (if t144.size + t145.size ≤ 9223372036854775807 then ((spec_l01Var.f k a0_2).bind fun t146 => (if (t144 ++ t145).size + t146.size ≤ 9223372036854775807 then ((spec_l01Var.f k (l0_3.length : Int)).bind fun t147 => (if ((t144 ++ t145) ++ t146).size + t147.size ≤ 9223372036854775807 then (spec_MetaText.l0 k (((t144 ++ t145) ++ t146) ++ t147) 0 a0_0 a0_1 a0_2 l0_3) else (none))) else (none))) else (none)))) else (some ((⟨#[]⟩ : ByteArray), false)))
theorem spec_MetaText.mono_l : ∀ k, (∀ y0 y1 y2 y3 y4 y5, LeO (spec_MetaText.l0 k y0 y1 y2 y3 y4 y5) (spec_MetaText.l0 (k + 1) y0 y1 y2 y3 y4 y5)) ∧ (∀ y0 y1 y2 y3 y4 y5 y6, LeO (spec_MetaText.l1 k y0 y1 y2 y3 y4 y5 y6) (spec_MetaText.l1 (k + 1) y0 y1 y2 y3 y4 y5 y6))
 | 0 => ⟨fun _ _ _ _ _ _ r h => by simp [spec_MetaText.l0] at h, fun _ _ _ _ _ _ _ r h => by simp [spec_MetaText.l1] at h⟩
 | k + 1 => by
  obtain ⟨ih0, ih1⟩ := spec_MetaText.mono_l k
  refine ⟨?_, ?_⟩
  ·intro y0 y1 y2 y3 y4 y5
   unfold spec_MetaText.l0
   repeat' first
   | (with_reducible exact ih0 _ _ _ _ _ _)
   | (with_reducible exact ih1 _ _ _ _ _ _ _)
   | (with_reducible exact spec_MetaOk.mono _ _ _ _ _)
   | (with_reducible exact spec_Sealed.mono _ _)
   | (with_reducible exact spec_l01Var.mono _ _)
   | (with_reducible exact LeO.refl _)
   | (with_reducible exact LeO.none _)
   | (with_reducible refine LeO.ite ?_ ?_)
   | (with_reducible refine LeO.bind ?_ (fun _ => ?_))
   | exact ih0 _ _ _ _ _ _
   | exact ih1 _ _ _ _ _ _ _
   | exact spec_MetaOk.mono _ _ _ _ _
   | exact spec_Sealed.mono _ _
   | exact spec_l01Var.mono _ _
   | exact LeO.none _
   | refine LeO.ite ?_ ?_
   | refine LeO.bind ?_ (fun _ => ?_)
  ·intro y0 y1 y2 y3 y4 y5 y6
   unfold spec_MetaText.l1
   repeat' first
   | (with_reducible exact ih0 _ _ _ _ _ _)
   | (with_reducible exact ih1 _ _ _ _ _ _ _)
   | (with_reducible exact spec_MetaOk.mono _ _ _ _ _)
   | (with_reducible exact spec_Sealed.mono _ _)
   | (with_reducible exact spec_l01Var.mono _ _)
   | (with_reducible exact LeO.refl _)
   | (with_reducible exact LeO.none _)
   | (with_reducible refine LeO.ite ?_ ?_)
   | (with_reducible refine LeO.bind ?_ (fun _ => ?_))
   | exact ih0 _ _ _ _ _ _
   | exact ih1 _ _ _ _ _ _ _
   | exact spec_MetaOk.mono _ _ _ _ _
   | exact spec_Sealed.mono _ _
   | exact spec_l01Var.mono _ _
   | exact LeO.none _
   | refine LeO.ite ?_ ?_
   | refine LeO.bind ?_ (fun _ => ?_)
theorem spec_MetaText.mono : ∀ a0 a1 a2 a3 k, LeO (spec_MetaText.f k a0 a1 a2 a3) (spec_MetaText.f (k + 1) a0 a1 a2 a3) := by
 intro a0 a1 a2 a3 k
 obtain ⟨ih0, ih1⟩ := spec_MetaText.mono_l k
 unfold spec_MetaText.f
 repeat' first
   | (with_reducible exact ih0 _ _ _ _ _ _)
   | (with_reducible exact ih1 _ _ _ _ _ _ _)
   | (with_reducible exact spec_MetaOk.mono _ _ _ _ _)
   | (with_reducible exact spec_Sealed.mono _ _)
   | (with_reducible exact spec_l01Var.mono _ _)
   | (with_reducible exact LeO.refl _)
   | (with_reducible exact LeO.none _)
   | (with_reducible refine LeO.ite ?_ ?_)
   | (with_reducible refine LeO.bind ?_ (fun _ => ?_))
   | exact ih0 _ _ _ _ _ _
   | exact ih1 _ _ _ _ _ _ _
   | exact spec_MetaOk.mono _ _ _ _ _
   | exact spec_Sealed.mono _ _
   | exact spec_l01Var.mono _ _
   | exact LeO.none _
   | refine LeO.ite ?_ ?_
   | refine LeO.bind ?_ (fun _ => ?_)
def spec_MetaText.T3 : Bool × List (List Nat × List Nat) := (true, [([], []), ([0], [0]), ([1], [1]), ([], []), ([3], [3]), ([4, 2], [4]), ([2, 5], [2, 5]), ([], []), ([7], [7]), ([8, 5], [8]), ([6, 9], [6, 9]), ([], []), ([11], [11]), ([12], [12]), ([13, 9], [13]), ([10, 14], [10, 14]), ([15, 14, 0, 1, 2, 3, 4, 5, 6, 7, 8, 9, 10, 11, 12, 13, 14, 15], [15])])
def spec_MetaText.B3 : List Nat := [0, 1, 3, 0, 8, 31, 63, 0, 128, 447, 1023, 0, 2048, 6144, 15295, 32767, 65535]
theorem spec_MetaText.tab3 : rtab .any (opsOf Try.f20 3) = spec_MetaText.T3 := by kernel_rfl
theorem spec_MetaText.bits3 : waitsOk spec_MetaText.T3.2 spec_MetaText.B3 = true := by kernel_rfl
def spec_MetaText.T7 : Bool × List (List Nat × List Nat) := (true, [([], []), ([], []), ([1], [1]), ([], []), ([2, 3], [2, 3]), ([4], [4]), ([5], [5]), ([6], [6]), ([0, 7], [0, 7]), ([], []), ([9], [9]), ([], []), ([10, 11], [10, 11]), ([12], [12]), ([13], [13]), ([14], [14]), ([15, 7], [15]), ([8, 16], [8, 16]), ([17, 16, 0, 1, 2, 3, 4, 5, 6, 7, 8, 9, 10, 11, 12, 13, 14, 15, 16, 17], [0, 17])])
def spec_MetaText.B7 : List Nat := [0, 0, 2, 0, 14, 30, 62, 126, 255, 0, 512, 0, 3584, 7680, 15872, 32256, 65278, 131071, 262143]
theorem spec_MetaText.tab7 : rtab .any (opsOf Try.f20 7) = spec_MetaText.T7 := by kernel_rfl
theorem spec_MetaText.bits7 : waitsOk spec_MetaText.T7.2 spec_MetaText.B7 = true := by kernel_rfl
set_option maxHeartbeats 8000000 in
set_option maxRecDepth 100000 in
theorem spec_MetaText.calls (k : Nat) (a0_0 : Int) (a0_1 : Int) (a0_2 : Int) (A0_3 : Option Addr) (c0_3 : Nat) (l0_3 : List (S60)) (r1 : ByteArray) (r2 : Bool) (w : World) (hr0_3 : Kd.C k60 w A0_3 l0_3.length l0_3) (hc0_3 : l0_3.length ≤ c0_3) (h : spec_MetaText.f k a0_0 a0_1 a0_2 l0_3 = some (r1, r2)) :
  Calls Try.prog 20 #[.agg #[.int .i64 a0_0, .int .i64 a0_1, .int .i64 a0_2, .slice A0_3 l0_3.length c0_3]] w fun e w' => e = .returned (.tuple #[.string r1, .bool r2]) ∧ Below w.heap.size w w' := by
 have hu24 := Try.underlying24
 have HR0_3 := qo hr0_3
 have HC0_3 := qo hc0_3
 clear hr0_3 hc0_3
 have HB := qo (Below.refl w.heap.size w)
 have H : ((spec_MetaOk.f k a0_0 a0_1 a0_2 l0_3).bind fun t143 => (if t143 = true then ((spec_l01Var.f k a0_0).bind fun t144 => ((spec_l01Var.f k a0_1).bind fun t145 => (if t144.size + t145.size ≤ 9223372036854775807 then ((spec_l01Var.f k a0_2).bind fun t146 => (if (t144 ++ t145).size + t146.size ≤ 9223372036854775807 then ((spec_l01Var.f k (l0_3.length : Int)).bind fun t147 => (if ((t144 ++ t145) ++ t146).size + t147.size ≤ 9223372036854775807 then (spec_MetaText.l0 k (((t144 ++ t145) ++ t146) ++ t147) 0 a0_0 a0_1 a0_2 l0_3) else (none))) else (none))) else (none)))) else (some ((⟨#[]⟩ : ByteArray), false)))) = some (r1, r2) := h
 clear h
 replace H := Option.bind_eq_some_iff.mp H
 obtain ⟨t143, A20, H⟩ := H
 replace H : (if t143 = true then ((spec_l01Var.f k a0_0).bind fun t144 => ((spec_l01Var.f k a0_1).bind fun t145 => (if t144.size + t145.size ≤ 9223372036854775807 then ((spec_l01Var.f k a0_2).bind fun t146 => (if (t144 ++ t145).size + t146.size ≤ 9223372036854775807 then ((spec_l01Var.f k (l0_3.length : Int)).bind fun t147 => (if ((t144 ++ t145) ++ t146).size + t147.size ≤ 9223372036854775807 then (spec_MetaText.l0 k (((t144 ++ t145) ++ t146) ++ t147) 0 a0_0 a0_1 a0_2 l0_3) else (none))) else (none))) else (none)))) else (some ((⟨#[]⟩ : ByteArray), false))) = some (r1, r2) := H
 have A2 := qo A20
 clear A20
 by_cases c3 : t143 = true
 ·subst c3
  have H1 : ((spec_l01Var.f k a0_0).bind fun t144 => ((spec_l01Var.f k a0_1).bind fun t145 => (if t144.size + t145.size ≤ 9223372036854775807 then ((spec_l01Var.f k a0_2).bind fun t146 => (if (t144 ++ t145).size + t146.size ≤ 9223372036854775807 then ((spec_l01Var.f k (l0_3.length : Int)).bind fun t147 => (if ((t144 ++ t145) ++ t146).size + t147.size ≤ 9223372036854775807 then (spec_MetaText.l0 k (((t144 ++ t145) ++ t146) ++ t147) 0 a0_0 a0_1 a0_2 l0_3) else (none))) else (none))) else (none)))) = some (r1, r2) := by rw [if_pos rfl] at H; exact H
  clear H
  have H := H1
  clear H1
  replace H := Option.bind_eq_some_iff.mp H
  obtain ⟨t144, A40, H⟩ := H
  replace H : ((spec_l01Var.f k a0_1).bind fun t145 => (if t144.size + t145.size ≤ 9223372036854775807 then ((spec_l01Var.f k a0_2).bind fun t146 => (if (t144 ++ t145).size + t146.size ≤ 9223372036854775807 then ((spec_l01Var.f k (l0_3.length : Int)).bind fun t147 => (if ((t144 ++ t145) ++ t146).size + t147.size ≤ 9223372036854775807 then (spec_MetaText.l0 k (((t144 ++ t145) ++ t146) ++ t147) 0 a0_0 a0_1 a0_2 l0_3) else (none))) else (none))) else (none))) = some (r1, r2) := H
  have A4 := qo A40
  clear A40
  replace H := Option.bind_eq_some_iff.mp H
  obtain ⟨t145, A50, H⟩ := H
  replace H : (if t144.size + t145.size ≤ 9223372036854775807 then ((spec_l01Var.f k a0_2).bind fun t146 => (if (t144 ++ t145).size + t146.size ≤ 9223372036854775807 then ((spec_l01Var.f k (l0_3.length : Int)).bind fun t147 => (if ((t144 ++ t145) ++ t146).size + t147.size ≤ 9223372036854775807 then (spec_MetaText.l0 k (((t144 ++ t145) ++ t146) ++ t147) 0 a0_0 a0_1 a0_2 l0_3) else (none))) else (none))) else (none)) = some (r1, r2) := H
  have A5 := qo A50
  clear A50
  by_cases c6 : t144.size + t145.size ≤ 9223372036854775807
  ·rw [if_pos c6] at H
   have c6b0 := eq_true c6
   have c6b1 : decide (t144.size + t145.size ≤ 9223372036854775807) = true := decide_eq_true c6
   try have c6b2 : (9223372036854775807 < t144.size + t145.size) = False := eq_false (Nat.not_lt.2 c6)
   replace H := Option.bind_eq_some_iff.mp H
   obtain ⟨t146, A70, H⟩ := H
   replace H : (if (t144 ++ t145).size + t146.size ≤ 9223372036854775807 then ((spec_l01Var.f k (l0_3.length : Int)).bind fun t147 => (if ((t144 ++ t145) ++ t146).size + t147.size ≤ 9223372036854775807 then (spec_MetaText.l0 k (((t144 ++ t145) ++ t146) ++ t147) 0 a0_0 a0_1 a0_2 l0_3) else (none))) else (none)) = some (r1, r2) := H
   have A7 := qo A70
   clear A70
   by_cases c8 : (t144 ++ t145).size + t146.size ≤ 9223372036854775807
   ·rw [if_pos c8] at H
    have c8b0 := eq_true c8
    have c8b1 : decide ((t144 ++ t145).size + t146.size ≤ 9223372036854775807) = true := decide_eq_true c8
    try have c8b2 : (9223372036854775807 < (t144 ++ t145).size + t146.size) = False := eq_false (Nat.not_lt.2 c8)
    try have c8b3 := c8b2
    try simp only [ByteArray.size_append] at c8b3
    replace H := Option.bind_eq_some_iff.mp H
    obtain ⟨t147, A90, H⟩ := H
    replace H : (if ((t144 ++ t145) ++ t146).size + t147.size ≤ 9223372036854775807 then (spec_MetaText.l0 k (((t144 ++ t145) ++ t146) ++ t147) 0 a0_0 a0_1 a0_2 l0_3) else (none)) = some (r1, r2) := H
    have A9 := qo A90
    clear A90
    by_cases c10 : ((t144 ++ t145) ++ t146).size + t147.size ≤ 9223372036854775807
    ·rw [if_pos c10] at H
     have c10b0 := eq_true c10
     have c10b1 : decide (((t144 ++ t145) ++ t146).size + t147.size ≤ 9223372036854775807) = true := decide_eq_true c10
     try have c10b2 : (9223372036854775807 < ((t144 ++ t145) ++ t146).size + t147.size) = False := eq_false (Nat.not_lt.2 c10)
     try have c10b3 := c10b2
     try simp only [ByteArray.size_append] at c10b3
     have H' := qo H
     clear H
     go_enter Try.func20, Try.ntmps20
     try go_wp2_with (first | ((with_reducible refine gate_dst (N := 1) rfl ?_); (try (refine gate_guard zae ?_; dsimp only)); refine box_event ?hg (N := 1) ?hd (cs := #[.int .i64 a0_0, .int .i64 a0_1, .int .i64 a0_2, .slice A0_3 l0_3.length c0_3]) (t := 24) ?hr ?_; (case hd => rfl); (case hg => rfl); (case hr => first | (go_simp; done) | (go_simp; rfl)); intro gb142 hg w11 hbox hb; have n0_ := qo (qq za hb); have n1_ := qo (hbox); have n2_ := qo ((zcn : w.heap.size ≤ gb142)); have n3_ := qo ((zcn : w.heap.size ≤ gb142)); clear HB; have HB := n0_; have BK142 := n1_; have GW142 := n2_; have GE142 := n3_; clear n0_ n1_ n2_ n3_; clear hb hbox hg; have hcz12_0 : w11.cell? ⟨gb142, 0, none⟩ = some (.int .i64 a0_0) := (qs BK142.out 0).trans rfl; have hcz12_1 : w11.cell? ⟨gb142, 1, none⟩ = some (.int .i64 a0_1) := (qs BK142.out 1).trans rfl; have hcz12_2 : w11.cell? ⟨gb142, 2, none⟩ = some (.int .i64 a0_2) := (qs BK142.out 2).trans rfl; have hcz12_3 : w11.cell? ⟨gb142, 3, none⟩ = some (.slice A0_3 l0_3.length c0_3) := (qs BK142.out 3).trans rfl; have hfz12_0 := qu BK142.out 0; have hfz12_1 := qu BK142.out 1; have hfz12_2 := qu BK142.out 2; have hfz12_3 := qu BK142.out 3) | ((with_reducible refine gate_callee (f := 46) rfl ?_); refine goesL_ (some 10) rfl rfl Try.func46 ze rfl #[.agg #[.int .i64 a0_0, .int .i64 a0_1, .int .i64 a0_2, .slice A0_3 l0_3.length c0_3]] rfl zcm ?_; (with_reducible refine (spec_MetaOk.calls k a0_0 a0_1 a0_2 _ _ l0_3 true _ ?side1 ?side2 A2.out).mono ?_); (case side1 => repeat (first | exact (Kd.C_below HR0_3.out HB.out) | (with_reducible refine Kd.C_alloc ?_ _) | (with_reducible refine Kd.C_drewN ?_ _) | (with_reducible refine Kd.C_drew ?_))); (case side2 => exact HC0_3.out); rintro e w13 ⟨rfl, hb⟩; refine ⟨_, rfl, ?_⟩; have n0_ := qo (qr (g := gb142) (o := .cells #[.int .i64 a0_0, .int .i64 a0_1, .int .i64 a0_2, .slice A0_3 l0_3.length c0_3] 24 (0, 0)) z8 hb); have n1_ := qo (qq zl hb); clear BK142; clear HB; have BK142 := n0_; have HB := n1_; clear n0_ n1_; (try clear hb); (try clear hb2); (try clear hk); (try clear hi)))
     have n0_ := qo (qj BK142.out)
     have n1_ := qo (qn HB.out)
     clear BK142
     clear HB
     have BK142 := n0_
     have HB := n1_
     clear n0_ n1_
     refine start_ (n := 17) (S := fun w' => w'.cell? ⟨gb142, 0, none⟩ = some (.int .i64 a0_0) ∧ w'.cell? ⟨gb142, 1, none⟩ = some (.int .i64 a0_1) ∧ w'.cell? ⟨gb142, 2, none⟩ = some (.int .i64 a0_2) ∧ w'.cell? ⟨gb142, 3, none⟩ = some (.slice A0_3 l0_3.length c0_3)) (ds := []) (bz 17 0) ze rfl rfl ⟨(qs BK142.out 0).trans rfl, (qs BK142.out 1).trans rfl, (qs BK142.out 2).trans rfl, (qs BK142.out 3).trans rfl⟩ (fun hHeld => ?_); refine with_tabW spec_MetaText.tab3 spec_MetaText.bits3 (fun HT_ HW_ => ?_)
     generalize w13.drew = w14 at BK142 HB hHeld ⊢
     refine pure_ (i := 0) (N := some 12) (v := ?_) (a' := ?_) (bz 17 1) rfl rfl (any_of HT_.out ze) (fun _ _ _ h => h) (Or.inl ⟨zae, ?_⟩) ?_ ?_; rotate_left; (intro w'; go_simp; with_reducible rfl); rotate_left; (simp only [Act.put, qa, qb, qc, i64_w, i32_w]; rfl)
     refine pure_ (i := 3) (N := some 15) (v := ?_) (a' := ?_) (bz 17 9) rfl rfl (any_of HT_.out ze) (fun _ _ _ h => h) (Or.inl ⟨zae, ?_⟩) ?_ ?_; rotate_left; (intro w'; go_simp; with_reducible rfl); rotate_left; (simp only [Act.put, qa, qb, qc, i64_w, i32_w]; rfl)
     refine pure_ (i := 7) (N := some 19) (v := ?_) (a' := ?_) (bz 17 137) rfl rfl (any_of HT_.out ze) (fun _ _ _ h => h) (Or.inl ⟨zae, ?_⟩) ?_ ?_; rotate_left; (intro w'; go_simp; with_reducible rfl); rotate_left; (simp only [Act.put, qa, qb, qc, i64_w, i32_w]; rfl)
     refine pure_ (i := 11) (N := some 23) (v := ?_) (a' := ?_) (bz 17 2185) rfl rfl (any_of HT_.out ze) (fun _ _ _ h => h) (Or.inl ⟨zae, ?_⟩) ?_ ?_; rotate_left; (intro w'; go_simp; with_reducible rfl); rotate_left; (simp only [Act.put, qa, qb, qc, i64_w, i32_w]; rfl)
     refine take_ (i := 1) (N := some 13) (v := ?_) (a' := ?_) (bz 17 2187) rfl rfl (take_ofW HT_.out HW_.out ze) (fun _ _ _ h => h) (Or.inl ⟨zae, ?_⟩) hHeld ?_ ?_; rotate_left; (rintro w' ⟨s0, s1, s2, s3⟩; go_simp; with_reducible rfl); rotate_left; (simp only [Act.put, qa, qb, qc, i64_w, i32_w]; rfl)
     refine take_ (i := 4) (N := some 16) (v := ?_) (a' := ?_) (bz 17 2203) rfl rfl (take_ofW HT_.out HW_.out ze) (fun _ _ _ h => h) (Or.inl ⟨zae, ?_⟩) hHeld ?_ ?_; rotate_left; (rintro w' ⟨s0, s1, s2, s3⟩; go_simp; with_reducible rfl); rotate_left; (simp only [Act.put, qa, qb, qc, i64_w, i32_w]; rfl)
     refine take_ (i := 8) (N := some 20) (v := ?_) (a' := ?_) (bz 17 2459) rfl rfl (take_ofW HT_.out HW_.out ze) (fun _ _ _ h => h) (Or.inl ⟨zae, ?_⟩) hHeld ?_ ?_; rotate_left; (rintro w' ⟨s0, s1, s2, s3⟩; go_simp; with_reducible rfl); rotate_left; (simp only [Act.put, qa, qb, qc, i64_w, i32_w]; rfl)
     refine take_ (i := 12) (N := some 24) (v := ?_) (a' := ?_) (bz 17 6555) rfl rfl (take_ofW HT_.out HW_.out ze) (fun _ _ _ h => h) (Or.inl ⟨zae, ?_⟩) hHeld ?_ ?_; rotate_left; (rintro w' ⟨s0, s1, s2, s3⟩; go_simp; with_reducible rfl); rotate_left; (simp only [Act.put, qa, qb, qc, i64_w, i32_w]; rfl)
     refine pure_ (i := 13) (N := some 25) (v := ?_) (a' := ?_) (bz 17 14747) rfl rfl (any_of HT_.out ze) (fun _ _ _ h => h) (Or.inl ⟨zae, ?_⟩) ?_ ?_; rotate_left; (intro w'; go_simp; with_reducible rfl); rotate_left; (simp only [Act.put, qa, qb, qc, i64_w, i32_w]; rfl)
     refine one_ (i := 2) (N := some 14) (bz 17 14751) rfl rfl (one_of HT_.out ze) za7 (fun K hK => ?_)
     refine goes_ Try.func47 ze rfl #[.int .i64 a0_0] zae rfl rfl zcm ?_
     with_reducible refine (spec_l01Var.calls k a0_0 t144 _ A4.out).mono ?_
     rintro e w15 ⟨rfl, hb⟩
     refine ⟨_, rfl, ?_⟩
     have n0_ := qo (qr (g := gb142) (o := .cells #[.int .i64 a0_0, .int .i64 a0_1, .int .i64 a0_2, .slice A0_3 l0_3.length c0_3] 24 (0, 0)) z8 hb)
     have n1_ := qo (qq zl hb)
     clear BK142
     clear HB
     have BK142 := n0_
     have HB := n1_
     clear n0_ n1_
     (try clear hb)
     (try clear hb2)
     (try clear hk)
     (try clear hi)
     refine hK.out _ _ ⟨(qs BK142.out 0).trans rfl, (qs BK142.out 1).trans rfl, (qs BK142.out 2).trans rfl, (qs BK142.out 3).trans rfl⟩ (fun hHeld => ?_)
     clear hK K
     refine norm_ (a' := ?_) ?_ ?_; rotate_left; (show Act.put _ (some 14) _ = _; simp only [Act.put, qa, qb, qc, i64_w, i32_w]; rfl)
     refine one_ (i := 5) (N := some 17) (bz 17 14783) rfl rfl (one_of HT_.out ze) za7 (fun K hK => ?_)
     refine goes_ Try.func47 ze rfl #[.int .i64 a0_1] zae rfl rfl zcm ?_
     with_reducible refine (spec_l01Var.calls k a0_1 t145 _ A5.out).mono ?_
     rintro e w16 ⟨rfl, hb⟩
     refine ⟨_, rfl, ?_⟩
     have n0_ := qo (qr (g := gb142) (o := .cells #[.int .i64 a0_0, .int .i64 a0_1, .int .i64 a0_2, .slice A0_3 l0_3.length c0_3] 24 (0, 0)) z8 hb)
     have n1_ := qo (qq zl hb)
     clear BK142
     clear HB
     have BK142 := n0_
     have HB := n1_
     clear n0_ n1_
     (try clear hb)
     (try clear hb2)
     (try clear hk)
     (try clear hi)
     refine hK.out _ _ ⟨(qs BK142.out 0).trans rfl, (qs BK142.out 1).trans rfl, (qs BK142.out 2).trans rfl, (qs BK142.out 3).trans rfl⟩ (fun hHeld => ?_)
     clear hK K
     refine norm_ (a' := ?_) ?_ ?_; rotate_left; (show Act.put _ (some 17) _ = _; simp only [Act.put, qa, qb, qc, i64_w, i32_w]; rfl)
     refine pure_ (i := 6) (N := some 18) (v := ?_) (a' := ?_) (bz 17 14847) rfl rfl (any_of HT_.out ze) (fun _ _ _ h => h) (Or.inl ⟨zae, ?_⟩) ?_ ?_; rotate_left; (intro w'; go_simp; with_reducible rfl); rotate_left; (simp only [Act.put, qa, qb, qc, i64_w, i32_w]; rfl)
     refine one_ (i := 9) (N := some 21) (bz 17 15359) rfl rfl (one_of HT_.out ze) za7 (fun K hK => ?_)
     refine goes_ Try.func47 ze rfl #[.int .i64 a0_2] zae rfl rfl zcm ?_
     with_reducible refine (spec_l01Var.calls k a0_2 t146 _ A7.out).mono ?_
     rintro e w17 ⟨rfl, hb⟩
     refine ⟨_, rfl, ?_⟩
     have n0_ := qo (qr (g := gb142) (o := .cells #[.int .i64 a0_0, .int .i64 a0_1, .int .i64 a0_2, .slice A0_3 l0_3.length c0_3] 24 (0, 0)) z8 hb)
     have n1_ := qo (qq zl hb)
     clear BK142
     clear HB
     have BK142 := n0_
     have HB := n1_
     clear n0_ n1_
     (try clear hb)
     (try clear hb2)
     (try clear hk)
     (try clear hi)
     refine hK.out _ _ ⟨(qs BK142.out 0).trans rfl, (qs BK142.out 1).trans rfl, (qs BK142.out 2).trans rfl, (qs BK142.out 3).trans rfl⟩ (fun hHeld => ?_)
     clear hK K
     refine norm_ (a' := ?_) ?_ ?_; rotate_left; (show Act.put _ (some 21) _ = _; simp only [Act.put, qa, qb, qc, i64_w, i32_w]; rfl)
     refine pure_ (i := 10) (N := some 22) (v := ?_) (a' := ?_) (bz 17 16383) rfl rfl (any_of HT_.out ze) (fun _ _ _ h => h) (Or.inl ⟨zae, ?_⟩) ?_ ?_; rotate_left; (intro w'; go_simp; with_reducible rfl); rotate_left; (simp only [Act.put, qa, qb, qc, i64_w, i32_w]; rfl)
     refine one_ (i := 14) (N := some 26) (bz 17 32767) rfl rfl (one_of HT_.out ze) za7 (fun K hK => ?_)
     refine goes_ Try.func47 ze rfl #[.int .i64 (l0_3.length : Int)] zae rfl rfl zcm ?_
     with_reducible refine (spec_l01Var.calls k (l0_3.length : Int) t147 _ A9.out).mono ?_
     rintro e w18 ⟨rfl, hb⟩
     refine ⟨_, rfl, ?_⟩
     have n0_ := qo (qr (g := gb142) (o := .cells #[.int .i64 a0_0, .int .i64 a0_1, .int .i64 a0_2, .slice A0_3 l0_3.length c0_3] 24 (0, 0)) z8 hb)
     have n1_ := qo (qq zl hb)
     clear BK142
     clear HB
     have BK142 := n0_
     have HB := n1_
     clear n0_ n1_
     (try clear hb)
     (try clear hb2)
     (try clear hk)
     (try clear hi)
     refine hK.out _ _ ⟨(qs BK142.out 0).trans rfl, (qs BK142.out 1).trans rfl, (qs BK142.out 2).trans rfl, (qs BK142.out 3).trans rfl⟩ (fun hHeld => ?_)
     clear hK K
     refine norm_ (a' := ?_) ?_ ?_; rotate_left; (show Act.put _ (some 26) _ = _; simp only [Act.put, qa, qb, qc, i64_w, i32_w]; rfl)
     refine pure_ (i := 15) (N := some 27) (v := ?_) (a' := ?_) (bz 17 65535) rfl rfl (any_of HT_.out ze) (fun _ _ _ h => h) (Or.inl ⟨zae, ?_⟩) ?_ ?_; rotate_left; (intro w'; go_simp; with_reducible rfl); rotate_left; (simp only [Act.put, qa, qb, qc, i64_w, i32_w]; rfl)
     refine pure_ (i := 16) (N := some 4) (v := ?_) (a' := ?_) (bz 17 131071) rfl rfl (any_of HT_.out ze) (fun _ _ _ h => h) (Or.inl ⟨zae, ?_⟩) ?_ ?_; rotate_left; (intro w'; go_simp; with_reducible rfl); rotate_left; (simp only [Act.put, qa, qb, qc, i64_w, i32_w]; rfl)
     refine done_ (done_of HT_.out ze) ?_
     try go_wp2
     go_loopg [4, 5] k (fun kq v4 v5 w' => ∃ (x4_1 : ByteArray) (x5_1 : Int), v4 = .string x4_1 ∧ v5 = .int .i64 x5_1 ∧ Aside0 (spec_MetaText.l0 kq x4_1 x5_1 a0_0 a0_1 a0_2 l0_3 = some (r1, r2)) ∧ Aside0 (kq ≤ k) ∧ Aside0 (w'.heap[gb142]? = some (.cells #[.int .i64 a0_0, .int .i64 a0_1, .int .i64 a0_2, (.slice A0_3 l0_3.length c0_3)] 24 (0, 0))) ∧ Aside0 (Below w.heap.size w w'))
     case atStart => exact ⟨(((t144 ++ t145) ++ t146) ++ t147), (0), zc, zc, H', ⟨Nat.le_refl _⟩, ⟨z8⟩, ⟨zl⟩⟩
     case round =>
      clear H'
      (try clear c1); (try clear c2); (try clear p2); (try clear c3); (try clear c4); (try clear c6); (try clear c6b0); (try clear c6b1); (try clear c6b2); (try clear c8); (try clear c8b0); (try clear c8b1); (try clear c8b2); (try clear c10); (try clear c10b0); (try clear c10b1); (try clear c10b2); (try clear hcz12_0); (try clear hcz12_1); (try clear hcz12_2); (try clear hcz12_3); (try clear hfz12_0); (try clear hfz12_1); (try clear hfz12_2); (try clear hfz12_3)
      obtain ⟨x4_1, x5_1, rfl, rfl, HA, HK1, BK142, HB⟩ := hrel
      cases gk with
      | zero => exact absurd HA.out (by simp [spec_MetaText.l0])
      | succ k1 =>
       have H := HA.out
       clear HA
       simp only [spec_MetaText.l0] at H
       by_cases c19 : x5_1 < (l0_3.length : Int)
       ·rw [if_pos c19] at H
        have c19b0 : decide (x5_1 < (l0_3.length : Int)) = true := decide_eq_true c19
        clear c19
        by_cases c20 : 0 ≤ x5_1
        ·rw [if_pos c20] at H
         have c20b0 : decide (0 ≤ x5_1) = true := decide_eq_true c20
         clear c20
         replace H := Option.bind_eq_some_iff.mp H
         obtain ⟨t149, A210, H⟩ := H
         replace H : (if x4_1.size + t149.size ≤ 9223372036854775807 then ((spec_l01Var.f k1 (((rd_T60 l0_3 x5_1).f1).length : Int)).bind fun t151 => (if (x4_1 ++ t149).size + t151.size ≤ 9223372036854775807 then (spec_MetaText.l1 k1 ((x4_1 ++ t149) ++ t151) x5_1 0 a0_0 a0_1 a0_2 l0_3) else (none))) else (none)) = some (r1, r2) := H
         have A21 := qo A210
         clear A210
         by_cases c22 : x4_1.size + t149.size ≤ 9223372036854775807
         ·rw [if_pos c22] at H
          have c22b0 := eq_true c22
          have c22b1 : decide (x4_1.size + t149.size ≤ 9223372036854775807) = true := decide_eq_true c22
          try have c22b2 : (9223372036854775807 < x4_1.size + t149.size) = False := eq_false (Nat.not_lt.2 c22)
          replace H := Option.bind_eq_some_iff.mp H
          obtain ⟨t151, A230, H⟩ := H
          replace H : (if (x4_1 ++ t149).size + t151.size ≤ 9223372036854775807 then (spec_MetaText.l1 k1 ((x4_1 ++ t149) ++ t151) x5_1 0 a0_0 a0_1 a0_2 l0_3) else (none)) = some (r1, r2) := H
          have A23 := qo A230
          clear A230
          by_cases c24 : (x4_1 ++ t149).size + t151.size ≤ 9223372036854775807
          ·rw [if_pos c24] at H
           have c24b0 := eq_true c24
           have c24b1 : decide ((x4_1 ++ t149).size + t151.size ≤ 9223372036854775807) = true := decide_eq_true c24
           try have c24b2 : (9223372036854775807 < (x4_1 ++ t149).size + t151.size) = False := eq_false (Nat.not_lt.2 c24)
           try have c24b3 := c24b2
           try simp only [ByteArray.size_append] at c24b3
           have H' := qo H
           clear H
           have hcz25_0 : wr.cell? ⟨gb142, 0, none⟩ = some (.int .i64 a0_0) := (qs BK142.out 0).trans rfl
           have hcz25_1 : wr.cell? ⟨gb142, 1, none⟩ = some (.int .i64 a0_1) := (qs BK142.out 1).trans rfl
           have hcz25_2 : wr.cell? ⟨gb142, 2, none⟩ = some (.int .i64 a0_2) := (qs BK142.out 2).trans rfl
           have hcz25_3 : wr.cell? ⟨gb142, 3, none⟩ = some (.slice A0_3 l0_3.length c0_3) := (qs BK142.out 3).trans rfl
           have hfz25_0 := qu BK142.out 0
           have hfz25_1 := qu BK142.out 1
           have hfz25_2 := qu BK142.out 2
           have hfz25_3 := qu BK142.out 3
           try go_wp2
           have n0_ := qo (qj BK142.out)
           have n1_ := qo (qn HB.out)
           clear BK142
           clear HB
           have BK142 := n0_
           have HB := n1_
           clear n0_ n1_
           have p148 : 0 ≤ (x5_1 : Int) := of_decide_eq_true zb
           have q148 : x5_1 < (l0_3.length : Int) := of_decide_eq_true zb
           obtain ⟨ad148, A148_1, c148_1, e148, hx148_0, hx148_1, hl148_1, hi148_1⟩ := at_T60 HR0_3.out x5_1 p148 q148
           have hw148_1 := hx148_1
           have hw148_0 := hx148_0
           cases e148
           replace hx148_0 := (HB.out.cell (World.block_lt_of_cell? w _ hx148_0)).trans hx148_0
           replace hx148_1 := (HB.out.cell (World.block_lt_of_cell? w _ hx148_1)).trans hx148_1
           have HR148_1 := qo hi148_1
           have HC148_1 := qo hl148_1
           clear hi148_1 hl148_1
           replace p148 := eq_true p148
           replace q148 := eq_true q148
           have p150 : 0 ≤ (x5_1 : Int) := of_decide_eq_true zb
           have q150 : x5_1 < (l0_3.length : Int) := of_decide_eq_true zb
           obtain ⟨ad150, A150_1, c150_1, e150, hx150_0, hx150_1, hl150_1, hi150_1⟩ := at_T60 HR0_3.out x5_1 p150 q150
           have hw150_1 := hx150_1
           have hw150_0 := hx150_0
           obtain rfl : ad148 = ad150 := (by injection e150)
           replace hx150_0 := (HB.out.cell (World.block_lt_of_cell? w _ hx150_0)).trans hx150_0
           replace hx150_1 := (HB.out.cell (World.block_lt_of_cell? w _ hx150_1)).trans hx150_1
           have HR150_1 := qo hi150_1
           have HC150_1 := qo hl150_1
           clear hi150_1 hl150_1
           replace p150 := eq_true p150
           replace q150 := eq_true q150
           have ea_ := Option.some.inj (hx148_1.symm.trans hx150_1)
           injection ea_ with ea_ en_ ec_
           subst ea_
           subst ec_
           clear en_
           refine start_ (n := 19) (S := fun w' => w'.cell? ⟨gb142, 0, none⟩ = some (.int .i64 a0_0) ∧ w'.cell? ⟨gb142, 1, none⟩ = some (.int .i64 a0_1) ∧ w'.cell? ⟨gb142, 2, none⟩ = some (.int .i64 a0_2) ∧ w'.cell? ⟨gb142, 3, none⟩ = some (.slice (some ad148) l0_3.length c0_3) ∧ w'.cell? (ad148.add ((x5_1).toNat * 2)) = some (.int .i64 ((rd_T60 l0_3 x5_1).f0)) ∧ w'.cell? ⟨(ad148.add ((x5_1).toNat * 2)).block, (ad148.add ((x5_1).toNat * 2)).off + 1, none⟩ = some (.slice A148_1 ((rd_T60 l0_3 x5_1).f1).length c148_1) ∧ w'.cell? (ad148.add ((x5_1).toNat * 2)) = some (.int .i64 ((rd_T60 l0_3 x5_1).f0)) ∧ w'.cell? ⟨(ad148.add ((x5_1).toNat * 2)).block, (ad148.add ((x5_1).toNat * 2)).off + 1, none⟩ = some (.slice A148_1 ((rd_T60 l0_3 x5_1).f1).length c148_1)) (ds := []) (bz 19 0) ze rfl rfl ⟨(qs BK142.out 0).trans rfl, (qs BK142.out 1).trans rfl, (qs BK142.out 2).trans rfl, (qs BK142.out 3).trans rfl, ((HB.out.cell (World.block_lt_of_cell? w _ hw148_0)).trans hw148_0), ((HB.out.cell (World.block_lt_of_cell? w _ hw148_1)).trans hw148_1), ((HB.out.cell (World.block_lt_of_cell? w _ hw150_0)).trans hw150_0), ((HB.out.cell (World.block_lt_of_cell? w _ hw150_1)).trans hw150_1)⟩ (fun hHeld => ?_); refine with_tabW spec_MetaText.tab7 spec_MetaText.bits7 (fun HT_ HW_ => ?_)
           generalize wr.drew = w26 at BK142 HB HR148_1 HR150_1 hx148_0 hx148_1 hx150_0 hx150_1 hHeld ⊢
           refine pure_ (i := 0) (N := some 35) (v := ?_) (a' := ?_) (bz 19 1) rfl rfl (any_of HT_.out ze) (fun _ _ _ h => h) (Or.inl ⟨zae, ?_⟩) ?_ ?_; rotate_left; (intro w'; go_simp; with_reducible rfl); rotate_left; (simp only [Act.put, qa, qb, qc, i64_w, i32_w]; rfl)
           refine pure_ (i := 1) (N := some 36) (v := ?_) (a' := ?_) (bz 19 3) rfl rfl (any_of HT_.out ze) (fun _ _ _ h => h) (Or.inl ⟨zae, ?_⟩) ?_ ?_; rotate_left; (intro w'; go_simp; with_reducible rfl); rotate_left; (simp only [Act.put, qa, qb, qc, i64_w, i32_w]; rfl)
           refine pure_ (i := 3) (N := some 38) (v := ?_) (a' := ?_) (bz 19 11) rfl rfl (any_of HT_.out ze) (fun _ _ _ h => h) (Or.inl ⟨zae, ?_⟩) ?_ ?_; rotate_left; (intro w'; go_simp; with_reducible rfl); rotate_left; (simp only [Act.put, qa, qb, qc, i64_w, i32_w]; rfl)
           refine pure_ (i := 9) (N := some 44) (v := ?_) (a' := ?_) (bz 19 523) rfl rfl (any_of HT_.out ze) (fun _ _ _ h => h) (Or.inl ⟨zae, ?_⟩) ?_ ?_; rotate_left; (intro w'; go_simp; with_reducible rfl); rotate_left; (simp only [Act.put, qa, qb, qc, i64_w, i32_w]; rfl)
           refine pure_ (i := 11) (N := some 46) (v := ?_) (a' := ?_) (bz 19 2571) rfl rfl (any_of HT_.out ze) (fun _ _ _ h => h) (Or.inl ⟨zae, ?_⟩) ?_ ?_; rotate_left; (intro w'; go_simp; with_reducible rfl); rotate_left; (simp only [Act.put, qa, qb, qc, i64_w, i32_w]; rfl)
           refine take_ (i := 2) (N := some 37) (v := ?_) (a' := ?_) (bz 19 2575) rfl rfl (take_ofW HT_.out HW_.out ze) (fun _ _ _ h => h) (Or.inl ⟨zae, ?_⟩) hHeld ?_ ?_; rotate_left; (rintro w' ⟨s0, s1, s2, s3, s4, s5, s6, s7⟩; go_simp; with_reducible rfl); rotate_left; (simp only [Act.put, qa, qb, qc, i64_w, i32_w]; rfl)
           refine pure_ (i := 4) (N := some 39) (v := ?_) (a' := ?_) (bz 19 2591) rfl rfl (any_of HT_.out ze) (fun _ _ _ h => h) (Or.inl ⟨zae, ?_⟩) ?_ ?_; rotate_left; (intro w'; go_simp; with_reducible rfl); rotate_left; (simp only [Act.put, qa, qb, qc, i64_w, i32_w]; rfl)
           refine pure_ (i := 5) (N := some 40) (v := ?_) (a' := ?_) (bz 19 2623) rfl rfl (any_of HT_.out ze) (fun _ _ _ h => h) (Or.inl ⟨zae, ?_⟩) ?_ ?_; rotate_left; (intro w'; go_simp; with_reducible rfl); rotate_left; (simp only [Act.put, qa, qb, qc, i64_w, i32_w]; rfl)
           refine take_ (i := 6) (N := some 41) (v := ?_) (a' := ?_) (bz 19 2687) rfl rfl (take_ofW HT_.out HW_.out ze) (fun _ _ _ h => h) (Or.inl ⟨zae, ?_⟩) hHeld ?_ ?_; rotate_left; (rintro w' ⟨s0, s1, s2, s3, s4, s5, s6, s7⟩; go_simp; with_reducible rfl); rotate_left; (simp only [Act.put, qa, qb, qc, i64_w, i32_w]; rfl)
           refine take_ (i := 10) (N := some 45) (v := ?_) (a' := ?_) (bz 19 3711) rfl rfl (take_ofW HT_.out HW_.out ze) (fun _ _ _ h => h) (Or.inl ⟨zae, ?_⟩) hHeld ?_ ?_; rotate_left; (rintro w' ⟨s0, s1, s2, s3, s4, s5, s6, s7⟩; go_simp; with_reducible rfl); rotate_left; (simp only [Act.put, qa, qb, qc, i64_w, i32_w]; rfl)
           refine pure_ (i := 12) (N := some 47) (v := ?_) (a' := ?_) (bz 19 7807) rfl rfl (any_of HT_.out ze) (fun _ _ _ h => h) (Or.inl ⟨zae, ?_⟩) ?_ ?_; rotate_left; (intro w'; go_simp; with_reducible rfl); rotate_left; (simp only [Act.put, qa, qb, qc, i64_w, i32_w]; rfl)
           refine pure_ (i := 13) (N := some 48) (v := ?_) (a' := ?_) (bz 19 15999) rfl rfl (any_of HT_.out ze) (fun _ _ _ h => h) (Or.inl ⟨zae, ?_⟩) ?_ ?_; rotate_left; (intro w'; go_simp; with_reducible rfl); rotate_left; (simp only [Act.put, qa, qb, qc, i64_w, i32_w]; rfl)
           refine take_ (i := 14) (N := some 49) (v := ?_) (a' := ?_) (bz 19 32383) rfl rfl (take_ofW HT_.out HW_.out ze) (fun _ _ _ h => h) (Or.inl ⟨zae, ?_⟩) hHeld ?_ ?_; rotate_left; (rintro w' ⟨s0, s1, s2, s3, s4, s5, s6, s7⟩; go_simp; with_reducible rfl); rotate_left; (simp only [Act.put, qa, qb, qc, i64_w, i32_w]; rfl)
           refine pure_ (i := 15) (N := some 50) (v := ?_) (a' := ?_) (bz 19 65151) rfl rfl (any_of HT_.out ze) (fun _ _ _ h => h) (Or.inl ⟨zae, ?_⟩) ?_ ?_; rotate_left; (intro w'; go_simp; with_reducible rfl); rotate_left; (simp only [Act.put, qa, qb, qc, i64_w, i32_w]; rfl)
           refine one_ (i := 7) (N := some 42) (bz 19 65279) rfl rfl (one_of HT_.out ze) za7 (fun K hK => ?_)
           refine goes_ Try.func47 ze rfl #[.int .i64 ((rd_T60 l0_3 x5_1).f0)] zae rfl rfl zcm ?_
           with_reducible refine (spec_l01Var.calls k1 ((rd_T60 l0_3 x5_1).f0) t149 _ A21.out).mono ?_
           rintro e w27 ⟨rfl, hb⟩
           refine ⟨_, rfl, ?_⟩
           have n0_ := qo (qr (g := gb142) (o := .cells #[.int .i64 a0_0, .int .i64 a0_1, .int .i64 a0_2, .slice (some ad148) l0_3.length c0_3] 24 (0, 0)) z8 hb)
           have n1_ := qo (qq zl hb)
           clear BK142
           clear HB
           have BK142 := n0_
           have HB := n1_
           clear n0_ n1_
           (try clear hb)
           (try clear hb2)
           (try clear hk)
           (try clear hi)
           refine hK.out _ _ ⟨(qs BK142.out 0).trans rfl, (qs BK142.out 1).trans rfl, (qs BK142.out 2).trans rfl, (qs BK142.out 3).trans rfl, ((HB.out.cell (World.block_lt_of_cell? w _ hw148_0)).trans hw148_0), ((HB.out.cell (World.block_lt_of_cell? w _ hw148_1)).trans hw148_1), ((HB.out.cell (World.block_lt_of_cell? w _ hw150_0)).trans hw150_0), ((HB.out.cell (World.block_lt_of_cell? w _ hw150_1)).trans hw150_1)⟩ (fun hHeld => ?_)
           clear hK K
           refine norm_ (a' := ?_) ?_ ?_; rotate_left; (show Act.put _ (some 42) _ = _; simp only [Act.put, qa, qb, qc, i64_w, i32_w]; rfl)
           refine pure_ (i := 8) (N := some 43) (v := ?_) (a' := ?_) (bz 19 65535) rfl rfl (any_of HT_.out ze) (fun _ _ _ h => h) (Or.inl ⟨zae, ?_⟩) ?_ ?_; rotate_left; (intro w'; go_simp; with_reducible rfl); rotate_left; (simp only [Act.put, qa, qb, qc, i64_w, i32_w]; rfl)
           refine one_ (i := 16) (N := some 51) (bz 19 131071) rfl rfl (one_of HT_.out ze) za7 (fun K hK => ?_)
           refine goes_ Try.func47 ze rfl #[.int .i64 (((rd_T60 l0_3 x5_1).f1).length : Int)] zae rfl rfl zcm ?_
           with_reducible refine (spec_l01Var.calls k1 (((rd_T60 l0_3 x5_1).f1).length : Int) t151 _ A23.out).mono ?_
           rintro e w28 ⟨rfl, hb⟩
           refine ⟨_, rfl, ?_⟩
           have n0_ := qo (qr (g := gb142) (o := .cells #[.int .i64 a0_0, .int .i64 a0_1, .int .i64 a0_2, .slice (some ad148) l0_3.length c0_3] 24 (0, 0)) z8 hb)
           have n1_ := qo (qq zl hb)
           clear BK142
           clear HB
           have BK142 := n0_
           have HB := n1_
           clear n0_ n1_
           (try clear hb)
           (try clear hb2)
           (try clear hk)
           (try clear hi)
           refine hK.out _ _ ⟨(qs BK142.out 0).trans rfl, (qs BK142.out 1).trans rfl, (qs BK142.out 2).trans rfl, (qs BK142.out 3).trans rfl, ((HB.out.cell (World.block_lt_of_cell? w _ hw148_0)).trans hw148_0), ((HB.out.cell (World.block_lt_of_cell? w _ hw148_1)).trans hw148_1), ((HB.out.cell (World.block_lt_of_cell? w _ hw150_0)).trans hw150_0), ((HB.out.cell (World.block_lt_of_cell? w _ hw150_1)).trans hw150_1)⟩ (fun hHeld => ?_)
           clear hK K
           refine norm_ (a' := ?_) ?_ ?_; rotate_left; (show Act.put _ (some 51) _ = _; simp only [Act.put, qa, qb, qc, i64_w, i32_w]; rfl)
           refine pure_ (i := 17) (N := some 52) (v := ?_) (a' := ?_) (bz 19 262143) rfl rfl (any_of HT_.out ze) (fun _ _ _ h => h) (Or.inl ⟨zae, ?_⟩) ?_ ?_; rotate_left; (intro w'; go_simp; with_reducible rfl); rotate_left; (simp only [Act.put, qa, qb, qc, i64_w, i32_w]; rfl)
           refine pure_ (i := 18) (N := some 4) (v := ?_) (a' := ?_) (bz 19 524287) rfl rfl (any_of HT_.out ze) (fun _ _ _ h => h) (Or.inl ⟨zae, ?_⟩) ?_ ?_; rotate_left; (intro w'; go_simp; with_reducible rfl); rotate_left; (simp only [Act.put, qa, qb, qc, i64_w, i32_w]; rfl)
           refine done_ (done_of HT_.out ze) ?_
           try go_wp2
           go_loopg [4, 6] k1 (fun kq v4 v6 w' => ∃ (x4_2 : ByteArray) (x6_2 : Int), v4 = .string x4_2 ∧ v6 = .int .i64 x6_2 ∧ Aside0 (spec_MetaText.l1 kq x4_2 x5_1 x6_2 a0_0 a0_1 a0_2 l0_3 = some (r1, r2)) ∧ Aside0 (kq ≤ k1) ∧ Aside0 (w'.heap[gb142]? = some (.cells #[.int .i64 a0_0, .int .i64 a0_1, .int .i64 a0_2, (.slice (some ad148) l0_3.length c0_3)] 24 (0, 0))) ∧ Aside0 (Below w.heap.size w w'))
           case atStart => exact ⟨((x4_1 ++ t149) ++ t151), (0), zc, zc, H', ⟨Nat.le_refl _⟩, ⟨z8⟩, ⟨zl⟩⟩
           case round =>
            clear H'
            (try clear c1); (try clear p1); (try clear q1); (try clear hx1); (try clear c2); (try clear p2); (try clear c3); (try clear c4); (try clear c6); (try clear c6b0); (try clear c6b1); (try clear c6b2); (try clear c8); (try clear c8b0); (try clear c8b1); (try clear c8b2); (try clear c10); (try clear c10b0); (try clear c10b1); (try clear c10b2); (try clear c14); (try clear p14); (try clear q14); (try clear hx14); (try clear c15); (try clear p15); (try clear q15); (try clear hx15); (try clear c19); (try clear c19b0); (try clear c20); (try clear c20b0); (try clear c22); (try clear c22b0); (try clear c22b1); (try clear c22b2); (try clear c24); (try clear c24b0); (try clear c24b1); (try clear c24b2); (try clear hcz12_0); (try clear hcz12_1); (try clear hcz12_2); (try clear hcz12_3); (try clear hcz25_0); (try clear hcz25_1); (try clear hcz25_2); (try clear hcz25_3); (try clear hfz12_0); (try clear hfz12_1); (try clear hfz12_2); (try clear hfz12_3); (try clear hfz25_0); (try clear hfz25_1); (try clear hfz25_2); (try clear hfz25_3); (try clear hx148_0); (try clear hx148_1); (try clear hx150_0); (try clear hx150_1); (try clear p148); (try clear p150); (try clear p2); (try clear q148); (try clear q150)
            obtain ⟨x4_2, x6_2, rfl, rfl, HA, HK2, BK142, HB⟩ := hrel
            cases gk with
            | zero => exact absurd HA.out (by simp [spec_MetaText.l1])
            | succ k2 =>
             have H := HA.out
             clear HA
             simp only [spec_MetaText.l1] at H
             by_cases c29 : 0 ≤ x5_1
             ·rw [if_pos c29] at H
              have c29b0 : decide (0 ≤ x5_1) = true := decide_eq_true c29
              clear c29
              by_cases c30 : x5_1 < (l0_3.length : Int)
              ·rw [if_pos c30] at H
               have c30b0 : decide (x5_1 < (l0_3.length : Int)) = true := decide_eq_true c30
               clear c30
               by_cases c31 : x6_2 < (((rd_T60 l0_3 x5_1).f1).length : Int)
               ·rw [if_pos c31] at H
                have c31b0 : decide (x6_2 < (((rd_T60 l0_3 x5_1).f1).length : Int)) = true := decide_eq_true c31
                clear c31
                by_cases c32 : 0 ≤ x6_2
                ·rw [if_pos c32] at H
                 have c32b0 : decide (0 ≤ x6_2) = true := decide_eq_true c32
                 clear c32
                 replace H := Option.bind_eq_some_iff.mp H
                 obtain ⟨t155, A330, H⟩ := H
                 replace H : (if x4_2.size + t155.size ≤ 9223372036854775807 then (spec_MetaText.l1 k2 (x4_2 ++ t155) x5_1 (wrap64 (x6_2 + 1)) a0_0 a0_1 a0_2 l0_3) else (none)) = some (r1, r2) := H
                 have A33 := qo A330
                 clear A330
                 by_cases c34 : x4_2.size + t155.size ≤ 9223372036854775807
                 ·rw [if_pos c34] at H
                  have c34b0 := eq_true c34
                  have c34b1 : decide (x4_2.size + t155.size ≤ 9223372036854775807) = true := decide_eq_true c34
                  try have c34b2 : (9223372036854775807 < x4_2.size + t155.size) = False := eq_false (Nat.not_lt.2 c34)
                  have H' := qo H
                  clear H
                  have hcz35_0 : wr.cell? ⟨gb142, 0, none⟩ = some (.int .i64 a0_0) := (qs BK142.out 0).trans rfl
                  have hcz35_1 : wr.cell? ⟨gb142, 1, none⟩ = some (.int .i64 a0_1) := (qs BK142.out 1).trans rfl
                  have hcz35_2 : wr.cell? ⟨gb142, 2, none⟩ = some (.int .i64 a0_2) := (qs BK142.out 2).trans rfl
                  have hcz35_3 : wr.cell? ⟨gb142, 3, none⟩ = some (.slice (some ad148) l0_3.length c0_3) := (qs BK142.out 3).trans rfl
                  have hfz35_0 := qu BK142.out 0
                  have hfz35_1 := qu BK142.out 1
                  have hfz35_2 := qu BK142.out 2
                  have hfz35_3 := qu BK142.out 3
                  have p152 : 0 ≤ (x5_1 : Int) := of_decide_eq_true zb
                  have q152 : x5_1 < (l0_3.length : Int) := of_decide_eq_true zb
                  obtain ⟨ad152, A152_1, c152_1, e152, hx152_0, hx152_1, hl152_1, hi152_1⟩ := at_T60 HR0_3.out x5_1 p152 q152
                  obtain rfl : ad148 = ad152 := (by injection e152)
                  replace hx152_0 := (HB.out.cell (World.block_lt_of_cell? w _ hx152_0)).trans hx152_0
                  replace hx152_1 := (HB.out.cell (World.block_lt_of_cell? w _ hx152_1)).trans hx152_1
                  have HR152_1 := qo hi152_1
                  have HC152_1 := qo hl152_1
                  clear hi152_1 hl152_1
                  replace p152 := eq_true p152
                  replace q152 := eq_true q152
                  have p153 : 0 ≤ (x5_1 : Int) := of_decide_eq_true zb
                  have q153 : x5_1 < (l0_3.length : Int) := of_decide_eq_true zb
                  obtain ⟨ad153, A153_1, c153_1, e153, hx153_0, hx153_1, hl153_1, hi153_1⟩ := at_T60 HR0_3.out x5_1 p153 q153
                  obtain rfl : ad148 = ad153 := (by injection e153)
                  replace hx153_0 := (HB.out.cell (World.block_lt_of_cell? w _ hx153_0)).trans hx153_0
                  replace hx153_1 := (HB.out.cell (World.block_lt_of_cell? w _ hx153_1)).trans hx153_1
                  have HR153_1 := qo hi153_1
                  have HC153_1 := qo hl153_1
                  clear hi153_1 hl153_1
                  replace p153 := eq_true p153
                  replace q153 := eq_true q153
                  have ea_ := Option.some.inj (hx152_1.symm.trans hx153_1)
                  injection ea_ with ea_ en_ ec_
                  subst ea_
                  subst ec_
                  clear en_
                  have p154 : 0 ≤ (x6_2 : Int) := of_decide_eq_true zb
                  have q154 : x6_2 < (((rd_T60 l0_3 x5_1).f1).length : Int) := of_decide_eq_true zb
                  obtain ⟨ad154, e154, hx154_0⟩ := Kd.at_int HR153_1.out x6_2 p154 q154
                  cases e154
                  replace hx154_0 := (HB.out.cell (World.block_lt_of_cell? w _ hx154_0)).trans hx154_0
                  replace p154 := eq_true p154
                  replace q154 := eq_true q154
                  go_wp2_with (first | ((with_reducible refine gate_callee (f := 47) rfl ?_); refine goesL_ (some 74) rfl rfl Try.func47 ze rfl #[.int .i64 (rd ((rd_T60 l0_3 x5_1).f1) x6_2)] rfl zcm ?_; (with_reducible refine (spec_l01Var.calls k2 (rd ((rd_T60 l0_3 x5_1).f1) x6_2) t155 _ A33.out).mono ?_); rintro e w36 ⟨rfl, hb⟩; refine ⟨_, rfl, ?_⟩; have n0_ := qo (qr (g := gb142) (o := .cells #[.int .i64 a0_0, .int .i64 a0_1, .int .i64 a0_2, .slice (some ad148) l0_3.length c0_3] 24 (0, 0)) z8 hb); have n1_ := qo (qq zl hb); clear BK142; clear HB; have BK142 := n0_; have HB := n1_; clear n0_ n1_; (try clear hb); (try clear hb2); (try clear hk); (try clear hi)))
                  go_roundg k2
                  case measure => have := HK1.out; have := HK2.out; omega
                  case rel => exact ⟨(x4_2 ++ t155), (wrap64 (x6_2 + 1)), zc, zc, H', ⟨zb6⟩, ⟨z8⟩, ⟨zl⟩⟩
                 ·rw [if_neg c34] at H
                  exact absurd H zbh
                ·rw [if_neg c32] at H
                 exact absurd H zbh
               ·rw [if_neg c31] at H
                have c31b0 : decide (x6_2 < (((rd_T60 l0_3 x5_1).f1).length : Int)) = false := decide_eq_false c31
                clear c31
                have H' := qo H
                clear H
                have hcz37_0 : wr.cell? ⟨gb142, 0, none⟩ = some (.int .i64 a0_0) := (qs BK142.out 0).trans rfl
                have hcz37_1 : wr.cell? ⟨gb142, 1, none⟩ = some (.int .i64 a0_1) := (qs BK142.out 1).trans rfl
                have hcz37_2 : wr.cell? ⟨gb142, 2, none⟩ = some (.int .i64 a0_2) := (qs BK142.out 2).trans rfl
                have hcz37_3 : wr.cell? ⟨gb142, 3, none⟩ = some (.slice (some ad148) l0_3.length c0_3) := (qs BK142.out 3).trans rfl
                have hfz37_0 := qu BK142.out 0
                have hfz37_1 := qu BK142.out 1
                have hfz37_2 := qu BK142.out 2
                have hfz37_3 := qu BK142.out 3
                have p152 : 0 ≤ (x5_1 : Int) := of_decide_eq_true zb
                have q152 : x5_1 < (l0_3.length : Int) := of_decide_eq_true zb
                obtain ⟨ad152, A152_1, c152_1, e152, hx152_0, hx152_1, hl152_1, hi152_1⟩ := at_T60 HR0_3.out x5_1 p152 q152
                obtain rfl : ad148 = ad152 := (by injection e152)
                replace hx152_0 := (HB.out.cell (World.block_lt_of_cell? w _ hx152_0)).trans hx152_0
                replace hx152_1 := (HB.out.cell (World.block_lt_of_cell? w _ hx152_1)).trans hx152_1
                have HR152_1 := qo hi152_1
                have HC152_1 := qo hl152_1
                clear hi152_1 hl152_1
                replace p152 := eq_true p152
                replace q152 := eq_true q152
                go_wp2
                go_roundg k2
                case measure => have := HK1.out; have := HK2.out; omega
                case rel => exact ⟨(x4_2), (wrap64 (x5_1 + 1)), zc, zc, H', ⟨zb6⟩, ⟨z8⟩, ⟨zl⟩⟩
              ·rw [if_neg c30] at H
               exact absurd H zbh
             ·rw [if_neg c29] at H
              exact absurd H zbh
          ·rw [if_neg c24] at H
           exact absurd H zbh
         ·rw [if_neg c22] at H
          exact absurd H zbh
        ·rw [if_neg c20] at H
         exact absurd H zbh
       ·rw [if_neg c19] at H
        have c19b0 : decide (x5_1 < (l0_3.length : Int)) = false := decide_eq_false c19
        clear c19
        replace H := Option.bind_eq_some_iff.mp H
        obtain ⟨⟨t156, t157⟩, A380, H⟩ := H
        replace H : (if t157 = true then (if (t156.size : Int) > 240 then (some ((⟨#[]⟩ : ByteArray), false)) else (some (t156, true))) else (some ((⟨#[]⟩ : ByteArray), false))) = some (r1, r2) := H
        have A38 := qo A380
        clear A380
        by_cases c39 : t157 = true
        ·subst c39
         have H1 : (if (t156.size : Int) > 240 then (some ((⟨#[]⟩ : ByteArray), false)) else (some (t156, true))) = some (r1, r2) := by rw [if_pos rfl] at H; exact H
         clear H
         have H := H1
         clear H1
         by_cases c40 : (t156.size : Int) > 240
         ·rw [if_pos c40] at H
          have c40b0 : decide (240 < (t156.size : Int)) = true := decide_eq_true c40
          have c40b1 : decide (240 < t156.size) = true := decide_eq_true zck
          clear c40
          simp only [Option.some.injEq, Prod.mk.injEq] at H
          obtain ⟨rfl, rfl⟩ := H
          have hcz41_0 : wr.cell? ⟨gb142, 0, none⟩ = some (.int .i64 a0_0) := (qs BK142.out 0).trans rfl
          have hcz41_1 : wr.cell? ⟨gb142, 1, none⟩ = some (.int .i64 a0_1) := (qs BK142.out 1).trans rfl
          have hcz41_2 : wr.cell? ⟨gb142, 2, none⟩ = some (.int .i64 a0_2) := (qs BK142.out 2).trans rfl
          have hcz41_3 : wr.cell? ⟨gb142, 3, none⟩ = some (.slice A0_3 l0_3.length c0_3) := (qs BK142.out 3).trans rfl
          have hfz41_0 := qu BK142.out 0
          have hfz41_1 := qu BK142.out 1
          have hfz41_2 := qu BK142.out 2
          have hfz41_3 := qu BK142.out 3
          go_wp2_with (first | ((with_reducible refine gate_callee (f := 48) rfl ?_); refine goesL_ (some 78) rfl rfl Try.func48 ze rfl #[.string x4_1] rfl zcm ?_; (with_reducible refine (spec_Sealed.calls k1 x4_1 t156 true _ A38.out).mono ?_); rintro e w42 ⟨rfl, hb⟩; refine ⟨_, rfl, ?_⟩; have n0_ := qo (qr (g := gb142) (o := .cells #[.int .i64 a0_0, .int .i64 a0_1, .int .i64 a0_2, .slice A0_3 l0_3.length c0_3] 24 (0, 0)) z8 hb); have n1_ := qo (qq zl hb); clear BK142; clear HB; have BK142 := n0_; have HB := n1_; clear n0_ n1_; (try clear hb); (try clear hb2); (try clear hk); (try clear hi)))
          go_ret2
          exact ⟨zd, zl⟩
         ·rw [if_neg c40] at H
          have c40b0 : decide (240 < (t156.size : Int)) = false := decide_eq_false c40
          have c40b1 : decide (240 < t156.size) = false := decide_eq_false zck
          clear c40
          simp only [Option.some.injEq, Prod.mk.injEq] at H
          obtain ⟨rfl, rfl⟩ := H
          have hcz43_0 : wr.cell? ⟨gb142, 0, none⟩ = some (.int .i64 a0_0) := (qs BK142.out 0).trans rfl
          have hcz43_1 : wr.cell? ⟨gb142, 1, none⟩ = some (.int .i64 a0_1) := (qs BK142.out 1).trans rfl
          have hcz43_2 : wr.cell? ⟨gb142, 2, none⟩ = some (.int .i64 a0_2) := (qs BK142.out 2).trans rfl
          have hcz43_3 : wr.cell? ⟨gb142, 3, none⟩ = some (.slice A0_3 l0_3.length c0_3) := (qs BK142.out 3).trans rfl
          have hfz43_0 := qu BK142.out 0
          have hfz43_1 := qu BK142.out 1
          have hfz43_2 := qu BK142.out 2
          have hfz43_3 := qu BK142.out 3
          go_wp2_with (first | ((with_reducible refine gate_callee (f := 48) rfl ?_); refine goesL_ (some 78) rfl rfl Try.func48 ze rfl #[.string x4_1] rfl zcm ?_; (with_reducible refine (spec_Sealed.calls k1 x4_1 t156 true _ A38.out).mono ?_); rintro e w44 ⟨rfl, hb⟩; refine ⟨_, rfl, ?_⟩; have n0_ := qo (qr (g := gb142) (o := .cells #[.int .i64 a0_0, .int .i64 a0_1, .int .i64 a0_2, .slice A0_3 l0_3.length c0_3] 24 (0, 0)) z8 hb); have n1_ := qo (qq zl hb); clear BK142; clear HB; have BK142 := n0_; have HB := n1_; clear n0_ n1_; (try clear hb); (try clear hb2); (try clear hk); (try clear hi)))
          go_ret2
          exact ⟨zd, zl⟩
        ·replace c39 := Bool.eq_false_iff.mpr c39
         subst c39
         have H1 : (some ((⟨#[]⟩ : ByteArray), false)) = some (r1, r2) := by rw [if_neg (show ¬ (false = true) by decide)] at H; exact H
         clear H
         have H := H1
         clear H1
         simp only [Option.some.injEq, Prod.mk.injEq] at H
         obtain ⟨rfl, rfl⟩ := H
         have hcz45_0 : wr.cell? ⟨gb142, 0, none⟩ = some (.int .i64 a0_0) := (qs BK142.out 0).trans rfl
         have hcz45_1 : wr.cell? ⟨gb142, 1, none⟩ = some (.int .i64 a0_1) := (qs BK142.out 1).trans rfl
         have hcz45_2 : wr.cell? ⟨gb142, 2, none⟩ = some (.int .i64 a0_2) := (qs BK142.out 2).trans rfl
         have hcz45_3 : wr.cell? ⟨gb142, 3, none⟩ = some (.slice A0_3 l0_3.length c0_3) := (qs BK142.out 3).trans rfl
         have hfz45_0 := qu BK142.out 0
         have hfz45_1 := qu BK142.out 1
         have hfz45_2 := qu BK142.out 2
         have hfz45_3 := qu BK142.out 3
         go_wp2_with (first | ((with_reducible refine gate_callee (f := 48) rfl ?_); refine goesL_ (some 78) rfl rfl Try.func48 ze rfl #[.string x4_1] rfl zcm ?_; (with_reducible refine (spec_Sealed.calls k1 x4_1 t156 false _ A38.out).mono ?_); rintro e w46 ⟨rfl, hb⟩; refine ⟨_, rfl, ?_⟩; have n0_ := qo (qr (g := gb142) (o := .cells #[.int .i64 a0_0, .int .i64 a0_1, .int .i64 a0_2, .slice A0_3 l0_3.length c0_3] 24 (0, 0)) z8 hb); have n1_ := qo (qq zl hb); clear BK142; clear HB; have BK142 := n0_; have HB := n1_; clear n0_ n1_; (try clear hb); (try clear hb2); (try clear hk); (try clear hi)))
         go_ret2
         exact ⟨zd, zl⟩
    ·rw [if_neg c10] at H
     exact absurd H zbh
   ·rw [if_neg c8] at H
    exact absurd H zbh
  ·rw [if_neg c6] at H
   exact absurd H zbh
 ·replace c3 := Bool.eq_false_iff.mpr c3
  subst c3
  have H1 : (some ((⟨#[]⟩ : ByteArray), false)) = some (r1, r2) := by rw [if_neg (show ¬ (false = true) by decide)] at H; exact H
  clear H
  have H := H1
  clear H1
  simp only [Option.some.injEq, Prod.mk.injEq] at H
  obtain ⟨rfl, rfl⟩ := H
  go_enter Try.func20, Try.ntmps20
  go_wp2_with (first | ((with_reducible refine gate_dst (N := 1) rfl ?_); (try (refine gate_guard zae ?_; dsimp only)); refine box_event ?hg (N := 1) ?hd (cs := #[.int .i64 a0_0, .int .i64 a0_1, .int .i64 a0_2, .slice A0_3 l0_3.length c0_3]) (t := 24) ?hr ?_; (case hd => rfl); (case hg => rfl); (case hr => first | (go_simp; done) | (go_simp; rfl)); intro gb142 hg w47 hbox hb; have n0_ := qo (qq za hb); have n1_ := qo (hbox); have n2_ := qo ((zcn : w.heap.size ≤ gb142)); have n3_ := qo ((zcn : w.heap.size ≤ gb142)); clear HB; have HB := n0_; have BK142 := n1_; have GW142 := n2_; have GE142 := n3_; clear n0_ n1_ n2_ n3_; clear hb hbox hg; have hcz48_0 : w47.cell? ⟨gb142, 0, none⟩ = some (.int .i64 a0_0) := (qs BK142.out 0).trans rfl; have hcz48_1 : w47.cell? ⟨gb142, 1, none⟩ = some (.int .i64 a0_1) := (qs BK142.out 1).trans rfl; have hcz48_2 : w47.cell? ⟨gb142, 2, none⟩ = some (.int .i64 a0_2) := (qs BK142.out 2).trans rfl; have hcz48_3 : w47.cell? ⟨gb142, 3, none⟩ = some (.slice A0_3 l0_3.length c0_3) := (qs BK142.out 3).trans rfl; have hfz48_0 := qu BK142.out 0; have hfz48_1 := qu BK142.out 1; have hfz48_2 := qu BK142.out 2; have hfz48_3 := qu BK142.out 3) | ((with_reducible refine gate_callee (f := 46) rfl ?_); refine goesL_ (some 10) rfl rfl Try.func46 ze rfl #[.agg #[.int .i64 a0_0, .int .i64 a0_1, .int .i64 a0_2, .slice A0_3 l0_3.length c0_3]] rfl zcm ?_; (with_reducible refine (spec_MetaOk.calls k a0_0 a0_1 a0_2 _ _ l0_3 false _ ?side1 ?side2 A2.out).mono ?_); (case side1 => repeat (first | exact (Kd.C_below HR0_3.out HB.out) | (with_reducible refine Kd.C_alloc ?_ _) | (with_reducible refine Kd.C_drewN ?_ _) | (with_reducible refine Kd.C_drew ?_))); (case side2 => exact HC0_3.out); rintro e w49 ⟨rfl, hb⟩; refine ⟨_, rfl, ?_⟩; have n0_ := qo (qr (g := gb142) (o := .cells #[.int .i64 a0_0, .int .i64 a0_1, .int .i64 a0_2, .slice A0_3 l0_3.length c0_3] 24 (0, 0)) z8 hb); have n1_ := qo (qq zl hb); clear BK142; clear HB; have BK142 := n0_; have HB := n1_; clear n0_ n1_; (try clear hb); (try clear hb2); (try clear hk); (try clear hi)))
  go_ret2
  exact ⟨zd, zl⟩

end Go.Proofs.Yteokilffbcbllaa.VFnExactBestMeta
