-- Written by a program of this repo (wip/myprint.py), over the kit's print; functions that the print does not take stand in it by hand-proved contracts.
import Derived.Test.YtbjlpmhhcigkdaaVFnFallsx0
import Derived.Test.YtbjlpmhhcigkdaaVFnFallsx2
import Derived.Test.YtbjlpmhhcigkdaaVFnFallsx4
namespace Go.Proofs.Ytbjlpmhhcigkdaa.VFnFalls
open Go.RowKit Go.Proofs.YtbjlpmhhcigkdaaW.PrintWords Go.Proofs.YtbjlpmhhcigkdaaW.PrintLast Go.Proofs.YtbjlpmhhcigkdaaW.PrintMore
attribute [local go_sem] max2_int min2_int max_two min_two max_three min_three max_four min_four   -- for this text's walks alone
attribute [local go_sem high] str_leq str_gtr str_geq str_lss
set_option linter.unusedVariables false
set_option linter.unusedSimpArgs false

/-! ### spec_l01Text: function 120 -/
mutual
def spec_l01Text.j0 : Nat → Int → List Int → Int → Int → Option (ByteArray × Int × Int)
 | 0, _, _, _, _ => none
 | k + 1, x1, x1000, x1001, x1002 => spec_l01Text.l0 k x1 (([] : List Int)) 0 x1000 x1001 x1002
def spec_l01Text.l0 : Nat → Int → List Int → Int → List Int → Int → Int → Option (ByteArray × Int × Int)
 | 0, _, _, _, _, _, _ => none
 | k + 1, x1, x5, x6, x1000, x1001, x1002 => if x6 < x1 then ((spec_l01Byte.f x1000 x1001 x1002).bind fun bt176 => (if x5.length < 140737488355328 then (spec_l01Text.l0 k x1 (x5 ++ [(bt176.1) % 256]) (wrap64 (x6 + 1)) x1000 bt176.2.1 bt176.2.2) else (none))) else (some (strOfNums x5, x1001, x1002))
end
def spec_l01Text.f (k : Nat) (s0_0 : List Int) (s0_1 : Int) (s0_2 : Int) (a1 : Int) : Option (ByteArray × Int × Int) := if a1 > 5000 then (spec_l01Text.j0 k 5000 s0_0 s0_1 s0_2) else (spec_l01Text.j0 k a1 s0_0 s0_1 s0_2)
theorem spec_l01Text.mono_l : ∀ k, (∀ y0 y1 y2 y3, LeO (spec_l01Text.j0 k y0 y1 y2 y3) (spec_l01Text.j0 (k + 1) y0 y1 y2 y3)) ∧ (∀ y0 y1 y2 y3 y4 y5, LeO (spec_l01Text.l0 k y0 y1 y2 y3 y4 y5) (spec_l01Text.l0 (k + 1) y0 y1 y2 y3 y4 y5))
 | 0 => ⟨fun _ _ _ _ r h => by simp [spec_l01Text.j0] at h, fun _ _ _ _ _ _ r h => by simp [spec_l01Text.l0] at h⟩
 | k + 1 => by
  obtain ⟨ih0, ih1⟩ := spec_l01Text.mono_l k
  refine ⟨?_, ?_⟩
  ·intro y0 y1 y2 y3
   unfold spec_l01Text.j0
   repeat' first
   | (with_reducible exact ih0 _ _ _ _)
   | (with_reducible exact ih1 _ _ _ _ _ _)
   | (with_reducible exact LeO.refl _)
   | (with_reducible exact LeO.none _)
   | (with_reducible refine LeO.ite ?_ ?_)
   | (with_reducible refine LeO.bind ?_ (fun _ => ?_))
   | exact ih0 _ _ _ _
   | exact ih1 _ _ _ _ _ _
   | exact LeO.none _
   | refine LeO.ite ?_ ?_
   | refine LeO.bind ?_ (fun _ => ?_)
  ·intro y0 y1 y2 y3 y4 y5
   unfold spec_l01Text.l0
   repeat' first
   | (with_reducible exact ih0 _ _ _ _)
   | (with_reducible exact ih1 _ _ _ _ _ _)
   | (with_reducible exact LeO.refl _)
   | (with_reducible exact LeO.none _)
   | (with_reducible refine LeO.ite ?_ ?_)
   | (with_reducible refine LeO.bind ?_ (fun _ => ?_))
   | exact ih0 _ _ _ _
   | exact ih1 _ _ _ _ _ _
   | exact LeO.none _
   | refine LeO.ite ?_ ?_
   | refine LeO.bind ?_ (fun _ => ?_)
theorem spec_l01Text.mono : ∀ a0 a1 a2 a3 k, LeO (spec_l01Text.f k a0 a1 a2 a3) (spec_l01Text.f (k + 1) a0 a1 a2 a3) := by
 intro a0 a1 a2 a3 k
 obtain ⟨ih0, ih1⟩ := spec_l01Text.mono_l k
 unfold spec_l01Text.f
 repeat' first
   | (with_reducible exact ih0 _ _ _ _)
   | (with_reducible exact ih1 _ _ _ _ _ _)
   | (with_reducible exact LeO.refl _)
   | (with_reducible exact LeO.none _)
   | (with_reducible refine LeO.ite ?_ ?_)
   | (with_reducible refine LeO.bind ?_ (fun _ => ?_))
   | exact ih0 _ _ _ _
   | exact ih1 _ _ _ _ _ _
   | exact LeO.none _
   | refine LeO.ite ?_ ?_
   | refine LeO.bind ?_ (fun _ => ?_)
set_option maxHeartbeats 8000000 in
set_option maxRecDepth 100000 in
theorem spec_l01Text.calls (k : Nat) (g : Nat) (s0_0 : List Int) (s0_1 : Int) (s0_2 : Int) (a1 : Int) (r1 : ByteArray) (r2 : Int) (r3 : Int) (w0 w : World) (hI : IsS146 w0 w g s0_0 s0_1 s0_2) (hB : Below w0.heap.size w0 w) (h : spec_l01Text.f k s0_0 s0_1 s0_2 a1 = some (r1, r2, r3)) :
  Calls Try.prog 120 #[.pointer (some ⟨g, 0, none⟩), .int .i64 a1] w fun e w' => e = .returned (.string r1) ∧ IsS146 w0 w' g s0_0 r2 r3 ∧ Below w0.heap.size w0 w' ∧ KeepBut w w' g none := by
 have HI0 := zj hI
 have HK := zj (KeepBut.refl w g none)
 have HL := zj hB.size
 clear hI
 have HW0 := zj hB.size
 have HB := zj hB
 clear hB
 have H : (if a1 > 5000 then (spec_l01Text.j0 k 5000 s0_0 s0_1 s0_2) else (spec_l01Text.j0 k a1 s0_0 s0_1 s0_2)) = some (r1, r2, r3) := h
 clear h
 have HC3 := zj H
 clear H
 go_enter Try.func120, Try.ntmps120
 go_upto_if 8 with (fail)
 go_cut [1] (fun v1 wc => ∃ (kq : Nat) (x1_2 : Int), v1 = .int .i64 x1_2 ∧ Aside0 (spec_l01Text.j0 kq x1_2 s0_0 s0_1 s0_2 = some (r1, r2, r3)) ∧ Aside0 (kq ≤ k) ∧ Aside0 (IsS146 w0 wc g s0_0 s0_1 s0_2) ∧ Aside0 (KeepBut w wc g none) ∧ Aside0 (Below w0.heap.size w0 wc))
 case first =>
  have H := HC3.out
  clear HC3
  by_cases c4 : a1 > 5000
  ·rw [if_pos c4] at H
   have c4b0 : decide (5000 < a1) = true := decide_eq_true c4
   clear c4
   (first | rw [c4b0] | (simp only [i64_w, i32_w]; rw [c4b0]) | skip)
   have H' := zj H
   clear H
   go_wp2
   go_meet
   case rel => exact ⟨_, (5000), (by first | rfl | (simp; done) | (simp [*]; done)), H', ⟨by first | omega | exact Nat.le_refl _⟩, ⟨by repeat (first | (with_reducible first | exact HI0.out | apply IsS146.alloc | apply IsS146.drewN | apply IsS146.drew | apply IsS146.set_1 | apply IsS146.set_2) | exact HI0.out)⟩, ⟨by repeat (first | (with_reducible first | exact HK.out | apply KeepBut.set_ | apply keep_drewN | apply keep_drew | apply keep_alloc) | exact HK.out)⟩, ⟨by repeat (first | (with_reducible first | exact HB.out | apply zg | apply zh | apply zi | refine zs ?_ (IsS146.ge HI0.out)) | exact HB.out)⟩⟩
  ·rw [if_neg c4] at H
   have c4b0 : decide (5000 < a1) = false := decide_eq_false c4
   clear c4
   (first | rw [c4b0] | (simp only [i64_w, i32_w]; rw [c4b0]) | skip)
   have H' := zj H
   clear H
   go_wp2
   go_meet
   case rel => exact ⟨_, (a1), (by first | rfl | (simp; done) | (simp [*]; done)), H', ⟨by first | omega | exact Nat.le_refl _⟩, ⟨by repeat (first | (with_reducible first | exact HI0.out | apply IsS146.alloc | apply IsS146.drewN | apply IsS146.drew | apply IsS146.set_1 | apply IsS146.set_2) | exact HI0.out)⟩, ⟨by repeat (first | (with_reducible first | exact HK.out | apply KeepBut.set_ | apply keep_drewN | apply keep_drew | apply keep_alloc) | exact HK.out)⟩, ⟨by repeat (first | (with_reducible first | exact HB.out | apply zg | apply zh | apply zi | refine zs ?_ (IsS146.ge HI0.out)) | exact HB.out)⟩⟩
 case rest =>
  clear HC3
  try clear c1
  try clear p2
  try clear c4
  try clear c4b0
  obtain ⟨kq, x1_2, rfl, HA, HJ2, HI0, HK, HB⟩ := hcut
  cases kq with
  | zero => exact absurd HA.out (by simp [spec_l01Text.j0])
  | succ kj2 =>
   have H := HA.out
   clear HA
   simp only [spec_l01Text.j0] at H
   obtain ⟨y173, hy173⟩ : ∃ y_ : List Int, y_ = (([] : List Int)) := ⟨_, rfl⟩
   replace H : (spec_l01Text.l0 kj2 x1_2 y173 0 s0_0 s0_1 s0_2) = some (r1, r2, r3) := by first | (rw [hy173]; with_reducible exact H) | (have H2_ := (Option.bind_some _ _).symm.trans H; rw [hy173]; with_reducible exact H2_) | (have H2_ := (Option.bind_some _ _).symm.trans H; with_reducible exact H2_) | with_reducible exact H | (rw [hy173]; exact H) | exact H
   have Ny173 := zj hy173
   clear hy173
   have H' := zj H
   clear H
   go_wp2_with (first | ((with_reducible refine gate_dst (N := 9) rfl ?_); refine Kd.R_lit (Kd.int .u8) _ 5 ?hg (N := 9) ?hd (xs := ([] : List Int)) (inner := []) (ok := fun _ => True) (okp := fun _ => True) ?hr ?hp (fun _ hk => hk) trivial (Below.refl _ _) (Nat.le_refl _) (by simp) ?_; (case hd => rfl); (case hg => rfl); (case hr => first | (go_simp; done) | (go_simp; rfl)); (case hp => exact (Reps.none _ _)); intro v174 w5 ho6 hb hg_ hnew_; clear hg_ hnew_; (first | rw [← Ny173.out] at ho6 | (simp only [Int.reduceToNat] at ho6; rw [← Ny173.out] at ho6)); have n0_ := zj (Kd.R_lower ho6 (keep_size (w := w) (g := g) (row := none) (by repeat (first | (with_reducible first | exact HK.out | apply KeepBut.set_ | apply keep_drewN | apply keep_drew | apply keep_alloc) | exact HK.out)))); have n1_ := zj (IsS146.below (by repeat (first | (with_reducible first | exact HI0.out | apply IsS146.alloc | apply IsS146.drewN | apply IsS146.drew | apply IsS146.set_1 | apply IsS146.set_2) | exact HI0.out)) hb); have n2_ := zj (KeepBut.trans (by repeat (first | (with_reducible first | exact HK.out | apply KeepBut.set_ | apply keep_drewN | apply keep_drew | apply keep_alloc) | exact HK.out)) (KeepBut.of_below hb g none) (.inl rfl)); have n3_ := zj (zl (by repeat (first | (with_reducible first | exact HB.out | apply zg | apply zh | apply zi | refine zs ?_ (IsS146.ge HI0.out)) | exact HB.out)) hb); clear HI0; clear HK; clear HB; have HO175 := n0_; have HI0 := n1_; have HK := n2_; have HB := n3_; clear n0_ n1_ n2_ n3_; clear hb ho6))
   go_loopg [5, 6] kj2 (fun kq v5 v6 w' => ∃ (x5_2 : List Int) (x6_2 : Int) (x1001_2 : Int) (x1002_2 : Int), v6 = .int .i64 x6_2 ∧ Aside0 (spec_l01Text.l0 kq x1_2 x5_2 x6_2 s0_0 x1001_2 x1002_2 = some (r1, r2, r3)) ∧ Aside0 (kq ≤ kj2) ∧ Aside0 (Kd.R (Kd.int .u8) 5 w' w.heap.size (fun _ => True) v5 x5_2) ∧ Aside0 (IsS146 w0 w' g s0_0 x1001_2 x1002_2) ∧ Aside0 (KeepBut w w' g none) ∧ Aside0 (Below w0.heap.size w0 w'))
   case atStart => exact ⟨(y173), (0), (s0_1), (s0_2), (by first | rfl | (simp; done) | (simp [*]; done)), H', ⟨Nat.le_refl _⟩, ⟨by (with_reducible repeat (first | apply zd | apply ze | apply zf)); exact HO175.out⟩, ⟨by repeat (first | (with_reducible first | exact HI0.out | apply IsS146.alloc | apply IsS146.drewN | apply IsS146.drew | apply IsS146.set_1 | apply IsS146.set_2) | exact HI0.out)⟩, ⟨by repeat (first | (with_reducible first | exact HK.out | apply KeepBut.set_ | apply keep_drewN | apply keep_drew | apply keep_alloc) | exact HK.out)⟩, ⟨by repeat (first | (with_reducible first | exact HB.out | apply zg | apply zh | apply zi | refine zs ?_ (IsS146.ge HI0.out)) | exact HB.out)⟩⟩
   case round =>
    clear H'
    try clear c1
    try clear p2
    try clear c4
    try clear c4b0
    try clear p2
    obtain ⟨x5_2, x6_2, x1001_2, x1002_2, rfl, HA, HK2, HO_5, HI0, HK, HB⟩ := hrel
    cases gk with
    | zero => exact absurd HA.out (by simp [spec_l01Text.l0])
    | succ k2 =>
     have H := HA.out
     clear HA
     simp only [spec_l01Text.l0] at H
     by_cases c7 : x6_2 < x1_2
     ·rw [if_pos c7] at H
      have c7b0 : decide (x6_2 < x1_2) = true := decide_eq_true c7
      clear c7
      replace H := Option.bind_eq_some_iff.mp H
      obtain ⟨⟨t176, t177, t178⟩, A80, H⟩ := H
      replace H : (if x5_2.length < 140737488355328 then (spec_l01Text.l0 k2 x1_2 (x5_2 ++ [(t176) % 256]) (wrap64 (x6_2 + 1)) s0_0 t177 t178) else (none)) = some (r1, r2, r3) := H
      have A8 := zj A80
      clear A80
      by_cases c9 : x5_2.length < 140737488355328
      ·rw [if_pos c9] at H
       have LMc9 := zj c9
       clear c9
       obtain ⟨y179, hy179⟩ : ∃ y_ : List Int, y_ = (x5_2 ++ [(t176) % 256]) := ⟨_, rfl⟩
       replace H : (spec_l01Text.l0 k2 x1_2 y179 (wrap64 (x6_2 + 1)) s0_0 t177 t178) = some (r1, r2, r3) := by first | (rw [hy179]; with_reducible exact H) | (have H2_ := (Option.bind_some _ _).symm.trans H; rw [hy179]; with_reducible exact H2_) | (have H2_ := (Option.bind_some _ _).symm.trans H; with_reducible exact H2_) | with_reducible exact H | (rw [hy179]; exact H) | exact H
       have Ny179 := zj hy179
       clear hy179
       have H' := zj H
       clear H
       go_wp2_with (first | ((with_reducible refine gate_callee (f := 73) rfl ?_); refine goesL_ (some 17) rfl rfl Try.func73 (by kernel_rfl) rfl #[.pointer (some ⟨g, 0, none⟩)] rfl (by (try simp only [List.map_toArray, List.map_cons, List.map_nil]); first | done | rfl | (simp only [List.length_drop, List.length_take]; rfl)) ?_; (with_reducible refine (spec_l01Byte.calls g s0_0 x1001_2 x1002_2 t176 t177 t178 w0 _ ?side1 ?side2 A8.out).mono ?_); (case side1 => repeat (first | (with_reducible first | exact HI0.out | apply IsS146.alloc | apply IsS146.drewN | apply IsS146.drew | apply IsS146.set_1 | apply IsS146.set_2) | exact HI0.out)); (case side2 => repeat (first | (with_reducible first | exact HB.out | apply zg | apply zh | apply zi | refine zs ?_ (IsS146.ge HI0.out)) | exact HB.out)); rintro e w10 ⟨rfl, hi, hb, hk⟩; refine ⟨_, rfl, ?_⟩; have n0_ := zj (zm (Kd.R_keep (IsS146.apart (show IsS146 w0 _ g s0_0 x1001_2 x1002_2 from by repeat (first | (with_reducible first | exact HI0.out | apply IsS146.alloc | apply IsS146.drewN | apply IsS146.drew | apply IsS146.set_1 | apply IsS146.set_2) | exact HI0.out)) (by (with_reducible repeat (first | apply zd | apply ze | apply zf)); exact HO_5.out) (by decide)) hk (fun _ h => h.2)) (fun _ h => h.1)); have n1_ := zj (KeepBut.trans (by repeat (first | (with_reducible first | exact HK.out | apply KeepBut.set_ | apply keep_drewN | apply keep_drew | apply keep_alloc) | exact HK.out)) hk (.inl rfl)); have n2_ := zj (hb); have n3_ := zj (hi); clear HO_5; clear HK; clear HB; clear HI0; have HO_5 := n0_; have HK := n1_; have HB := n2_; have HI0 := n3_; clear n0_ n1_ n2_ n3_; (try clear hb); (try clear hb2); (try clear hk); (try clear hi)) | ((with_reducible refine gate_builtin (b := .append) (xs := #[.tmp 15, .tmp 19]) rfl ?_); at_builtin; refine Kd.R_append (Kd.int .u8) w.heap.size rfl (.tmp 15) (.tmp 19) 32 5 (.int .u8 0) 1 rfl Try.underlying32 info5 rfl (by decide) (by omega) u5 x5_2 ((t176) % 256) [.int .u8 ((t176) % 256)] (fun _ => True) (fun _ => False) rfl rfl ?aP (fun _ hk => hk.elim) ?aF ?aO (Below.refl _ _) ?aS ?aL ?_; (case aP => exact rfl); (case aF => exact (fun _ _ => trivial)); (case aO => exact (by (with_reducible repeat (first | apply zd | apply ze | apply zf)); exact HO_5.out)); (case aS => exact (keep_size (w := w) (g := g) (row := none) (by repeat (first | (with_reducible first | exact HK.out | apply KeepBut.set_ | apply keep_drewN | apply keep_drew | apply keep_alloc) | exact HK.out)))); (case aL => have := LMc9.out; omega); intro v180 w11 ho hb hg hat; rw [← Ny179.out] at ho; have n0_ := zj (IsS146.grown (by repeat (first | (with_reducible first | exact HI0.out | apply IsS146.alloc | apply IsS146.drewN | apply IsS146.drew | apply IsS146.set_1 | apply IsS146.set_2) | exact HI0.out)) hg (IsS146.own_ne HI0.out HO_5.out (by decide))); have n1_ := zj (below_weaken (by repeat (first | (with_reducible first | exact HB.out | apply zg | apply zh | apply zi | refine zs ?_ (IsS146.ge HI0.out)) | exact HB.out)) HL.out hb); have n2_ := zj (KeepBut.trans (by repeat (first | (with_reducible first | exact HK.out | apply KeepBut.set_ | apply keep_drewN | apply keep_drew | apply keep_alloc) | exact HK.out)) (KeepBut.of_grown hg g) (Kd.R_base2 HO_5.out)); have n3_ := zj (ho); clear HI0; clear HB; clear HK; clear HO_5; have HI0 := n0_; have HB := n1_; have HK := n2_; have HO181 := n3_; clear n0_ n1_ n2_ n3_; clear ho hb hg hat))
       go_roundg k2
       case measure => have := HJ2.out; have := HK2.out; omega
       case rel => exact ⟨(y179), (wrap64 (x6_2 + 1)), (t177), (t178), (by first | rfl | (simp; done) | (simp [*]; done)), H', ⟨by have := HJ2.out; have := HK2.out; omega⟩, ⟨by (with_reducible repeat (first | apply zd | apply ze | apply zf)); exact HO181.out⟩, ⟨by repeat (first | (with_reducible first | exact HI0.out | apply IsS146.alloc | apply IsS146.drewN | apply IsS146.drew | apply IsS146.set_1 | apply IsS146.set_2) | exact HI0.out)⟩, ⟨by repeat (first | (with_reducible first | exact HK.out | apply KeepBut.set_ | apply keep_drewN | apply keep_drew | apply keep_alloc) | exact HK.out)⟩, ⟨by repeat (first | (with_reducible first | exact HB.out | apply zg | apply zh | apply zi | refine zs ?_ (IsS146.ge HI0.out)) | exact HB.out)⟩⟩
      ·rw [if_neg c9] at H
       exact absurd H (by simp)
     ·rw [if_neg c7] at H
      have c7b0 : decide (x6_2 < x1_2) = false := decide_eq_false c7
      clear c7
      simp only [Option.some.injEq, Prod.mk.injEq] at H
      obtain ⟨rfl, rfl, rfl⟩ := H
      have hcv12 := own_string (P := Try.prog) Try.underlying32 Try.underlying5 Try.underlying9 (Kd.own_of_R HO_5.out)
      go_wp2
      go_ret
      exact ⟨by first | rfl | (simp [errW_none, errW_some] <;> rfl) | (simp [*, errW_none, errW_some] <;> rfl), by repeat (first | (with_reducible first | exact HI0.out | apply IsS146.alloc | apply IsS146.drewN | apply IsS146.drew | apply IsS146.set_1 | apply IsS146.set_2) | exact HI0.out), by repeat (first | (with_reducible first | exact HB.out | apply zg | apply zh | apply zi | refine zs ?_ (IsS146.ge HI0.out)) | exact HB.out), by repeat (first | (with_reducible first | exact HK.out | apply KeepBut.set_ | apply keep_drewN | apply keep_drew | apply keep_alloc) | exact HK.out)⟩

/-! ### spec_l03Disk: function 71 -/
def spec_l03Disk.l0 : Nat → Int → List Int → Int → Int → List ByteArray → List (S74) → Option (List ByteArray × (List (S74)) × Int × Int)
 | 0, _, _, _, _, _, _ => none
 | k + 1, x5, x1000, x1001, x1002, x194000, x194001 => (spec_l01Below.f x1000 x1001 x1002 9).bind fun bt194 => (if x5 < bt194.1 then ((spec_l01Once.f x1000 bt194.2.1 bt194.2.2 4).bind fun bt197 => (if bt197.1 = true then ((spec_SyncDisk.f k x194000 x194001).bind fun bt200 => (spec_l03Disk.l0 k (wrap64 (x5 + 1)) x1000 bt197.2.1 bt197.2.2 bt200.1 bt200.2)) else ((spec_l01Below.f x1000 bt197.2.1 bt197.2.2 6).bind fun bt206 => ((spec_l01Below.f x1000 bt206.2.1 bt206.2.2 6).bind fun bt209 => ((spec_l01Text.f k x1000 bt209.2.1 bt209.2.2 bt209.1).bind fun bt212 => ((spec_WritePage.f k x194000 x194001 bt206.1 bt212.1).bind fun bt215 => (spec_l03Disk.l0 k (wrap64 (x5 + 1)) x1000 bt212.2.1 bt212.2.2 bt215.1 bt215.2.1))))))) else (some (x194000, x194001, bt194.2.1, bt194.2.2)))
def spec_l03Disk.f (k : Nat) (s0_0 : List Int) (s0_1 : Int) (s0_2 : Int) : Option (List ByteArray × (List (S74)) × Int × Int) := (spec_l01Below.f s0_0 s0_1 s0_2 4).bind fun bt183 => ((spec_DiskNew.f (wrap64 (4 + bt183.1))).bind fun bt186 => (spec_l03Disk.l0 k 0 s0_0 bt183.2.1 bt183.2.2 bt186.1 bt186.2.1))
theorem spec_l03Disk.mono_l : ∀ k, (∀ y0 y1 y2 y3 y4 y5, LeO (spec_l03Disk.l0 k y0 y1 y2 y3 y4 y5) (spec_l03Disk.l0 (k + 1) y0 y1 y2 y3 y4 y5))
 | 0 => fun _ _ _ _ _ _ r h => by simp [spec_l03Disk.l0] at h
 | k + 1 => by
  have ih0 := spec_l03Disk.mono_l k
  ·intro y0 y1 y2 y3 y4 y5
   unfold spec_l03Disk.l0
   repeat' first
   | (with_reducible exact ih0 _ _ _ _ _ _)
   | (with_reducible exact spec_SyncDisk.mono _ _ _)
   | (with_reducible exact spec_WritePage.mono _ _ _ _ _)
   | (with_reducible exact spec_l01Text.mono _ _ _ _ _)
   | (with_reducible exact LeO.refl _)
   | (with_reducible exact LeO.none _)
   | (with_reducible refine LeO.ite ?_ ?_)
   | (with_reducible refine LeO.bind ?_ (fun _ => ?_))
   | exact ih0 _ _ _ _ _ _
   | exact spec_SyncDisk.mono _ _ _
   | exact spec_WritePage.mono _ _ _ _ _
   | exact spec_l01Text.mono _ _ _ _ _
   | exact LeO.none _
   | refine LeO.ite ?_ ?_
   | refine LeO.bind ?_ (fun _ => ?_)
theorem spec_l03Disk.mono : ∀ a0 a1 a2 k, LeO (spec_l03Disk.f k a0 a1 a2) (spec_l03Disk.f (k + 1) a0 a1 a2) := by
 intro a0 a1 a2 k
 have ih0 := spec_l03Disk.mono_l k
 unfold spec_l03Disk.f
 repeat' first
   | (with_reducible exact ih0 _ _ _ _ _ _)
   | (with_reducible exact spec_SyncDisk.mono _ _ _)
   | (with_reducible exact spec_WritePage.mono _ _ _ _ _)
   | (with_reducible exact spec_l01Text.mono _ _ _ _ _)
   | (with_reducible exact LeO.refl _)
   | (with_reducible exact LeO.none _)
   | (with_reducible refine LeO.ite ?_ ?_)
   | (with_reducible refine LeO.bind ?_ (fun _ => ?_))
   | exact ih0 _ _ _ _ _ _
   | exact spec_SyncDisk.mono _ _ _
   | exact spec_WritePage.mono _ _ _ _ _
   | exact spec_l01Text.mono _ _ _ _ _
   | exact LeO.none _
   | refine LeO.ite ?_ ?_
   | refine LeO.bind ?_ (fun _ => ?_)
def spec_l03Disk.T7 : Bool × List (List Nat × List Nat) := (true, [([], []), ([], []), ([1], [1]), ([], []), ([], []), ([4, 2], [4]), ([3, 5, 5], [3, 5]), ([0, 2, 6, 6], [0, 2, 6]), ([7], [7]), ([8], [8]), ([8], [8]), ([9, 7, 0, 1, 2, 3, 4, 5, 6, 7, 8, 9], [9])])
def spec_l03Disk.B7 : List Nat := [0, 0, 2, 0, 0, 22, 62, 127, 255, 511, 511, 1023]
theorem spec_l03Disk.tab7 : rtab .any (opsOf Try.f71 7) = spec_l03Disk.T7 := by kernel_rfl
theorem spec_l03Disk.bits7 : waitsOk spec_l03Disk.T7.2 spec_l03Disk.B7 = true := by kernel_rfl
set_option maxHeartbeats 8000000 in
set_option maxRecDepth 100000 in
theorem spec_l03Disk.calls (k : Nat) (g : Nat) (s0_0 : List Int) (s0_1 : Int) (s0_2 : Int) (r1 : List ByteArray) (r2 : List (S74)) (r3 : Int) (r4 : Int) (w0 w : World) (hI : IsS146 w0 w g s0_0 s0_1 s0_2) (hB : Below w0.heap.size w0 w) (h : spec_l03Disk.f k s0_0 s0_1 s0_2 = some (r1, r2, r3, r4)) :
  Calls Try.prog 71 #[.pointer (some ⟨g, 0, none⟩)] w fun e w' => ∃ v0_ v1_ : Value, e = .returned (.agg #[v0_, v1_]) ∧ Kd.R Kd.string 9 w' w.heap.size (fun _ => True) v0_ r1 ∧ Kd.R k74 74 w' w.heap.size (fun _ => True) v1_ r2 ∧ IsS146 w0 w' g s0_0 r3 r4 ∧ Below w0.heap.size w0 w' ∧ KeepBut w w' g none := by
 have hu36 := Try.underlying36
 have HI0 := zj hI
 have HK := zj (KeepBut.refl w g none)
 have HL := zj hB.size
 clear hI
 have HW0 := zj hB.size
 have HB := zj hB
 clear hB
 have H : ((spec_l01Below.f s0_0 s0_1 s0_2 4).bind fun bt183 => ((spec_DiskNew.f (wrap64 (4 + bt183.1))).bind fun bt186 => (spec_l03Disk.l0 k 0 s0_0 bt183.2.1 bt183.2.2 bt186.1 bt186.2.1))) = some (r1, r2, r3, r4) := h
 clear h
 replace H := Option.bind_eq_some_iff.mp H
 obtain ⟨⟨t183, t184, t185⟩, A20, H⟩ := H
 replace H : ((spec_DiskNew.f (wrap64 (4 + t183))).bind fun bt186 => (spec_l03Disk.l0 k 0 s0_0 t184 t185 bt186.1 bt186.2.1)) = some (r1, r2, r3, r4) := H
 have A2 := zj A20
 clear A20
 replace H := Option.bind_eq_some_iff.mp H
 obtain ⟨⟨t186, t189, t192⟩, A30, H⟩ := H
 replace H : (spec_l03Disk.l0 k 0 s0_0 t184 t185 t186 t189) = some (r1, r2, r3, r4) := H
 have A3 := zj A30
 clear A30
 have H' := zj H
 clear H
 go_enter Try.func71, Try.ntmps71
 go_wp2_with (first | ((with_reducible refine gate_dst (N := 2) rfl ?_); refine box_event ?hg (N := 2) ?hd (cs := #[.slice none 0 0, .slice none 0 0]) (t := 36) ?hr ?_; (case hd => rfl); (case hg => rfl); (case hr => first | (go_simp; done) | (go_simp; rfl)); intro gb182 hg w4 hbox hb; have n0_ := zj (IsS146.below (by repeat (first | (with_reducible first | exact HI0.out | apply IsS146.alloc | apply IsS146.drewN | apply IsS146.drew | apply IsS146.set_1 | apply IsS146.set_2) | exact HI0.out)) hb); have n1_ := zj (KeepBut.trans (by repeat (first | (with_reducible first | exact HK.out | apply KeepBut.set_ | apply keep_drewN | apply keep_drew | apply keep_alloc) | exact HK.out)) (KeepBut.of_below hb g none) (.inl rfl)); have n2_ := zj (zl (by repeat (first | (with_reducible first | exact HB.out | apply zg | apply zh | apply zi | refine zs ?_ (IsS146.ge HI0.out)) | exact HB.out)) hb); have n3_ := zj (hbox); have n4_ := zj ((by rw [hg]; exact (keep_size (w := w) (g := g) (row := none) (by repeat (first | (with_reducible first | exact HK.out | apply KeepBut.set_ | apply keep_drewN | apply keep_drew | apply keep_alloc) | exact HK.out))) : w.heap.size ≤ gb182)); have n5_ := zj ((Nat.le_trans HW0.out (by rw [hg]; exact (keep_size (w := w) (g := g) (row := none) (by repeat (first | (with_reducible first | exact HK.out | apply KeepBut.set_ | apply keep_drewN | apply keep_drew | apply keep_alloc) | exact HK.out))) : w.heap.size ≤ gb182) : w0.heap.size ≤ gb182)); have n6_ := zj ((by rw [hg]; exact Nat.ne_of_lt (IsS146.lt (show IsS146 w0 _ g s0_0 s0_1 s0_2 from by repeat (first | (with_reducible first | exact HI0.out | apply IsS146.alloc | apply IsS146.drewN | apply IsS146.drew | apply IsS146.set_1 | apply IsS146.set_2) | exact HI0.out))) : g ≠ gb182)); have n7_ := zj ((by rw [hg]; exact Nat.ne_of_gt (IsS146.lt (show IsS146 w0 _ g s0_0 s0_1 s0_2 from by repeat (first | (with_reducible first | exact HI0.out | apply IsS146.alloc | apply IsS146.drewN | apply IsS146.drew | apply IsS146.set_1 | apply IsS146.set_2) | exact HI0.out))) : gb182 ≠ g)); clear HI0; clear HK; clear HB; have HI0 := n0_; have HK := n1_; have HB := n2_; have BK182 := n3_; have GW182 := n4_; have GE182 := n5_; have NB0_182 := n6_; have NB182_0 := n7_; clear n0_ n1_ n2_ n3_ n4_ n5_ n6_ n7_; clear hb hbox hg) | ((with_reducible refine gate_callee (f := 74) rfl ?_); refine goesL_ (some 8) rfl rfl Try.func74 (by kernel_rfl) rfl #[.pointer (some ⟨g, 0, none⟩), .int .i64 4] rfl (by (try simp only [List.map_toArray, List.map_cons, List.map_nil]); first | done | rfl | (simp only [List.length_drop, List.length_take]; rfl)) ?_; (with_reducible refine (spec_l01Below.calls g s0_0 s0_1 s0_2 4 t183 t184 t185 w0 _ ?side1 ?side2 A2.out).mono ?_); (case side1 => repeat (first | (with_reducible first | exact HI0.out | apply IsS146.alloc | apply IsS146.drewN | apply IsS146.drew | apply IsS146.set_1 | apply IsS146.set_2 | apply IsS146.far (hne := NB0_182.out)) | apply IsS146.far (hne := NB0_182.out) | exact HI0.out)); (case side2 => repeat (first | (with_reducible first | exact HB.out | apply zg | apply zh | apply zi | refine zs ?_ (IsS146.ge HI0.out) | refine zs ?_ GE182.out) | exact HB.out)); rintro e w5 ⟨rfl, hi, hb, hk⟩; refine ⟨_, rfl, ?_⟩; have n0_ := zj (KeepBut.blk hk (g' := gb182) (o := .cells #[.slice none 0 0, .slice none 0 0] 36 (0, 0)) (by (with_reducible repeat (first | refine za ?_ _ | refine zb ?_ | refine zc ?_ _)); exact BK182.out) NB182_0.out (by simp)); have n1_ := zj (KeepBut.trans (by repeat (first | (with_reducible first | exact HK.out | apply KeepBut.set_ | apply keep_drewN | apply keep_drew | apply keep_alloc | refine keep_far ?_ GW182.out _) | exact HK.out)) hk (.inl rfl)); have n2_ := zj (hb); have n3_ := zj (hi); clear BK182; clear HK; clear HB; clear HI0; have BK182 := n0_; have HK := n1_; have HB := n2_; have HI0 := n3_; clear n0_ n1_ n2_ n3_; (try clear hb); (try clear hb2); (try clear hk); (try clear hi)) | ((with_reducible refine gate_callee (f := 118) rfl ?_); refine goesL_ (some 10) rfl rfl Try.func118 (by kernel_rfl) rfl #[.int .i64 (wrap64 (4 + t183))] rfl (by (try simp only [List.map_toArray, List.map_cons, List.map_nil]); first | done | rfl | (simp only [List.length_drop, List.length_take]; rfl)) ?_; (with_reducible refine (spec_DiskNew.calls (wrap64 (4 + t183)) t186 t189 t192 _ A3.out).mono ?_); rintro e w6 ⟨v187, v190, rfl, ho0, ho1, hb⟩; refine ⟨_, rfl, ?_⟩; have n0_ := zj (Kd.R_lower ho0 (keep_size (w := w) (g := g) (row := none) (by repeat (first | (with_reducible first | exact HK.out | apply KeepBut.set_ | apply keep_drewN | apply keep_drew | apply keep_alloc | refine keep_far ?_ GW182.out _) | exact HK.out)))); have n1_ := zj (Kd.R_lower ho1 (keep_size (w := w) (g := g) (row := none) (by repeat (first | (with_reducible first | exact HK.out | apply KeepBut.set_ | apply keep_drewN | apply keep_drew | apply keep_alloc | refine keep_far ?_ GW182.out _) | exact HK.out)))); have n2_ := zj (IsS146.below (by repeat (first | (with_reducible first | exact HI0.out | apply IsS146.alloc | apply IsS146.drewN | apply IsS146.drew | apply IsS146.set_1 | apply IsS146.set_2 | apply IsS146.far (hne := NB0_182.out)) | apply IsS146.far (hne := NB0_182.out) | exact HI0.out)) hb); have n3_ := zj (zo (g := gb182) (o := .cells #[.slice none 0 0, .slice none 0 0] 36 (0, 0)) (by (with_reducible repeat (first | refine za ?_ _ | refine zb ?_ | refine zc ?_ _)); exact BK182.out) hb); have n4_ := zj (KeepBut.trans (by repeat (first | (with_reducible first | exact HK.out | apply KeepBut.set_ | apply keep_drewN | apply keep_drew | apply keep_alloc | refine keep_far ?_ GW182.out _) | exact HK.out)) (KeepBut.of_below hb g none) (.inl rfl)); have n5_ := zj (zl (by repeat (first | (with_reducible first | exact HB.out | apply zg | apply zh | apply zi | refine zs ?_ (IsS146.ge HI0.out) | refine zs ?_ GE182.out) | exact HB.out)) hb); clear HI0; clear BK182; clear HK; clear HB; have HO188 := n0_; have HO191 := n1_; have HI0 := n2_; have BK182 := n3_; have HK := n4_; have HB := n5_; clear n0_ n1_ n2_ n3_ n4_ n5_; (try clear hb); (try clear hb2); (try clear hk); (try clear hi); (try clear ho0); (try clear ho1)) | ((with_reducible refine gate_dst (N := 3) rfl ?_); refine box_event ?hg (N := 3) ?hd (cs := #[.slice none 0 0, .slice none 0 0]) (t := 36) ?hr ?_; (case hd => rfl); (case hg => rfl); (case hr => first | (go_simp; done) | (go_simp; rfl)); intro gb193 hg w7 hbox hb; have n0_ := zj (zt (by (with_reducible repeat (first | apply zd | apply ze | apply zf)); exact HO188.out) hb); have n1_ := zj (zt (by (with_reducible repeat (first | apply zd | apply ze | apply zf)); exact HO191.out) hb); have n2_ := zj (IsS146.below (by repeat (first | (with_reducible first | exact HI0.out | apply IsS146.alloc | apply IsS146.drewN | apply IsS146.drew | apply IsS146.set_1 | apply IsS146.set_2 | apply IsS146.far (hne := NB0_182.out)) | apply IsS146.far (hne := NB0_182.out) | exact HI0.out)) hb); have n3_ := zj (zo (g := gb182) (o := .cells #[.slice none 0 0, .slice none 0 0] 36 (0, 0)) (by (with_reducible repeat (first | refine za ?_ _ | refine zb ?_ | refine zc ?_ _)); exact BK182.out) hb); have n4_ := zj (KeepBut.trans (by repeat (first | (with_reducible first | exact HK.out | apply KeepBut.set_ | apply keep_drewN | apply keep_drew | apply keep_alloc | refine keep_far ?_ GW182.out _) | exact HK.out)) (KeepBut.of_below hb g none) (.inl rfl)); have n5_ := zj (zl (by repeat (first | (with_reducible first | exact HB.out | apply zg | apply zh | apply zi | refine zs ?_ (IsS146.ge HI0.out) | refine zs ?_ GE182.out) | exact HB.out)) hb); have n6_ := zj (hbox); have n7_ := zj ((by rw [hg]; exact (keep_size (w := w) (g := g) (row := none) (by repeat (first | (with_reducible first | exact HK.out | apply KeepBut.set_ | apply keep_drewN | apply keep_drew | apply keep_alloc | refine keep_far ?_ GW182.out _) | exact HK.out))) : w.heap.size ≤ gb193)); have n8_ := zj ((Nat.le_trans HW0.out (by rw [hg]; exact (keep_size (w := w) (g := g) (row := none) (by repeat (first | (with_reducible first | exact HK.out | apply KeepBut.set_ | apply keep_drewN | apply keep_drew | apply keep_alloc | refine keep_far ?_ GW182.out _) | exact HK.out))) : w.heap.size ≤ gb193) : w0.heap.size ≤ gb193)); have n9_ := zj ((by rw [hg]; exact Nat.ne_of_lt (blk_lt (g := gb182) (o := .cells #[.slice none 0 0, .slice none 0 0] 36 (0, 0)) (by (with_reducible repeat (first | refine za ?_ _ | refine zb ?_ | refine zc ?_ _)); exact BK182.out)) : gb182 ≠ gb193)); have n10_ := zj ((by rw [hg]; exact Nat.ne_of_gt (blk_lt (g := gb182) (o := .cells #[.slice none 0 0, .slice none 0 0] 36 (0, 0)) (by (with_reducible repeat (first | refine za ?_ _ | refine zb ?_ | refine zc ?_ _)); exact BK182.out)) : gb193 ≠ gb182)); have n11_ := zj ((by rw [hg]; exact Nat.ne_of_lt (IsS146.lt (show IsS146 w0 _ g s0_0 t184 t185 from by repeat (first | (with_reducible first | exact HI0.out | apply IsS146.alloc | apply IsS146.drewN | apply IsS146.drew | apply IsS146.set_1 | apply IsS146.set_2 | apply IsS146.far (hne := NB0_182.out)) | apply IsS146.far (hne := NB0_182.out) | exact HI0.out))) : g ≠ gb193)); have n12_ := zj ((by rw [hg]; exact Nat.ne_of_gt (IsS146.lt (show IsS146 w0 _ g s0_0 t184 t185 from by repeat (first | (with_reducible first | exact HI0.out | apply IsS146.alloc | apply IsS146.drewN | apply IsS146.drew | apply IsS146.set_1 | apply IsS146.set_2 | apply IsS146.far (hne := NB0_182.out)) | apply IsS146.far (hne := NB0_182.out) | exact HI0.out))) : gb193 ≠ g)); clear HO188; clear HO191; clear HI0; clear BK182; clear HK; clear HB; have HO188 := n0_; have HO191 := n1_; have HI0 := n2_; have BK182 := n3_; have HK := n4_; have HB := n5_; have BK193 := n6_; have GW193 := n7_; have GE193 := n8_; have NB182_193 := n9_; have NB193_182 := n10_; have NB0_193 := n11_; have NB193_0 := n12_; clear n0_ n1_ n2_ n3_ n4_ n5_ n6_ n7_ n8_ n9_ n10_ n11_ n12_; clear hb hbox hg; obtain ⟨Ao8, co8, eo8⟩ := Kd.R_slice HO188.out; subst eo8; have hnb9 := NB193_182.out; have hnc9 := NB182_193.out; have hnb10 := NB193_0.out; have hnc10 := NB0_193.out; have hcz11_0 : w7.cell? ⟨gb193, 0, none⟩ = some (.slice none 0 0) := (zq BK193.out 0).trans rfl; have hcz11_1 : w7.cell? ⟨gb193, 1, none⟩ = some (.slice none 0 0) := (zq BK193.out 1).trans rfl; have hfz11_0 := zv BK193.out 0; have hfz11_1 := zv BK193.out 1; obtain ⟨Ao12, co12, eo12⟩ := Kd.R_slice HO191.out; subst eo12))
 go_loopg [5] k (fun kq v5 w' => ∃ (x5_1 : Int) (x1001_1 : Int) (x1002_1 : Int) (x194000_1 : List ByteArray) (x194001_1 : List (S74)) (u194000 : Value) (u194001 : Value), v5 = .int .i64 x5_1 ∧ Aside0 (spec_l03Disk.l0 kq x5_1 s0_0 x1001_1 x1002_1 x194000_1 x194001_1 = some (r1, r2, r3, r4)) ∧ Aside0 (kq ≤ k) ∧ Aside0 (Kd.R Kd.string 9 w' w.heap.size (fun _ => True) u194000 x194000_1) ∧ Aside0 (Kd.R k74 74 w' w.heap.size (fun _ => True) u194001 x194001_1) ∧ Aside0 (w'.heap[gb182]? = some (.cells #[(.slice none 0 0), (.slice none 0 0)] 36 (0, 0))) ∧ Aside0 (w'.heap[gb193]? = some (.cells #[u194000, u194001] 36 (0, 0))) ∧ Aside0 (IsS146 w0 w' g s0_0 x1001_1 x1002_1) ∧ Aside0 (KeepBut w w' g none) ∧ Aside0 (Below w0.heap.size w0 w'))
 case atStart => exact ⟨(0), (t184), (t185), (t186), (t189), (.slice Ao8 t186.length co8), (.slice Ao12 t189.length co12), (by first | rfl | (simp; done) | (simp [*]; done)), H', ⟨Nat.le_refl _⟩, ⟨by (with_reducible repeat (first | apply zd | apply ze | apply zf)); exact zm (zn (p := ⟨gb193, 1, none⟩) (zn (p := ⟨gb193, 0, none⟩) (zu HO188.out BK193.out (by decide)) (fun _ hk => hk.2) (.slice Ao8 t186.length co8)) (fun _ hk => hk.2) (.slice Ao12 t189.length co12)) (fun _ hk => trivial)⟩, ⟨by (with_reducible repeat (first | apply zd | apply ze | apply zf)); exact zm (zn (p := ⟨gb193, 1, none⟩) (zn (p := ⟨gb193, 0, none⟩) (zu HO191.out BK193.out (by decide)) (fun _ hk => hk.2) (.slice Ao8 t186.length co8)) (fun _ hk => hk.2) (.slice Ao12 t189.length co12)) (fun _ hk => trivial)⟩, ⟨by (with_reducible repeat (first | refine za ?_ _ | refine zb ?_ | refine zc ?_ _)); refine zr ?_ NB182_193.out _; (with_reducible repeat (first | refine za ?_ _ | refine zb ?_ | refine zc ?_ _)); refine zr ?_ NB182_193.out _; (with_reducible repeat (first | refine za ?_ _ | refine zb ?_ | refine zc ?_ _)); exact BK182.out⟩, ⟨by (with_reducible repeat (first | refine za ?_ _ | refine zb ?_ | refine zc ?_ _)); refine zp (cs := #[.slice Ao8 t186.length co8, .slice none 0 0]) ?_ 1 _ rfl; (with_reducible repeat (first | refine za ?_ _ | refine zb ?_ | refine zc ?_ _)); refine zp (cs := #[.slice none 0 0, .slice none 0 0]) ?_ 0 _ rfl; (with_reducible repeat (first | refine za ?_ _ | refine zb ?_ | refine zc ?_ _)); exact BK193.out⟩, ⟨by repeat (first | (with_reducible first | exact HI0.out | apply IsS146.alloc | apply IsS146.drewN | apply IsS146.drew | apply IsS146.set_1 | apply IsS146.set_2 | apply IsS146.far (hne := NB0_182.out) | apply IsS146.far (hne := NB0_193.out)) | apply IsS146.far (hne := NB0_182.out) | apply IsS146.far (hne := NB0_193.out) | exact HI0.out)⟩, ⟨by repeat (first | (with_reducible first | exact HK.out | apply KeepBut.set_ | apply keep_drewN | apply keep_drew | apply keep_alloc | refine keep_far ?_ GW182.out _ | refine keep_far ?_ GW193.out _) | exact HK.out)⟩, ⟨by repeat (first | (with_reducible first | exact HB.out | apply zg | apply zh | apply zi | refine zs ?_ (IsS146.ge HI0.out) | refine zs ?_ GE182.out | refine zs ?_ GE193.out) | exact HB.out)⟩⟩
 case round =>
  clear H'
  try clear c1
  try clear p2
  try clear p6
  try clear c7
  try clear c9
  try clear c10
  try clear c11
  try clear hcz11_0
  try clear hcz11_1
  try clear hfz11_0
  try clear hfz11_1
  obtain ⟨x5_1, x1001_1, x1002_1, x194000_1, x194001_1, u194000, u194001, rfl, HA, HK1, HO_194000, HO_194001, BK182, BK193, HI0, HK, HB⟩ := hrel
  cases gk with
  | zero => exact absurd HA.out (by simp [spec_l03Disk.l0])
  | succ k1 =>
   have H := HA.out
   clear HA
   simp only [spec_l03Disk.l0] at H
   replace H := Option.bind_eq_some_iff.mp H
   obtain ⟨⟨t194, t195, t196⟩, A130, H⟩ := H
   replace H : (if x5_1 < t194 then ((spec_l01Once.f s0_0 t195 t196 4).bind fun bt197 => (if bt197.1 = true then ((spec_SyncDisk.f k1 x194000_1 x194001_1).bind fun bt200 => (spec_l03Disk.l0 k1 (wrap64 (x5_1 + 1)) s0_0 bt197.2.1 bt197.2.2 bt200.1 bt200.2)) else ((spec_l01Below.f s0_0 bt197.2.1 bt197.2.2 6).bind fun bt206 => ((spec_l01Below.f s0_0 bt206.2.1 bt206.2.2 6).bind fun bt209 => ((spec_l01Text.f k1 s0_0 bt209.2.1 bt209.2.2 bt209.1).bind fun bt212 => ((spec_WritePage.f k1 x194000_1 x194001_1 bt206.1 bt212.1).bind fun bt215 => (spec_l03Disk.l0 k1 (wrap64 (x5_1 + 1)) s0_0 bt212.2.1 bt212.2.2 bt215.1 bt215.2.1))))))) else (some (x194000_1, x194001_1, t195, t196))) = some (r1, r2, r3, r4) := H
   have A13 := zj A130
   clear A130
   by_cases c14 : x5_1 < t194
   ·rw [if_pos c14] at H
    have c14b0 : decide (x5_1 < t194) = true := decide_eq_true c14
    clear c14
    replace H := Option.bind_eq_some_iff.mp H
    obtain ⟨⟨t197, t198, t199⟩, A150, H⟩ := H
    replace H : (if t197 = true then ((spec_SyncDisk.f k1 x194000_1 x194001_1).bind fun bt200 => (spec_l03Disk.l0 k1 (wrap64 (x5_1 + 1)) s0_0 t198 t199 bt200.1 bt200.2)) else ((spec_l01Below.f s0_0 t198 t199 6).bind fun bt206 => ((spec_l01Below.f s0_0 bt206.2.1 bt206.2.2 6).bind fun bt209 => ((spec_l01Text.f k1 s0_0 bt209.2.1 bt209.2.2 bt209.1).bind fun bt212 => ((spec_WritePage.f k1 x194000_1 x194001_1 bt206.1 bt212.1).bind fun bt215 => (spec_l03Disk.l0 k1 (wrap64 (x5_1 + 1)) s0_0 bt212.2.1 bt212.2.2 bt215.1 bt215.2.1)))))) = some (r1, r2, r3, r4) := H
    have A15 := zj A150
    clear A150
    by_cases c16 : t197 = true
    ·subst c16
     have H1 : ((spec_SyncDisk.f k1 x194000_1 x194001_1).bind fun bt200 => (spec_l03Disk.l0 k1 (wrap64 (x5_1 + 1)) s0_0 t198 t199 bt200.1 bt200.2)) = some (r1, r2, r3, r4) := by rw [if_pos rfl] at H; exact H
     clear H
     have H := H1
     clear H1
     replace H := Option.bind_eq_some_iff.mp H
     obtain ⟨⟨t200, t203⟩, A170, H⟩ := H
     replace H : (spec_l03Disk.l0 k1 (wrap64 (x5_1 + 1)) s0_0 t198 t199 t200 t203) = some (r1, r2, r3, r4) := H
     have A17 := zj A170
     clear A170
     have H' := zj H
     clear H
     go_wp2_with (first | ((with_reducible refine gate_callee (f := 74) rfl ?_); refine goesL_ (some 15) rfl rfl Try.func74 (by kernel_rfl) rfl #[.pointer (some ⟨g, 0, none⟩), .int .i64 9] rfl (by (try simp only [List.map_toArray, List.map_cons, List.map_nil]); first | done | rfl | (simp only [List.length_drop, List.length_take]; rfl)) ?_; (with_reducible refine (spec_l01Below.calls g s0_0 x1001_1 x1002_1 9 t194 t195 t196 w0 _ ?side1 ?side2 A13.out).mono ?_); (case side1 => repeat (first | (with_reducible first | exact HI0.out | apply IsS146.alloc | apply IsS146.drewN | apply IsS146.drew | apply IsS146.set_1 | apply IsS146.set_2 | apply IsS146.far (hne := NB0_182.out) | apply IsS146.far (hne := NB0_193.out)) | apply IsS146.far (hne := NB0_182.out) | apply IsS146.far (hne := NB0_193.out) | exact HI0.out)); (case side2 => repeat (first | (with_reducible first | exact HB.out | apply zg | apply zh | apply zi | refine zs ?_ (IsS146.ge HI0.out) | refine zs ?_ GE182.out | refine zs ?_ GE193.out) | exact HB.out)); rintro e w18 ⟨rfl, hi, hb, hk⟩; refine ⟨_, rfl, ?_⟩; have n0_ := zj (zm (Kd.R_keep (IsS146.apart (show IsS146 w0 _ g s0_0 x1001_1 x1002_1 from by repeat (first | (with_reducible first | exact HI0.out | apply IsS146.alloc | apply IsS146.drewN | apply IsS146.drew | apply IsS146.set_1 | apply IsS146.set_2 | apply IsS146.far (hne := NB0_182.out) | apply IsS146.far (hne := NB0_193.out)) | apply IsS146.far (hne := NB0_182.out) | apply IsS146.far (hne := NB0_193.out) | exact HI0.out)) (by (with_reducible repeat (first | apply zd | apply ze | apply zf)); exact HO_194000.out) (by decide)) hk (fun _ h => h.2)) (fun _ h => h.1)); have n1_ := zj (zm (Kd.R_keep (IsS146.apart (show IsS146 w0 _ g s0_0 x1001_1 x1002_1 from by repeat (first | (with_reducible first | exact HI0.out | apply IsS146.alloc | apply IsS146.drewN | apply IsS146.drew | apply IsS146.set_1 | apply IsS146.set_2 | apply IsS146.far (hne := NB0_182.out) | apply IsS146.far (hne := NB0_193.out)) | apply IsS146.far (hne := NB0_182.out) | apply IsS146.far (hne := NB0_193.out) | exact HI0.out)) (by (with_reducible repeat (first | apply zd | apply ze | apply zf)); exact HO_194001.out) (by decide)) hk (fun _ h => h.2)) (fun _ h => h.1)); have n2_ := zj (KeepBut.blk hk (g' := gb182) (o := .cells #[.slice none 0 0, .slice none 0 0] 36 (0, 0)) (by (with_reducible repeat (first | refine za ?_ _ | refine zb ?_ | refine zc ?_ _)); exact BK182.out) NB182_0.out (by simp)); have n3_ := zj (KeepBut.blk hk (g' := gb193) (o := .cells #[u194000, u194001] 36 (0, 0)) (by (with_reducible repeat (first | refine za ?_ _ | refine zb ?_ | refine zc ?_ _)); exact BK193.out) NB193_0.out (by simp)); have n4_ := zj (KeepBut.trans (by repeat (first | (with_reducible first | exact HK.out | apply KeepBut.set_ | apply keep_drewN | apply keep_drew | apply keep_alloc | refine keep_far ?_ GW182.out _ | refine keep_far ?_ GW193.out _) | exact HK.out)) hk (.inl rfl)); have n5_ := zj (hb); have n6_ := zj (hi); clear HO_194000; clear HO_194001; clear BK182; clear BK193; clear HK; clear HB; clear HI0; have HO_194000 := n0_; have HO_194001 := n1_; have BK182 := n2_; have BK193 := n3_; have HK := n4_; have HB := n5_; have HI0 := n6_; clear n0_ n1_ n2_ n3_ n4_ n5_ n6_; (try clear hb); (try clear hb2); (try clear hk); (try clear hi)) | ((with_reducible refine gate_callee (f := 119) rfl ?_); refine goesL_ (some 20) rfl rfl Try.func119 (by kernel_rfl) rfl #[.pointer (some ⟨g, 0, none⟩), .int .i64 4] rfl (by (try simp only [List.map_toArray, List.map_cons, List.map_nil]); first | done | rfl | (simp only [List.length_drop, List.length_take]; rfl)) ?_; (with_reducible refine (spec_l01Once.calls g s0_0 t195 t196 4 true t198 t199 w0 _ ?side1 ?side2 A15.out).mono ?_); (case side1 => repeat (first | (with_reducible first | exact HI0.out | apply IsS146.alloc | apply IsS146.drewN | apply IsS146.drew | apply IsS146.set_1 | apply IsS146.set_2 | apply IsS146.far (hne := NB0_182.out) | apply IsS146.far (hne := NB0_193.out)) | apply IsS146.far (hne := NB0_182.out) | apply IsS146.far (hne := NB0_193.out) | exact HI0.out)); (case side2 => repeat (first | (with_reducible first | exact HB.out | apply zg | apply zh | apply zi | refine zs ?_ (IsS146.ge HI0.out) | refine zs ?_ GE182.out | refine zs ?_ GE193.out) | exact HB.out)); rintro e w19 ⟨rfl, hi, hb, hk⟩; refine ⟨_, rfl, ?_⟩; have n0_ := zj (zm (Kd.R_keep (IsS146.apart (show IsS146 w0 _ g s0_0 t195 t196 from by repeat (first | (with_reducible first | exact HI0.out | apply IsS146.alloc | apply IsS146.drewN | apply IsS146.drew | apply IsS146.set_1 | apply IsS146.set_2 | apply IsS146.far (hne := NB0_182.out) | apply IsS146.far (hne := NB0_193.out)) | apply IsS146.far (hne := NB0_182.out) | apply IsS146.far (hne := NB0_193.out) | exact HI0.out)) (by (with_reducible repeat (first | apply zd | apply ze | apply zf)); exact HO_194000.out) (by decide)) hk (fun _ h => h.2)) (fun _ h => h.1)); have n1_ := zj (zm (Kd.R_keep (IsS146.apart (show IsS146 w0 _ g s0_0 t195 t196 from by repeat (first | (with_reducible first | exact HI0.out | apply IsS146.alloc | apply IsS146.drewN | apply IsS146.drew | apply IsS146.set_1 | apply IsS146.set_2 | apply IsS146.far (hne := NB0_182.out) | apply IsS146.far (hne := NB0_193.out)) | apply IsS146.far (hne := NB0_182.out) | apply IsS146.far (hne := NB0_193.out) | exact HI0.out)) (by (with_reducible repeat (first | apply zd | apply ze | apply zf)); exact HO_194001.out) (by decide)) hk (fun _ h => h.2)) (fun _ h => h.1)); have n2_ := zj (KeepBut.blk hk (g' := gb182) (o := .cells #[.slice none 0 0, .slice none 0 0] 36 (0, 0)) (by (with_reducible repeat (first | refine za ?_ _ | refine zb ?_ | refine zc ?_ _)); exact BK182.out) NB182_0.out (by simp)); have n3_ := zj (KeepBut.blk hk (g' := gb193) (o := .cells #[u194000, u194001] 36 (0, 0)) (by (with_reducible repeat (first | refine za ?_ _ | refine zb ?_ | refine zc ?_ _)); exact BK193.out) NB193_0.out (by simp)); have n4_ := zj (KeepBut.trans (by repeat (first | (with_reducible first | exact HK.out | apply KeepBut.set_ | apply keep_drewN | apply keep_drew | apply keep_alloc | refine keep_far ?_ GW182.out _ | refine keep_far ?_ GW193.out _) | exact HK.out)) hk (.inl rfl)); have n5_ := zj (hb); have n6_ := zj (hi); clear HO_194000; clear HO_194001; clear BK182; clear BK193; clear HK; clear HB; clear HI0; have HO_194000 := n0_; have HO_194001 := n1_; have BK182 := n2_; have BK193 := n3_; have HK := n4_; have HB := n5_; have HI0 := n6_; clear n0_ n1_ n2_ n3_ n4_ n5_ n6_; (try clear hb); (try clear hb2); (try clear hk); (try clear hi); have hnb20 := NB193_182.out; have hnc20 := NB182_193.out; have hnb21 := NB193_0.out; have hnc21 := NB0_193.out; have hcz22_0 : w19.cell? ⟨gb193, 0, none⟩ = some (u194000) := (zq BK193.out 0).trans rfl; have hcz22_1 : w19.cell? ⟨gb193, 1, none⟩ = some (u194001) := (zq BK193.out 1).trans rfl; have hfz22_0 := zv BK193.out 0; have hfz22_1 := zv BK193.out 1; obtain ⟨Ao23, co23, eo23⟩ := Kd.R_slice HO_194000.out; subst eo23; obtain ⟨Ao24, co24, eo24⟩ := Kd.R_slice HO_194001.out; subst eo24) | ((with_reducible refine gate_callee (f := 32) rfl ?_); refine goesL_ (some 22) rfl rfl Try.func32 (by kernel_rfl) rfl #[.agg #[.slice Ao23 x194000_1.length co23, .slice Ao24 x194001_1.length co24]] rfl (by (try simp only [List.map_toArray, List.map_cons, List.map_nil]); first | done | rfl | (simp only [List.length_drop, List.length_take]; rfl)) ?_; (with_reducible refine (spec_SyncDisk.calls k1 _ _ x194000_1 _ _ x194001_1 t200 t203 _ ?side1 ?side2 ?side3 ?side4 A17.out).mono ?_); (case side1 => repeat (first | exact (Kd.R_reads' HO_194000.out).2.2 | (with_reducible refine Kd.C_alloc ?_ _) | (with_reducible refine Kd.C_drewN ?_ _) | (with_reducible refine Kd.C_drew ?_))); (case side2 => exact (Kd.R_reads' HO_194000.out).2.1); (case side3 => repeat (first | exact (Kd.R_reads' HO_194001.out).2.2 | (with_reducible refine Kd.C_alloc ?_ _) | (with_reducible refine Kd.C_drewN ?_ _) | (with_reducible refine Kd.C_drew ?_))); (case side4 => exact (Kd.R_reads' HO_194001.out).2.1); rintro e w25 ⟨v201, v204, rfl, ho0, ho1, hb⟩; refine ⟨_, rfl, ?_⟩; have n0_ := zj (Kd.R_elder' (by (with_reducible repeat (first | apply zd | apply ze | apply zf)); exact HO_194000.out) (Kd.R_base ho0) hb); have n1_ := zj (Kd.R_elder' (by (with_reducible repeat (first | apply zd | apply ze | apply zf)); exact HO_194001.out) (Kd.R_base ho1) hb); have n2_ := zj (Kd.R_lower (Kd.R_new' ho0 (Kd.R_lt (by (with_reducible repeat (first | apply zd | apply ze | apply zf)); exact HO_194000.out))) (keep_size (w := w) (g := g) (row := none) (by repeat (first | (with_reducible first | exact HK.out | apply KeepBut.set_ | apply keep_drewN | apply keep_drew | apply keep_alloc | refine keep_far ?_ GW182.out _ | refine keep_far ?_ GW193.out _) | exact HK.out)))); have n3_ := zj (Kd.R_lower (Kd.R_new' ho1 (Kd.R_lt (by (with_reducible repeat (first | apply zd | apply ze | apply zf)); exact HO_194001.out))) (keep_size (w := w) (g := g) (row := none) (by repeat (first | (with_reducible first | exact HK.out | apply KeepBut.set_ | apply keep_drewN | apply keep_drew | apply keep_alloc | refine keep_far ?_ GW182.out _ | refine keep_far ?_ GW193.out _) | exact HK.out)))); have n4_ := zj (zo (g := gb182) (o := .cells #[.slice none 0 0, .slice none 0 0] 36 (0, 0)) (by (with_reducible repeat (first | refine za ?_ _ | refine zb ?_ | refine zc ?_ _)); exact BK182.out) hb); have n5_ := zj (zo (g := gb193) (o := .cells #[.slice Ao23 x194000_1.length co23, .slice Ao24 x194001_1.length co24] 36 (0, 0)) (by (with_reducible repeat (first | refine za ?_ _ | refine zb ?_ | refine zc ?_ _)); exact BK193.out) hb); have n6_ := zj (IsS146.below (by repeat (first | (with_reducible first | exact HI0.out | apply IsS146.alloc | apply IsS146.drewN | apply IsS146.drew | apply IsS146.set_1 | apply IsS146.set_2 | apply IsS146.far (hne := NB0_182.out) | apply IsS146.far (hne := NB0_193.out)) | apply IsS146.far (hne := NB0_182.out) | apply IsS146.far (hne := NB0_193.out) | exact HI0.out)) hb); have n7_ := zj (KeepBut.trans (by repeat (first | (with_reducible first | exact HK.out | apply KeepBut.set_ | apply keep_drewN | apply keep_drew | apply keep_alloc | refine keep_far ?_ GW182.out _ | refine keep_far ?_ GW193.out _) | exact HK.out)) (KeepBut.of_below hb g none) (.inl rfl)); have n8_ := zj (zl (by repeat (first | (with_reducible first | exact HB.out | apply zg | apply zh | apply zi | refine zs ?_ (IsS146.ge HI0.out) | refine zs ?_ GE182.out | refine zs ?_ GE193.out) | exact HB.out)) hb); clear HO_194000; clear HO_194001; clear BK182; clear BK193; clear HI0; clear HK; clear HB; have HO_194000 := n0_; have HO_194001 := n1_; have HO202 := n2_; have HO205 := n3_; have BK182 := n4_; have BK193 := n5_; have HI0 := n6_; have HK := n7_; have HB := n8_; clear n0_ n1_ n2_ n3_ n4_ n5_ n6_ n7_ n8_; (try clear hb); (try clear hb2); (try clear hk); (try clear hi); (try clear ho0); (try clear ho1); obtain ⟨Ao26, co26, eo26⟩ := Kd.R_slice HO202.out; subst eo26; have hcz27_0 : w25.cell? ⟨gb193, 0, none⟩ = some (.slice Ao23 x194000_1.length co23) := (zq BK193.out 0).trans rfl; have hcz27_1 : w25.cell? ⟨gb193, 1, none⟩ = some (.slice Ao24 x194001_1.length co24) := (zq BK193.out 1).trans rfl; have hfz27_0 := zv BK193.out 0; have hfz27_1 := zv BK193.out 1; obtain ⟨Ao28, co28, eo28⟩ := Kd.R_slice HO205.out; subst eo28))
     go_roundg k1
     case measure => have := HK1.out; omega
     case rel => exact ⟨(wrap64 (x5_1 + 1)), (t198), (t199), (t200), (t203), (.slice Ao26 t200.length co26), (.slice Ao28 t203.length co28), (by first | rfl | (simp; done) | (simp [*]; done)), H', ⟨by have := HK1.out; omega⟩, ⟨by (with_reducible repeat (first | apply zd | apply ze | apply zf)); exact zm (zn (p := ⟨gb193, 1, none⟩) (zn (p := ⟨gb193, 0, none⟩) (zu HO202.out BK193.out (by decide)) (fun _ hk => hk.2) (.slice Ao26 t200.length co26)) (fun _ hk => hk.2) (.slice Ao28 t203.length co28)) (fun _ hk => trivial)⟩, ⟨by (with_reducible repeat (first | apply zd | apply ze | apply zf)); exact zm (zn (p := ⟨gb193, 1, none⟩) (zn (p := ⟨gb193, 0, none⟩) (zu HO205.out BK193.out (by decide)) (fun _ hk => hk.2) (.slice Ao26 t200.length co26)) (fun _ hk => hk.2) (.slice Ao28 t203.length co28)) (fun _ hk => trivial)⟩, ⟨by (with_reducible repeat (first | refine za ?_ _ | refine zb ?_ | refine zc ?_ _)); refine zr ?_ NB182_193.out _; (with_reducible repeat (first | refine za ?_ _ | refine zb ?_ | refine zc ?_ _)); refine zr ?_ NB182_193.out _; (with_reducible repeat (first | refine za ?_ _ | refine zb ?_ | refine zc ?_ _)); exact BK182.out⟩, ⟨by (with_reducible repeat (first | refine za ?_ _ | refine zb ?_ | refine zc ?_ _)); refine zp (cs := #[.slice Ao26 t200.length co26, .slice Ao24 x194001_1.length co24]) ?_ 1 _ rfl; (with_reducible repeat (first | refine za ?_ _ | refine zb ?_ | refine zc ?_ _)); refine zp (cs := #[.slice Ao23 x194000_1.length co23, .slice Ao24 x194001_1.length co24]) ?_ 0 _ rfl; (with_reducible repeat (first | refine za ?_ _ | refine zb ?_ | refine zc ?_ _)); exact BK193.out⟩, ⟨by repeat (first | (with_reducible first | exact HI0.out | apply IsS146.alloc | apply IsS146.drewN | apply IsS146.drew | apply IsS146.set_1 | apply IsS146.set_2 | apply IsS146.far (hne := NB0_182.out) | apply IsS146.far (hne := NB0_193.out)) | apply IsS146.far (hne := NB0_182.out) | apply IsS146.far (hne := NB0_193.out) | exact HI0.out)⟩, ⟨by repeat (first | (with_reducible first | exact HK.out | apply KeepBut.set_ | apply keep_drewN | apply keep_drew | apply keep_alloc | refine keep_far ?_ GW182.out _ | refine keep_far ?_ GW193.out _) | exact HK.out)⟩, ⟨by repeat (first | (with_reducible first | exact HB.out | apply zg | apply zh | apply zi | refine zs ?_ (IsS146.ge HI0.out) | refine zs ?_ GE182.out | refine zs ?_ GE193.out) | exact HB.out)⟩⟩
    ·replace c16 := Bool.eq_false_iff.mpr c16
     subst c16
     have H1 : ((spec_l01Below.f s0_0 t198 t199 6).bind fun bt206 => ((spec_l01Below.f s0_0 bt206.2.1 bt206.2.2 6).bind fun bt209 => ((spec_l01Text.f k1 s0_0 bt209.2.1 bt209.2.2 bt209.1).bind fun bt212 => ((spec_WritePage.f k1 x194000_1 x194001_1 bt206.1 bt212.1).bind fun bt215 => (spec_l03Disk.l0 k1 (wrap64 (x5_1 + 1)) s0_0 bt212.2.1 bt212.2.2 bt215.1 bt215.2.1))))) = some (r1, r2, r3, r4) := by rw [if_neg (show ¬ (false = true) by decide)] at H; exact H
     clear H
     have H := H1
     clear H1
     replace H := Option.bind_eq_some_iff.mp H
     obtain ⟨⟨t206, t207, t208⟩, A290, H⟩ := H
     replace H : ((spec_l01Below.f s0_0 t207 t208 6).bind fun bt209 => ((spec_l01Text.f k1 s0_0 bt209.2.1 bt209.2.2 bt209.1).bind fun bt212 => ((spec_WritePage.f k1 x194000_1 x194001_1 t206 bt212.1).bind fun bt215 => (spec_l03Disk.l0 k1 (wrap64 (x5_1 + 1)) s0_0 bt212.2.1 bt212.2.2 bt215.1 bt215.2.1)))) = some (r1, r2, r3, r4) := H
     have A29 := zj A290
     clear A290
     replace H := Option.bind_eq_some_iff.mp H
     obtain ⟨⟨t209, t210, t211⟩, A300, H⟩ := H
     replace H : ((spec_l01Text.f k1 s0_0 t210 t211 t209).bind fun bt212 => ((spec_WritePage.f k1 x194000_1 x194001_1 t206 bt212.1).bind fun bt215 => (spec_l03Disk.l0 k1 (wrap64 (x5_1 + 1)) s0_0 bt212.2.1 bt212.2.2 bt215.1 bt215.2.1))) = some (r1, r2, r3, r4) := H
     have A30 := zj A300
     clear A300
     replace H := Option.bind_eq_some_iff.mp H
     obtain ⟨⟨t212, t213, t214⟩, A310, H⟩ := H
     replace H : ((spec_WritePage.f k1 x194000_1 x194001_1 t206 t212).bind fun bt215 => (spec_l03Disk.l0 k1 (wrap64 (x5_1 + 1)) s0_0 t213 t214 bt215.1 bt215.2.1)) = some (r1, r2, r3, r4) := H
     have A31 := zj A310
     clear A310
     replace H := Option.bind_eq_some_iff.mp H
     obtain ⟨⟨t215, t218, t221⟩, A320, H⟩ := H
     replace H : (spec_l03Disk.l0 k1 (wrap64 (x5_1 + 1)) s0_0 t213 t214 t215 t218) = some (r1, r2, r3, r4) := H
     have A32 := zj A320
     clear A320
     have H' := zj H
     clear H
     try go_wp2_with (first | ((with_reducible refine gate_callee (f := 74) rfl ?_); refine goesL_ (some 15) rfl rfl Try.func74 (by kernel_rfl) rfl #[.pointer (some ⟨g, 0, none⟩), .int .i64 9] rfl (by (try simp only [List.map_toArray, List.map_cons, List.map_nil]); first | done | rfl | (simp only [List.length_drop, List.length_take]; rfl)) ?_; (with_reducible refine (spec_l01Below.calls g s0_0 x1001_1 x1002_1 9 t194 t195 t196 w0 _ ?side1 ?side2 A13.out).mono ?_); (case side1 => repeat (first | (with_reducible first | exact HI0.out | apply IsS146.alloc | apply IsS146.drewN | apply IsS146.drew | apply IsS146.set_1 | apply IsS146.set_2 | apply IsS146.far (hne := NB0_182.out) | apply IsS146.far (hne := NB0_193.out)) | apply IsS146.far (hne := NB0_182.out) | apply IsS146.far (hne := NB0_193.out) | exact HI0.out)); (case side2 => repeat (first | (with_reducible first | exact HB.out | apply zg | apply zh | apply zi | refine zs ?_ (IsS146.ge HI0.out) | refine zs ?_ GE182.out | refine zs ?_ GE193.out) | exact HB.out)); rintro e w33 ⟨rfl, hi, hb, hk⟩; refine ⟨_, rfl, ?_⟩; have n0_ := zj (zm (Kd.R_keep (IsS146.apart (show IsS146 w0 _ g s0_0 x1001_1 x1002_1 from by repeat (first | (with_reducible first | exact HI0.out | apply IsS146.alloc | apply IsS146.drewN | apply IsS146.drew | apply IsS146.set_1 | apply IsS146.set_2 | apply IsS146.far (hne := NB0_182.out) | apply IsS146.far (hne := NB0_193.out)) | apply IsS146.far (hne := NB0_182.out) | apply IsS146.far (hne := NB0_193.out) | exact HI0.out)) (by (with_reducible repeat (first | apply zd | apply ze | apply zf)); exact HO_194000.out) (by decide)) hk (fun _ h => h.2)) (fun _ h => h.1)); have n1_ := zj (zm (Kd.R_keep (IsS146.apart (show IsS146 w0 _ g s0_0 x1001_1 x1002_1 from by repeat (first | (with_reducible first | exact HI0.out | apply IsS146.alloc | apply IsS146.drewN | apply IsS146.drew | apply IsS146.set_1 | apply IsS146.set_2 | apply IsS146.far (hne := NB0_182.out) | apply IsS146.far (hne := NB0_193.out)) | apply IsS146.far (hne := NB0_182.out) | apply IsS146.far (hne := NB0_193.out) | exact HI0.out)) (by (with_reducible repeat (first | apply zd | apply ze | apply zf)); exact HO_194001.out) (by decide)) hk (fun _ h => h.2)) (fun _ h => h.1)); have n2_ := zj (KeepBut.blk hk (g' := gb182) (o := .cells #[.slice none 0 0, .slice none 0 0] 36 (0, 0)) (by (with_reducible repeat (first | refine za ?_ _ | refine zb ?_ | refine zc ?_ _)); exact BK182.out) NB182_0.out (by simp)); have n3_ := zj (KeepBut.blk hk (g' := gb193) (o := .cells #[u194000, u194001] 36 (0, 0)) (by (with_reducible repeat (first | refine za ?_ _ | refine zb ?_ | refine zc ?_ _)); exact BK193.out) NB193_0.out (by simp)); have n4_ := zj (KeepBut.trans (by repeat (first | (with_reducible first | exact HK.out | apply KeepBut.set_ | apply keep_drewN | apply keep_drew | apply keep_alloc | refine keep_far ?_ GW182.out _ | refine keep_far ?_ GW193.out _) | exact HK.out)) hk (.inl rfl)); have n5_ := zj (hb); have n6_ := zj (hi); clear HO_194000; clear HO_194001; clear BK182; clear BK193; clear HK; clear HB; clear HI0; have HO_194000 := n0_; have HO_194001 := n1_; have BK182 := n2_; have BK193 := n3_; have HK := n4_; have HB := n5_; have HI0 := n6_; clear n0_ n1_ n2_ n3_ n4_ n5_ n6_; (try clear hb); (try clear hb2); (try clear hk); (try clear hi)) | ((with_reducible refine gate_callee (f := 119) rfl ?_); refine goesL_ (some 20) rfl rfl Try.func119 (by kernel_rfl) rfl #[.pointer (some ⟨g, 0, none⟩), .int .i64 4] rfl (by (try simp only [List.map_toArray, List.map_cons, List.map_nil]); first | done | rfl | (simp only [List.length_drop, List.length_take]; rfl)) ?_; (with_reducible refine (spec_l01Once.calls g s0_0 t195 t196 4 false t198 t199 w0 _ ?side1 ?side2 A15.out).mono ?_); (case side1 => repeat (first | (with_reducible first | exact HI0.out | apply IsS146.alloc | apply IsS146.drewN | apply IsS146.drew | apply IsS146.set_1 | apply IsS146.set_2 | apply IsS146.far (hne := NB0_182.out) | apply IsS146.far (hne := NB0_193.out)) | apply IsS146.far (hne := NB0_182.out) | apply IsS146.far (hne := NB0_193.out) | exact HI0.out)); (case side2 => repeat (first | (with_reducible first | exact HB.out | apply zg | apply zh | apply zi | refine zs ?_ (IsS146.ge HI0.out) | refine zs ?_ GE182.out | refine zs ?_ GE193.out) | exact HB.out)); rintro e w34 ⟨rfl, hi, hb, hk⟩; refine ⟨_, rfl, ?_⟩; have n0_ := zj (zm (Kd.R_keep (IsS146.apart (show IsS146 w0 _ g s0_0 t195 t196 from by repeat (first | (with_reducible first | exact HI0.out | apply IsS146.alloc | apply IsS146.drewN | apply IsS146.drew | apply IsS146.set_1 | apply IsS146.set_2 | apply IsS146.far (hne := NB0_182.out) | apply IsS146.far (hne := NB0_193.out)) | apply IsS146.far (hne := NB0_182.out) | apply IsS146.far (hne := NB0_193.out) | exact HI0.out)) (by (with_reducible repeat (first | apply zd | apply ze | apply zf)); exact HO_194000.out) (by decide)) hk (fun _ h => h.2)) (fun _ h => h.1)); have n1_ := zj (zm (Kd.R_keep (IsS146.apart (show IsS146 w0 _ g s0_0 t195 t196 from by repeat (first | (with_reducible first | exact HI0.out | apply IsS146.alloc | apply IsS146.drewN | apply IsS146.drew | apply IsS146.set_1 | apply IsS146.set_2 | apply IsS146.far (hne := NB0_182.out) | apply IsS146.far (hne := NB0_193.out)) | apply IsS146.far (hne := NB0_182.out) | apply IsS146.far (hne := NB0_193.out) | exact HI0.out)) (by (with_reducible repeat (first | apply zd | apply ze | apply zf)); exact HO_194001.out) (by decide)) hk (fun _ h => h.2)) (fun _ h => h.1)); have n2_ := zj (KeepBut.blk hk (g' := gb182) (o := .cells #[.slice none 0 0, .slice none 0 0] 36 (0, 0)) (by (with_reducible repeat (first | refine za ?_ _ | refine zb ?_ | refine zc ?_ _)); exact BK182.out) NB182_0.out (by simp)); have n3_ := zj (KeepBut.blk hk (g' := gb193) (o := .cells #[u194000, u194001] 36 (0, 0)) (by (with_reducible repeat (first | refine za ?_ _ | refine zb ?_ | refine zc ?_ _)); exact BK193.out) NB193_0.out (by simp)); have n4_ := zj (KeepBut.trans (by repeat (first | (with_reducible first | exact HK.out | apply KeepBut.set_ | apply keep_drewN | apply keep_drew | apply keep_alloc | refine keep_far ?_ GW182.out _ | refine keep_far ?_ GW193.out _) | exact HK.out)) hk (.inl rfl)); have n5_ := zj (hb); have n6_ := zj (hi); clear HO_194000; clear HO_194001; clear BK182; clear BK193; clear HK; clear HB; clear HI0; have HO_194000 := n0_; have HO_194001 := n1_; have BK182 := n2_; have BK193 := n3_; have HK := n4_; have HB := n5_; have HI0 := n6_; clear n0_ n1_ n2_ n3_ n4_ n5_ n6_; (try clear hb); (try clear hb2); (try clear hk); (try clear hi)))
     have n0_ := zj (zf HO_194000.out)
     have n1_ := zj (zf HO_194001.out)
     have n2_ := zj (zb BK182.out)
     have n3_ := zj (zb BK193.out)
     have n4_ := zj (IsS146.drew HI0.out)
     have n5_ := zj (keep_drew HK.out)
     have n6_ := zj (zi HB.out)
     clear HO_194000
     clear HO_194001
     clear BK182
     clear BK193
     clear HI0
     clear HK
     clear HB
     have HO_194000 := n0_
     have HO_194001 := n1_
     have BK182 := n2_
     have BK193 := n3_
     have HI0 := n4_
     have HK := n5_
     have HB := n6_
     clear n0_ n1_ n2_ n3_ n4_ n5_ n6_
     refine start_ (n := 12) (S := fun w' => w'.cell? ⟨gb193, 0, none⟩ = some (u194000) ∧ w'.cell? ⟨gb193, 1, none⟩ = some (u194001)) (ds := [11]) #[false, false, false, false, false, false, false, false, false, false, false, false] (by kernel_rfl) rfl rfl ⟨(zq BK193.out 0).trans rfl, (zq BK193.out 1).trans rfl⟩ (fun hHeld => ?_); refine with_tabW spec_l03Disk.tab7 spec_l03Disk.bits7 (fun HT_ HW_ => ?_)
     generalize w34.drew = w35 at HO_194000 HO_194001 BK182 BK193 HI0 HK HB hHeld ⊢
     refine pure_ (i := 1) (N := some 25) (v := ?_) (a' := ?_) #[false, true, false, false, false, false, false, false, false, false, false, false] rfl rfl (any_of HT_.out (by kernel_rfl)) (fun _ _ _ h => h) (Or.inl ⟨by rfl, ?_⟩) ?_ ?_
     rotate_left
     ·intro w'
      go_simp
      with_reducible rfl
     rotate_left
     ·simp only [Act.put, List.setIfInBounds_toArray, List.set_cons_zero, List.set_cons_succ, i64_w, i32_w]
      rfl
     refine pure_ (i := 3) (N := some 27) (v := ?_) (a' := ?_) #[false, true, false, true, false, false, false, false, false, false, false, false] rfl rfl (any_of HT_.out (by kernel_rfl)) (fun _ _ _ h => h) (Or.inl ⟨by rfl, ?_⟩) ?_ ?_
     rotate_left
     ·intro w'
      go_simp
      with_reducible rfl
     rotate_left
     ·simp only [Act.put, List.setIfInBounds_toArray, List.set_cons_zero, List.set_cons_succ, i64_w, i32_w]
      rfl
     refine pure_ (i := 4) (N := some 28) (v := ?_) (a' := ?_) #[false, true, false, true, true, false, false, false, false, false, false, false] rfl rfl (any_of HT_.out (by kernel_rfl)) (fun _ _ _ h => h) (Or.inl ⟨by rfl, ?_⟩) ?_ ?_
     rotate_left
     ·intro w'
      go_simp
      with_reducible rfl
     rotate_left
     ·simp only [Act.put, List.setIfInBounds_toArray, List.set_cons_zero, List.set_cons_succ, i64_w, i32_w]
      rfl
     refine take_ (i := 0) (N := some 24) (v := ?_) (a' := ?_) #[true, true, false, true, true, false, false, false, false, false, false, false] rfl rfl (take_ofW HT_.out HW_.out (by kernel_rfl)) (fun _ _ _ h => h) (Or.inl ⟨by rfl, ?_⟩) hHeld ?_ ?_
     rotate_left
     ·rintro w' ⟨s0, s1⟩
      go_simp
      with_reducible rfl
     rotate_left
     ·simp only [Act.put, List.setIfInBounds_toArray, List.set_cons_zero, List.set_cons_succ, i64_w, i32_w]
      rfl
     refine one_ (i := 2) (N := some 26) #[true, true, true, true, true, false, false, false, false, false, false, false] rfl rfl (one_of HT_.out (by kernel_rfl)) (by decide) (fun K hK => ?_)
     refine goes_ Try.func74 (by kernel_rfl) rfl #[.pointer (some ⟨g, 0, none⟩), .int .i64 6] (by rfl) rfl rfl (by (try simp only [List.map_toArray, List.map_cons, List.map_nil]); first | done | rfl | (simp only [List.length_drop, List.length_take]; rfl)) ?_
     with_reducible refine (spec_l01Below.calls g s0_0 t198 t199 6 t206 t207 t208 w0 _ ?side1 ?side2 A29.out).mono ?_
     (case side1 => repeat (first | (with_reducible first | exact HI0.out | apply IsS146.alloc | apply IsS146.drewN | apply IsS146.drew | apply IsS146.set_1 | apply IsS146.set_2 | apply IsS146.far (hne := NB0_182.out) | apply IsS146.far (hne := NB0_193.out)) | apply IsS146.far (hne := NB0_182.out) | apply IsS146.far (hne := NB0_193.out) | exact HI0.out))
     (case side2 => repeat (first | (with_reducible first | exact HB.out | apply zg | apply zh | apply zi | refine zs ?_ (IsS146.ge HI0.out) | refine zs ?_ GE182.out | refine zs ?_ GE193.out) | exact HB.out))
     rintro e w36 ⟨rfl, hi, hb, hk⟩
     refine ⟨_, rfl, ?_⟩
     have n0_ := zj (zm (Kd.R_keep (IsS146.apart (show IsS146 w0 _ g s0_0 t198 t199 from by repeat (first | (with_reducible first | exact HI0.out | apply IsS146.alloc | apply IsS146.drewN | apply IsS146.drew | apply IsS146.set_1 | apply IsS146.set_2 | apply IsS146.far (hne := NB0_182.out) | apply IsS146.far (hne := NB0_193.out)) | apply IsS146.far (hne := NB0_182.out) | apply IsS146.far (hne := NB0_193.out) | exact HI0.out)) (by (with_reducible repeat (first | apply zd | apply ze | apply zf)); exact HO_194000.out) (by decide)) hk (fun _ h => h.2)) (fun _ h => h.1))
     have n1_ := zj (zm (Kd.R_keep (IsS146.apart (show IsS146 w0 _ g s0_0 t198 t199 from by repeat (first | (with_reducible first | exact HI0.out | apply IsS146.alloc | apply IsS146.drewN | apply IsS146.drew | apply IsS146.set_1 | apply IsS146.set_2 | apply IsS146.far (hne := NB0_182.out) | apply IsS146.far (hne := NB0_193.out)) | apply IsS146.far (hne := NB0_182.out) | apply IsS146.far (hne := NB0_193.out) | exact HI0.out)) (by (with_reducible repeat (first | apply zd | apply ze | apply zf)); exact HO_194001.out) (by decide)) hk (fun _ h => h.2)) (fun _ h => h.1))
     have n2_ := zj (KeepBut.blk hk (g' := gb182) (o := .cells #[.slice none 0 0, .slice none 0 0] 36 (0, 0)) (by (with_reducible repeat (first | refine za ?_ _ | refine zb ?_ | refine zc ?_ _)); exact BK182.out) NB182_0.out (by simp))
     have n3_ := zj (KeepBut.blk hk (g' := gb193) (o := .cells #[u194000, u194001] 36 (0, 0)) (by (with_reducible repeat (first | refine za ?_ _ | refine zb ?_ | refine zc ?_ _)); exact BK193.out) NB193_0.out (by simp))
     have n4_ := zj (KeepBut.trans (by repeat (first | (with_reducible first | exact HK.out | apply KeepBut.set_ | apply keep_drewN | apply keep_drew | apply keep_alloc | refine keep_far ?_ GW182.out _ | refine keep_far ?_ GW193.out _) | exact HK.out)) hk (.inl rfl))
     have n5_ := zj (hb)
     have n6_ := zj (hi)
     clear HO_194000
     clear HO_194001
     clear BK182
     clear BK193
     clear HK
     clear HB
     clear HI0
     have HO_194000 := n0_
     have HO_194001 := n1_
     have BK182 := n2_
     have BK193 := n3_
     have HK := n4_
     have HB := n5_
     have HI0 := n6_
     clear n0_ n1_ n2_ n3_ n4_ n5_ n6_
     (try clear hb)
     (try clear hb2)
     (try clear hk)
     (try clear hi)
     refine hK.out _ _ ⟨(zq BK193.out 0).trans rfl, (zq BK193.out 1).trans rfl⟩ (fun hHeld => ?_)
     clear hK K
     refine norm_ (a' := ?_) ?_ ?_
     rotate_left
     ·show Act.put _ (some 26) _ = _
      simp only [Act.put, List.setIfInBounds_toArray, List.set_cons_zero, List.set_cons_succ, i64_w, i32_w]
      rfl
     refine one_ (i := 5) (N := some 29) #[true, true, true, true, true, true, false, false, false, false, false, false] rfl rfl (one_of HT_.out (by kernel_rfl)) (by decide) (fun K hK => ?_)
     refine goes_ Try.func74 (by kernel_rfl) rfl #[.pointer (some ⟨g, 0, none⟩), .int .i64 6] (by rfl) rfl rfl (by (try simp only [List.map_toArray, List.map_cons, List.map_nil]); first | done | rfl | (simp only [List.length_drop, List.length_take]; rfl)) ?_
     with_reducible refine (spec_l01Below.calls g s0_0 t207 t208 6 t209 t210 t211 w0 _ ?side1 ?side2 A30.out).mono ?_
     (case side1 => repeat (first | (with_reducible first | exact HI0.out | apply IsS146.alloc | apply IsS146.drewN | apply IsS146.drew | apply IsS146.set_1 | apply IsS146.set_2 | apply IsS146.far (hne := NB0_182.out) | apply IsS146.far (hne := NB0_193.out)) | apply IsS146.far (hne := NB0_182.out) | apply IsS146.far (hne := NB0_193.out) | exact HI0.out))
     (case side2 => repeat (first | (with_reducible first | exact HB.out | apply zg | apply zh | apply zi | refine zs ?_ (IsS146.ge HI0.out) | refine zs ?_ GE182.out | refine zs ?_ GE193.out) | exact HB.out))
     rintro e w37 ⟨rfl, hi, hb, hk⟩
     refine ⟨_, rfl, ?_⟩
     have n0_ := zj (zm (Kd.R_keep (IsS146.apart (show IsS146 w0 _ g s0_0 t207 t208 from by repeat (first | (with_reducible first | exact HI0.out | apply IsS146.alloc | apply IsS146.drewN | apply IsS146.drew | apply IsS146.set_1 | apply IsS146.set_2 | apply IsS146.far (hne := NB0_182.out) | apply IsS146.far (hne := NB0_193.out)) | apply IsS146.far (hne := NB0_182.out) | apply IsS146.far (hne := NB0_193.out) | exact HI0.out)) (by (with_reducible repeat (first | apply zd | apply ze | apply zf)); exact HO_194000.out) (by decide)) hk (fun _ h => h.2)) (fun _ h => h.1))
     have n1_ := zj (zm (Kd.R_keep (IsS146.apart (show IsS146 w0 _ g s0_0 t207 t208 from by repeat (first | (with_reducible first | exact HI0.out | apply IsS146.alloc | apply IsS146.drewN | apply IsS146.drew | apply IsS146.set_1 | apply IsS146.set_2 | apply IsS146.far (hne := NB0_182.out) | apply IsS146.far (hne := NB0_193.out)) | apply IsS146.far (hne := NB0_182.out) | apply IsS146.far (hne := NB0_193.out) | exact HI0.out)) (by (with_reducible repeat (first | apply zd | apply ze | apply zf)); exact HO_194001.out) (by decide)) hk (fun _ h => h.2)) (fun _ h => h.1))
     have n2_ := zj (KeepBut.blk hk (g' := gb182) (o := .cells #[.slice none 0 0, .slice none 0 0] 36 (0, 0)) (by (with_reducible repeat (first | refine za ?_ _ | refine zb ?_ | refine zc ?_ _)); exact BK182.out) NB182_0.out (by simp))
     have n3_ := zj (KeepBut.blk hk (g' := gb193) (o := .cells #[u194000, u194001] 36 (0, 0)) (by (with_reducible repeat (first | refine za ?_ _ | refine zb ?_ | refine zc ?_ _)); exact BK193.out) NB193_0.out (by simp))
     have n4_ := zj (KeepBut.trans (by repeat (first | (with_reducible first | exact HK.out | apply KeepBut.set_ | apply keep_drewN | apply keep_drew | apply keep_alloc | refine keep_far ?_ GW182.out _ | refine keep_far ?_ GW193.out _) | exact HK.out)) hk (.inl rfl))
     have n5_ := zj (hb)
     have n6_ := zj (hi)
     clear HO_194000
     clear HO_194001
     clear BK182
     clear BK193
     clear HK
     clear HB
     clear HI0
     have HO_194000 := n0_
     have HO_194001 := n1_
     have BK182 := n2_
     have BK193 := n3_
     have HK := n4_
     have HB := n5_
     have HI0 := n6_
     clear n0_ n1_ n2_ n3_ n4_ n5_ n6_
     (try clear hb)
     (try clear hb2)
     (try clear hk)
     (try clear hi)
     refine hK.out _ _ ⟨(zq BK193.out 0).trans rfl, (zq BK193.out 1).trans rfl⟩ (fun hHeld => ?_)
     clear hK K
     refine norm_ (a' := ?_) ?_ ?_
     rotate_left
     ·show Act.put _ (some 29) _ = _
      simp only [Act.put, List.setIfInBounds_toArray, List.set_cons_zero, List.set_cons_succ, i64_w, i32_w]
      rfl
     refine one_ (i := 6) (N := some 30) #[true, true, true, true, true, true, true, false, false, false, false, false] rfl rfl (one_of HT_.out (by kernel_rfl)) (by decide) (fun K hK => ?_)
     refine goes_ Try.func120 (by kernel_rfl) rfl #[.pointer (some ⟨g, 0, none⟩), .int .i64 t209] (by rfl) rfl rfl (by (try simp only [List.map_toArray, List.map_cons, List.map_nil]); first | done | rfl | (simp only [List.length_drop, List.length_take]; rfl)) ?_
     with_reducible refine (spec_l01Text.calls k1 g s0_0 t210 t211 t209 t212 t213 t214 w0 _ ?side1 ?side2 A31.out).mono ?_
     (case side1 => repeat (first | (with_reducible first | exact HI0.out | apply IsS146.alloc | apply IsS146.drewN | apply IsS146.drew | apply IsS146.set_1 | apply IsS146.set_2 | apply IsS146.far (hne := NB0_182.out) | apply IsS146.far (hne := NB0_193.out)) | apply IsS146.far (hne := NB0_182.out) | apply IsS146.far (hne := NB0_193.out) | exact HI0.out))
     (case side2 => repeat (first | (with_reducible first | exact HB.out | apply zg | apply zh | apply zi | refine zs ?_ (IsS146.ge HI0.out) | refine zs ?_ GE182.out | refine zs ?_ GE193.out) | exact HB.out))
     rintro e w38 ⟨rfl, hi, hb, hk⟩
     refine ⟨_, rfl, ?_⟩
     have n0_ := zj (zm (Kd.R_keep (IsS146.apart (show IsS146 w0 _ g s0_0 t210 t211 from by repeat (first | (with_reducible first | exact HI0.out | apply IsS146.alloc | apply IsS146.drewN | apply IsS146.drew | apply IsS146.set_1 | apply IsS146.set_2 | apply IsS146.far (hne := NB0_182.out) | apply IsS146.far (hne := NB0_193.out)) | apply IsS146.far (hne := NB0_182.out) | apply IsS146.far (hne := NB0_193.out) | exact HI0.out)) (by (with_reducible repeat (first | apply zd | apply ze | apply zf)); exact HO_194000.out) (by decide)) hk (fun _ h => h.2)) (fun _ h => h.1))
     have n1_ := zj (zm (Kd.R_keep (IsS146.apart (show IsS146 w0 _ g s0_0 t210 t211 from by repeat (first | (with_reducible first | exact HI0.out | apply IsS146.alloc | apply IsS146.drewN | apply IsS146.drew | apply IsS146.set_1 | apply IsS146.set_2 | apply IsS146.far (hne := NB0_182.out) | apply IsS146.far (hne := NB0_193.out)) | apply IsS146.far (hne := NB0_182.out) | apply IsS146.far (hne := NB0_193.out) | exact HI0.out)) (by (with_reducible repeat (first | apply zd | apply ze | apply zf)); exact HO_194001.out) (by decide)) hk (fun _ h => h.2)) (fun _ h => h.1))
     have n2_ := zj (KeepBut.blk hk (g' := gb182) (o := .cells #[.slice none 0 0, .slice none 0 0] 36 (0, 0)) (by (with_reducible repeat (first | refine za ?_ _ | refine zb ?_ | refine zc ?_ _)); exact BK182.out) NB182_0.out (by simp))
     have n3_ := zj (KeepBut.blk hk (g' := gb193) (o := .cells #[u194000, u194001] 36 (0, 0)) (by (with_reducible repeat (first | refine za ?_ _ | refine zb ?_ | refine zc ?_ _)); exact BK193.out) NB193_0.out (by simp))
     have n4_ := zj (KeepBut.trans (by repeat (first | (with_reducible first | exact HK.out | apply KeepBut.set_ | apply keep_drewN | apply keep_drew | apply keep_alloc | refine keep_far ?_ GW182.out _ | refine keep_far ?_ GW193.out _) | exact HK.out)) hk (.inl rfl))
     have n5_ := zj (hb)
     have n6_ := zj (hi)
     clear HO_194000
     clear HO_194001
     clear BK182
     clear BK193
     clear HK
     clear HB
     clear HI0
     have HO_194000 := n0_
     have HO_194001 := n1_
     have BK182 := n2_
     have BK193 := n3_
     have HK := n4_
     have HB := n5_
     have HI0 := n6_
     clear n0_ n1_ n2_ n3_ n4_ n5_ n6_
     (try clear hb)
     (try clear hb2)
     (try clear hk)
     (try clear hi)
     obtain ⟨Ao39, co39, eo39⟩ := Kd.R_slice HO_194000.out
     (first | subst eo39 | (injection eo39 with f1_ f2_ f3_; have f4_ := f1_.symm; have f5_ := f3_.symm; clear f1_ f2_ f3_; subst f4_; subst f5_))
     obtain ⟨Ao40, co40, eo40⟩ := Kd.R_slice HO_194001.out
     (first | subst eo40 | (injection eo40 with f1_ f2_ f3_; have f4_ := f1_.symm; have f5_ := f3_.symm; clear f1_ f2_ f3_; subst f4_; subst f5_))
     refine hK.out _ _ ⟨(zq BK193.out 0).trans rfl, (zq BK193.out 1).trans rfl⟩ (fun hHeld => ?_)
     clear hK K
     refine norm_ (a' := ?_) ?_ ?_
     rotate_left
     ·show Act.put _ (some 30) _ = _
      simp only [Act.put, List.setIfInBounds_toArray, List.set_cons_zero, List.set_cons_succ, i64_w, i32_w]
      rfl
     refine one_ (i := 7) (N := some 31) #[true, true, true, true, true, true, true, true, false, false, false, false] rfl rfl (one_of HT_.out (by kernel_rfl)) (by decide) (fun K hK => ?_)
     refine goes_ Try.func51 (by kernel_rfl) rfl #[.agg #[.slice Ao39 x194000_1.length co39, .slice Ao40 x194001_1.length co40], .int .i64 t206, .string t212] (by rfl) rfl rfl (by (try simp only [List.map_toArray, List.map_cons, List.map_nil]); first | done | rfl | (simp only [List.length_drop, List.length_take]; rfl)) ?_
     with_reducible refine (spec_WritePage.calls k1 _ _ x194000_1 _ _ x194001_1 t206 t212 t215 t218 t221 _ ?side1 ?side2 ?side3 ?side4 A32.out).mono ?_
     (case side1 => repeat (first | exact (Kd.R_reads' HO_194000.out).2.2 | (with_reducible refine Kd.C_alloc ?_ _) | (with_reducible refine Kd.C_drewN ?_ _) | (with_reducible refine Kd.C_drew ?_)))
     (case side2 => exact (Kd.R_reads' HO_194000.out).2.1)
     (case side3 => repeat (first | exact (Kd.R_reads' HO_194001.out).2.2 | (with_reducible refine Kd.C_alloc ?_ _) | (with_reducible refine Kd.C_drewN ?_ _) | (with_reducible refine Kd.C_drew ?_)))
     (case side4 => exact (Kd.R_reads' HO_194001.out).2.1)
     rintro e w41 ⟨v216, v219, rfl, ho0, ho1, hb⟩
     refine ⟨_, rfl, ?_⟩
     have n0_ := zj (Kd.R_elder' (by (with_reducible repeat (first | apply zd | apply ze | apply zf)); exact HO_194000.out) (Kd.R_base ho0) hb)
     have n1_ := zj (Kd.R_elder' (by (with_reducible repeat (first | apply zd | apply ze | apply zf)); exact HO_194001.out) (Kd.R_base ho1) hb)
     have n2_ := zj (Kd.R_lower (Kd.R_new' ho0 (Kd.R_lt (by (with_reducible repeat (first | apply zd | apply ze | apply zf)); exact HO_194000.out))) (keep_size (w := w) (g := g) (row := none) (by repeat (first | (with_reducible first | exact HK.out | apply KeepBut.set_ | apply keep_drewN | apply keep_drew | apply keep_alloc | refine keep_far ?_ GW182.out _ | refine keep_far ?_ GW193.out _) | exact HK.out))))
     have n3_ := zj (Kd.R_lower (Kd.R_new' ho1 (Kd.R_lt (by (with_reducible repeat (first | apply zd | apply ze | apply zf)); exact HO_194001.out))) (keep_size (w := w) (g := g) (row := none) (by repeat (first | (with_reducible first | exact HK.out | apply KeepBut.set_ | apply keep_drewN | apply keep_drew | apply keep_alloc | refine keep_far ?_ GW182.out _ | refine keep_far ?_ GW193.out _) | exact HK.out))))
     have n4_ := zj (zo (g := gb182) (o := .cells #[.slice none 0 0, .slice none 0 0] 36 (0, 0)) (by (with_reducible repeat (first | refine za ?_ _ | refine zb ?_ | refine zc ?_ _)); exact BK182.out) hb)
     have n5_ := zj (zo (g := gb193) (o := .cells #[.slice Ao39 x194000_1.length co39, .slice Ao40 x194001_1.length co40] 36 (0, 0)) (by (with_reducible repeat (first | refine za ?_ _ | refine zb ?_ | refine zc ?_ _)); exact BK193.out) hb)
     have n6_ := zj (IsS146.below (by repeat (first | (with_reducible first | exact HI0.out | apply IsS146.alloc | apply IsS146.drewN | apply IsS146.drew | apply IsS146.set_1 | apply IsS146.set_2 | apply IsS146.far (hne := NB0_182.out) | apply IsS146.far (hne := NB0_193.out)) | apply IsS146.far (hne := NB0_182.out) | apply IsS146.far (hne := NB0_193.out) | exact HI0.out)) hb)
     have n7_ := zj (KeepBut.trans (by repeat (first | (with_reducible first | exact HK.out | apply KeepBut.set_ | apply keep_drewN | apply keep_drew | apply keep_alloc | refine keep_far ?_ GW182.out _ | refine keep_far ?_ GW193.out _) | exact HK.out)) (KeepBut.of_below hb g none) (.inl rfl))
     have n8_ := zj (zl (by repeat (first | (with_reducible first | exact HB.out | apply zg | apply zh | apply zi | refine zs ?_ (IsS146.ge HI0.out) | refine zs ?_ GE182.out | refine zs ?_ GE193.out) | exact HB.out)) hb)
     clear HO_194000
     clear HO_194001
     clear BK182
     clear BK193
     clear HI0
     clear HK
     clear HB
     have HO_194000 := n0_
     have HO_194001 := n1_
     have HO217 := n2_
     have HO220 := n3_
     have BK182 := n4_
     have BK193 := n5_
     have HI0 := n6_
     have HK := n7_
     have HB := n8_
     clear n0_ n1_ n2_ n3_ n4_ n5_ n6_ n7_ n8_
     (try clear hb)
     (try clear hb2)
     (try clear hk)
     (try clear hi)
     (try clear ho0)
     (try clear ho1)
     obtain ⟨Ao42, co42, eo42⟩ := Kd.R_slice HO217.out
     (first | subst eo42 | (injection eo42 with f1_ f2_ f3_; have f4_ := f1_.symm; have f5_ := f3_.symm; clear f1_ f2_ f3_; subst f4_; subst f5_))
     obtain ⟨Ao44, co44, eo44⟩ := Kd.R_slice HO220.out
     (first | subst eo44 | (injection eo44 with f1_ f2_ f3_; have f4_ := f1_.symm; have f5_ := f3_.symm; clear f1_ f2_ f3_; subst f4_; subst f5_))
     refine hK.out _ _ ⟨(zq BK193.out 0).trans rfl, (zq BK193.out 1).trans rfl⟩ (fun hHeld => ?_)
     clear hK K
     refine norm_ (a' := ?_) ?_ ?_
     rotate_left
     ·show Act.put _ (some 31) _ = _
      simp only [Act.put, List.setIfInBounds_toArray, List.set_cons_zero, List.set_cons_succ, i64_w, i32_w]
      rfl
     refine pure_ (i := 8) (N := some 23) (v := ?_) (a' := ?_) #[true, true, true, true, true, true, true, true, true, false, false, false] rfl rfl (any_of HT_.out (by kernel_rfl)) (fun _ _ _ h => h) (Or.inl ⟨by rfl, ?_⟩) ?_ ?_
     rotate_left
     ·intro w'
      go_simp
      with_reducible rfl
     rotate_left
     ·simp only [Act.put, List.setIfInBounds_toArray, List.set_cons_zero, List.set_cons_succ, i64_w, i32_w]
      rfl
     refine pure_ (i := 9) (N := some 32) (v := ?_) (a' := ?_) #[true, true, true, true, true, true, true, true, true, true, false, false] rfl rfl (any_of HT_.out (by kernel_rfl)) (fun _ _ _ h => h) (Or.inl ⟨by rfl, ?_⟩) ?_ ?_
     rotate_left
     ·intro w'
      go_simp
      with_reducible rfl
     rotate_left
     ·simp only [Act.put, List.setIfInBounds_toArray, List.set_cons_zero, List.set_cons_succ, i64_w, i32_w]
      rfl
     refine pure_ (i := 10) (N := some 33) (v := ?_) (a' := ?_) #[true, true, true, true, true, true, true, true, true, true, true, false] rfl rfl (any_of HT_.out (by kernel_rfl)) (fun _ _ _ h => h) (Or.inl ⟨by rfl, ?_⟩) ?_ ?_
     rotate_left
     ·intro w'
      go_simp
      with_reducible rfl
     rotate_left
     ·simp only [Act.put, List.setIfInBounds_toArray, List.set_cons_zero, List.set_cons_succ, i64_w, i32_w]
      rfl
     refine last_ (i := 11) (N := none) #[true, true, true, true, true, true, true, true, true, true, true, true] rfl rfl (one_of HT_.out (by kernel_rfl)) (by decide) (fun K hK => ?_)
     have hs43 : w41.cell? ⟨gb193, 0, none⟩ = some (.slice Ao39 x194000_1.length co39) := (zq BK193.out 0).trans rfl
     have hfs43 := zv BK193.out 0
     have hns43_0 := NB182_193.out
     have hms43_0 := NB193_182.out
     have hs45 : w41.cell? ⟨gb193, 1, none⟩ = some (.slice Ao40 x194001_1.length co40) := (zq BK193.out 1).trans rfl
     have hfs45 := zv BK193.out 1
     have hns45_0 := NB182_193.out
     have hms45_0 := NB193_182.out
     refine skip_ (w1 := ?_) (by rfl) rfl ?_ ?_
     rotate_left
     ·go_simp
      rfl
     refine hK.out _ _ ?_
     clear hK K
     refine done_ (done_of HT_.out (by kernel_rfl)) ?_
     try go_wp2
     go_roundg k1
     case measure => have := HK1.out; omega
     case rel => exact ⟨(wrap64 (x5_1 + 1)), (t213), (t214), (t215), (t218), (.slice Ao42 t215.length co42), (.slice Ao44 t218.length co44), (by first | rfl | (simp; done) | (simp [*]; done)), H', ⟨by have := HK1.out; omega⟩, ⟨by (with_reducible repeat (first | apply zd | apply ze | apply zf)); exact zm (zn (p := ⟨gb193, 1, none⟩) (zn (p := ⟨gb193, 0, none⟩) (zu HO217.out BK193.out (by decide)) (fun _ hk => hk.2) (.slice Ao42 t215.length co42)) (fun _ hk => hk.2) (.slice Ao44 t218.length co44)) (fun _ hk => trivial)⟩, ⟨by (with_reducible repeat (first | apply zd | apply ze | apply zf)); exact zm (zn (p := ⟨gb193, 1, none⟩) (zn (p := ⟨gb193, 0, none⟩) (zu HO220.out BK193.out (by decide)) (fun _ hk => hk.2) (.slice Ao42 t215.length co42)) (fun _ hk => hk.2) (.slice Ao44 t218.length co44)) (fun _ hk => trivial)⟩, ⟨by (with_reducible repeat (first | refine za ?_ _ | refine zb ?_ | refine zc ?_ _)); refine zr ?_ NB182_193.out _; (with_reducible repeat (first | refine za ?_ _ | refine zb ?_ | refine zc ?_ _)); refine zr ?_ NB182_193.out _; (with_reducible repeat (first | refine za ?_ _ | refine zb ?_ | refine zc ?_ _)); exact BK182.out⟩, ⟨by (with_reducible repeat (first | refine za ?_ _ | refine zb ?_ | refine zc ?_ _)); refine zp (cs := #[.slice Ao42 t215.length co42, .slice Ao40 x194001_1.length co40]) ?_ 1 _ rfl; (with_reducible repeat (first | refine za ?_ _ | refine zb ?_ | refine zc ?_ _)); refine zp (cs := #[.slice Ao39 x194000_1.length co39, .slice Ao40 x194001_1.length co40]) ?_ 0 _ rfl; (with_reducible repeat (first | refine za ?_ _ | refine zb ?_ | refine zc ?_ _)); exact BK193.out⟩, ⟨by repeat (first | (with_reducible first | exact HI0.out | apply IsS146.alloc | apply IsS146.drewN | apply IsS146.drew | apply IsS146.set_1 | apply IsS146.set_2 | apply IsS146.far (hne := NB0_182.out) | apply IsS146.far (hne := NB0_193.out)) | apply IsS146.far (hne := NB0_182.out) | apply IsS146.far (hne := NB0_193.out) | exact HI0.out)⟩, ⟨by repeat (first | (with_reducible first | exact HK.out | apply KeepBut.set_ | apply keep_drewN | apply keep_drew | apply keep_alloc | refine keep_far ?_ GW182.out _ | refine keep_far ?_ GW193.out _) | exact HK.out)⟩, ⟨by repeat (first | (with_reducible first | exact HB.out | apply zg | apply zh | apply zi | refine zs ?_ (IsS146.ge HI0.out) | refine zs ?_ GE182.out | refine zs ?_ GE193.out) | exact HB.out)⟩⟩
   ·rw [if_neg c14] at H
    have c14b0 : decide (x5_1 < t194) = false := decide_eq_false c14
    clear c14
    simp only [Option.some.injEq, Prod.mk.injEq] at H
    obtain ⟨rfl, rfl, rfl, rfl⟩ := H
    go_wp2_with (first | ((with_reducible refine gate_callee (f := 74) rfl ?_); refine goesL_ (some 15) rfl rfl Try.func74 (by kernel_rfl) rfl #[.pointer (some ⟨g, 0, none⟩), .int .i64 9] rfl (by (try simp only [List.map_toArray, List.map_cons, List.map_nil]); first | done | rfl | (simp only [List.length_drop, List.length_take]; rfl)) ?_; (with_reducible refine (spec_l01Below.calls g s0_0 x1001_1 x1002_1 9 t194 t195 t196 w0 _ ?side1 ?side2 A13.out).mono ?_); (case side1 => repeat (first | (with_reducible first | exact HI0.out | apply IsS146.alloc | apply IsS146.drewN | apply IsS146.drew | apply IsS146.set_1 | apply IsS146.set_2 | apply IsS146.far (hne := NB0_182.out) | apply IsS146.far (hne := NB0_193.out)) | apply IsS146.far (hne := NB0_182.out) | apply IsS146.far (hne := NB0_193.out) | exact HI0.out)); (case side2 => repeat (first | (with_reducible first | exact HB.out | apply zg | apply zh | apply zi | refine zs ?_ (IsS146.ge HI0.out) | refine zs ?_ GE182.out | refine zs ?_ GE193.out) | exact HB.out)); rintro e w46 ⟨rfl, hi, hb, hk⟩; refine ⟨_, rfl, ?_⟩; have n0_ := zj (zm (Kd.R_keep (IsS146.apart (show IsS146 w0 _ g s0_0 x1001_1 x1002_1 from by repeat (first | (with_reducible first | exact HI0.out | apply IsS146.alloc | apply IsS146.drewN | apply IsS146.drew | apply IsS146.set_1 | apply IsS146.set_2 | apply IsS146.far (hne := NB0_182.out) | apply IsS146.far (hne := NB0_193.out)) | apply IsS146.far (hne := NB0_182.out) | apply IsS146.far (hne := NB0_193.out) | exact HI0.out)) (by (with_reducible repeat (first | apply zd | apply ze | apply zf)); exact HO_194000.out) (by decide)) hk (fun _ h => h.2)) (fun _ h => h.1)); have n1_ := zj (zm (Kd.R_keep (IsS146.apart (show IsS146 w0 _ g s0_0 x1001_1 x1002_1 from by repeat (first | (with_reducible first | exact HI0.out | apply IsS146.alloc | apply IsS146.drewN | apply IsS146.drew | apply IsS146.set_1 | apply IsS146.set_2 | apply IsS146.far (hne := NB0_182.out) | apply IsS146.far (hne := NB0_193.out)) | apply IsS146.far (hne := NB0_182.out) | apply IsS146.far (hne := NB0_193.out) | exact HI0.out)) (by (with_reducible repeat (first | apply zd | apply ze | apply zf)); exact HO_194001.out) (by decide)) hk (fun _ h => h.2)) (fun _ h => h.1)); have n2_ := zj (KeepBut.blk hk (g' := gb182) (o := .cells #[.slice none 0 0, .slice none 0 0] 36 (0, 0)) (by (with_reducible repeat (first | refine za ?_ _ | refine zb ?_ | refine zc ?_ _)); exact BK182.out) NB182_0.out (by simp)); have n3_ := zj (KeepBut.blk hk (g' := gb193) (o := .cells #[u194000, u194001] 36 (0, 0)) (by (with_reducible repeat (first | refine za ?_ _ | refine zb ?_ | refine zc ?_ _)); exact BK193.out) NB193_0.out (by simp)); have n4_ := zj (KeepBut.trans (by repeat (first | (with_reducible first | exact HK.out | apply KeepBut.set_ | apply keep_drewN | apply keep_drew | apply keep_alloc | refine keep_far ?_ GW182.out _ | refine keep_far ?_ GW193.out _) | exact HK.out)) hk (.inl rfl)); have n5_ := zj (hb); have n6_ := zj (hi); clear HO_194000; clear HO_194001; clear BK182; clear BK193; clear HK; clear HB; clear HI0; have HO_194000 := n0_; have HO_194001 := n1_; have BK182 := n2_; have BK193 := n3_; have HK := n4_; have HB := n5_; have HI0 := n6_; clear n0_ n1_ n2_ n3_ n4_ n5_ n6_; (try clear hb); (try clear hb2); (try clear hk); (try clear hi); have hnb47 := NB193_182.out; have hnc47 := NB182_193.out; have hnb48 := NB193_0.out; have hnc48 := NB0_193.out; have hcz49_0 : w46.cell? ⟨gb193, 0, none⟩ = some (u194000) := (zq BK193.out 0).trans rfl; have hcz49_1 : w46.cell? ⟨gb193, 1, none⟩ = some (u194001) := (zq BK193.out 1).trans rfl; have hfz49_0 := zv BK193.out 0; have hfz49_1 := zv BK193.out 1; obtain ⟨Ao50, co50, eo50⟩ := Kd.R_slice HO_194000.out; subst eo50; have hnb51 := NB182_0.out; have hnc51 := NB0_182.out; have hcz52_0 : w46.cell? ⟨gb182, 0, none⟩ = some (.slice none 0 0) := (zq BK182.out 0).trans rfl; have hcz52_1 : w46.cell? ⟨gb182, 1, none⟩ = some (.slice none 0 0) := (zq BK182.out 1).trans rfl; have hfz52_0 := zv BK182.out 0; have hfz52_1 := zv BK182.out 1; obtain ⟨Ao53, co53, eo53⟩ := Kd.R_slice HO_194001.out; subst eo53))
    refine bodyPost_ret (results_cell_row rfl _ _ gb182 36 #[.slice Ao50 x194000_1.length co50, .slice Ao53 x194001_1.length co53] (0, 0) _ rfl (by (with_reducible repeat (first | refine za ?_ _ | refine zb ?_ | refine zc ?_ _)); refine zp (cs := #[.slice Ao50 x194000_1.length co50, .slice none 0 0]) ?_ 1 _ rfl; (with_reducible repeat (first | refine za ?_ _ | refine zb ?_ | refine zc ?_ _)); refine zp (cs := #[.slice none 0 0, .slice none 0 0]) ?_ 0 _ rfl; (with_reducible repeat (first | refine za ?_ _ | refine zb ?_ | refine zc ?_ _)); exact BK182.out) Try.underlying36 rfl (by kernel_rfl)) rfl ?_
    exact ⟨_, _, by first | rfl | (simp [errW_none, errW_some] <;> rfl) | (simp [*, errW_none, errW_some] <;> rfl), by (with_reducible repeat (first | apply zd | apply ze | apply zf)); exact zm (zn (p := ⟨gb182, 1, none⟩) (zn (p := ⟨gb182, 0, none⟩) (zu HO_194000.out BK182.out (by decide)) (fun _ hk => hk.2) (.slice Ao50 x194000_1.length co50)) (fun _ hk => hk.2) (.slice Ao53 x194001_1.length co53)) (fun _ hk => trivial), by (with_reducible repeat (first | apply zd | apply ze | apply zf)); exact zm (zn (p := ⟨gb182, 1, none⟩) (zn (p := ⟨gb182, 0, none⟩) (zu HO_194001.out BK182.out (by decide)) (fun _ hk => hk.2) (.slice Ao50 x194000_1.length co50)) (fun _ hk => hk.2) (.slice Ao53 x194001_1.length co53)) (fun _ hk => trivial), by repeat (first | (with_reducible first | exact HI0.out | apply IsS146.alloc | apply IsS146.drewN | apply IsS146.drew | apply IsS146.set_1 | apply IsS146.set_2 | apply IsS146.far (hne := NB0_182.out) | apply IsS146.far (hne := NB0_193.out)) | apply IsS146.far (hne := NB0_182.out) | apply IsS146.far (hne := NB0_193.out) | exact HI0.out), by repeat (first | (with_reducible first | exact HB.out | apply zg | apply zh | apply zi | refine zs ?_ (IsS146.ge HI0.out) | refine zs ?_ GE182.out | refine zs ?_ GE193.out) | exact HB.out), by repeat (first | (with_reducible first | exact HK.out | apply KeepBut.set_ | apply keep_drewN | apply keep_drew | apply keep_alloc | refine keep_far ?_ GW182.out _ | refine keep_far ?_ GW193.out _) | exact HK.out)⟩

/-! ### spec_l01New: function 72 -/
def spec_l01New.l0 : Nat → List Int → Int → Int → Option (List Int × Int × Int)
 | 0, _, _, _ => none
 | k + 1, x0, x3, x4 => if x4 < (x0.length : Int) then (if x4 < 4000 then (if 0 ≤ x4 then (spec_l01New.l0 k x0 (Go.bits .and .i64 (wrap64 ((wrap64 ((wrap64 (x3 * 131)) + (wrap64 (rd x0 x4)))) + 7)) 1073741823) (wrap64 (x4 + 1))) else (none)) else (some (x0, 0, x3))) else (some (x0, 0, x3))
def spec_l01New.f (k : Nat) (l0 : List Int) : Option (List Int × Int × Int) := spec_l01New.l0 k l0 (wrap64 (38301 + (l0.length : Int))) 0
theorem spec_l01New.mono_l : ∀ k, (∀ y0 y1 y2, LeO (spec_l01New.l0 k y0 y1 y2) (spec_l01New.l0 (k + 1) y0 y1 y2))
 | 0 => fun _ _ _ r h => by simp [spec_l01New.l0] at h
 | k + 1 => by
  have ih0 := spec_l01New.mono_l k
  ·intro y0 y1 y2
   unfold spec_l01New.l0
   repeat' first
   | (with_reducible exact ih0 _ _ _)
   | (with_reducible exact LeO.refl _)
   | (with_reducible exact LeO.none _)
   | (with_reducible refine LeO.ite ?_ ?_)
   | (with_reducible refine LeO.bind ?_ (fun _ => ?_))
   | exact ih0 _ _ _
   | exact LeO.none _
   | refine LeO.ite ?_ ?_
   | refine LeO.bind ?_ (fun _ => ?_)
theorem spec_l01New.mono : ∀ a0 k, LeO (spec_l01New.f k a0) (spec_l01New.f (k + 1) a0) := by
 intro a0 k
 have ih0 := spec_l01New.mono_l k
 unfold spec_l01New.f
 repeat' first
   | (with_reducible exact ih0 _ _ _)
   | (with_reducible exact LeO.refl _)
   | (with_reducible exact LeO.none _)
   | (with_reducible refine LeO.ite ?_ ?_)
   | (with_reducible refine LeO.bind ?_ (fun _ => ?_))
   | exact ih0 _ _ _
   | exact LeO.none _
   | refine LeO.ite ?_ ?_
   | refine LeO.bind ?_ (fun _ => ?_)
set_option maxHeartbeats 8000000 in
set_option maxRecDepth 100000 in
theorem spec_l01New.calls (k : Nat) (A0 : Option Addr) (c0 : Nat) (l0 : List Int) (r1 : List Int) (r2 : Int) (r3 : Int) (w0 w : World) (hB : Below w0.heap.size w0 w) (hr0 : Kd.C (Kd.int .u8) w0 A0 l0.length l0) (hc0 : l0.length ≤ c0) (h : spec_l01New.f k l0 = some (r1, r2, r3)) :
  Calls Try.prog 72 #[.slice A0 l0.length c0] w fun e w' => ∃ g_ : Nat, e = .returned (.pointer (some ⟨g_, 0, none⟩)) ∧ IsS146 w0 w' g_ r1 r2 r3 ∧ Below w0.heap.size w0 w' ∧ Below w.heap.size w w' := by
 have hu146 := Try.underlying146
 have HR0 := zj hr0
 have HC0 := zj hc0
 clear hr0 hc0
 have HBW := zj (Below.refl w.heap.size w)
 have HW0 := zj hB.size
 have HB := zj hB
 clear hB
 have H : (spec_l01New.l0 k l0 (wrap64 (38301 + (l0.length : Int))) 0) = some (r1, r2, r3) := h
 clear h
 have H' := zj H
 clear H
 go_enter Try.func72, Try.ntmps72
 go_wp2
 go_loopg [3, 4] k (fun kq v3 v4 w' => ∃ (x3_1 : Int) (x4_1 : Int), v3 = .int .i64 x3_1 ∧ v4 = .int .i64 x4_1 ∧ Aside0 (spec_l01New.l0 kq l0 x3_1 x4_1 = some (r1, r2, r3)) ∧ Aside0 (kq ≤ k) ∧ Aside0 (Below w.heap.size w w') ∧ Aside0 (Below w0.heap.size w0 w'))
 case atStart => exact ⟨(wrap64 (38301 + (l0.length : Int))), (0), (by first | rfl | (simp; done) | (simp [*]; done)), (by first | rfl | (simp; done) | (simp [*]; done)), H', ⟨Nat.le_refl _⟩, ⟨by repeat (first | (with_reducible first | exact HBW.out | apply zg | apply zh | apply zi) | exact HBW.out)⟩, ⟨by repeat (first | (with_reducible first | exact HB.out | apply zg | apply zh | apply zi) | exact HB.out)⟩⟩
 case round =>
  clear H'
  obtain ⟨x3_1, x4_1, rfl, rfl, HA, HK1, HBW, HB⟩ := hrel
  cases gk with
  | zero => exact absurd HA.out (by simp [spec_l01New.l0])
  | succ k1 =>
   have H := HA.out
   clear HA
   simp only [spec_l01New.l0] at H
   by_cases c2 : x4_1 < (l0.length : Int)
   ·rw [if_pos c2] at H
    have c2b0 : decide (x4_1 < (l0.length : Int)) = true := decide_eq_true c2
    clear c2
    by_cases c3 : x4_1 < 4000
    ·rw [if_pos c3] at H
     have c3b0 : decide (x4_1 < 4000) = true := decide_eq_true c3
     clear c3
     by_cases c4 : 0 ≤ x4_1
     ·rw [if_pos c4] at H
      have c4b0 : decide (0 ≤ x4_1) = true := decide_eq_true c4
      clear c4
      have H' := zj H
      clear H
      have p222 : 0 ≤ (x4_1 : Int) := of_decide_eq_true (by first | (with_reducible assumption) | assumption)
      have q222 : x4_1 < (l0.length : Int) := of_decide_eq_true (by first | (with_reducible assumption) | assumption)
      obtain ⟨ad222, e222, hx222_0⟩ := Kd.at_int HR0.out x4_1 p222 q222
      cases e222
      replace hx222_0 := pw_cell_below HB.out hx222_0
      replace p222 := eq_true p222
      replace q222 := eq_true q222
      go_wp2
      go_roundg k1
      case measure => have := HK1.out; omega
      case rel => exact ⟨(Go.bits .and .i64 (wrap64 ((wrap64 ((wrap64 (x3_1 * 131)) + (wrap64 (rd l0 x4_1)))) + 7)) 1073741823), (wrap64 (x4_1 + 1)), (by first | rfl | (simp; done) | (simp [*]; done)), (by first | rfl | (simp; done) | (simp [*]; done)), H', ⟨by have := HK1.out; omega⟩, ⟨by repeat (first | (with_reducible first | exact HBW.out | apply zg | apply zh | apply zi) | exact HBW.out)⟩, ⟨by repeat (first | (with_reducible first | exact HB.out | apply zg | apply zh | apply zi) | exact HB.out)⟩⟩
     ·rw [if_neg c4] at H
      exact absurd H (by simp)
    ·rw [if_neg c3] at H
     have c3b0 : decide (x4_1 < 4000) = false := decide_eq_false c3
     clear c3
     simp only [Option.some.injEq, Prod.mk.injEq] at H
     obtain ⟨rfl, rfl, rfl⟩ := H
     go_wp2_with (first | ((with_reducible refine gate_dst (N := 31) rfl ?_); refine box_event ?hg (N := 31) ?hd (cs := #[.slice A0 l0.length c0, .int .i64 0, .int .i64 x3_1]) (t := 146) ?hr ?_; (case hd => rfl); (case hg => rfl); (case hr => first | (go_simp; done) | (go_simp; rfl)); intro gb223 hg w5 hbox hb; have n0_ := zj (zl HBW.out hb); have n1_ := zj (zl (by repeat (first | (with_reducible first | exact HB.out | apply zg | apply zh | apply zi) | exact HB.out)) hb); have n2_ := zj (hbox); have n3_ := zj ((by rw [hg]; exact (zk (by repeat (first | (with_reducible first | exact HBW.out | apply zg | apply zh | apply zi) | exact HBW.out))) : w.heap.size ≤ gb223)); have n4_ := zj ((Nat.le_trans HW0.out (by rw [hg]; exact (zk (by repeat (first | (with_reducible first | exact HBW.out | apply zg | apply zh | apply zi) | exact HBW.out))) : w.heap.size ≤ gb223) : w0.heap.size ≤ gb223)); clear HBW; clear HB; have HBW := n0_; have HB := n1_; have BK223 := n2_; have GW223 := n3_; have GE223 := n4_; clear n0_ n1_ n2_ n3_ n4_; clear hb hbox hg))
     go_ret
     exact ⟨_, rfl, (show IsS146 w0 _ gb223 l0 0 x3_1 from ⟨_, _, by (with_reducible repeat (first | refine za ?_ _ | refine zb ?_ | refine zc ?_ _)); exact BK223.out, GE223.out, HR0.out⟩), by repeat (first | (with_reducible first | exact HB.out | apply zg | apply zh | apply zi | refine zs ?_ GE223.out) | exact HB.out), by repeat (first | (with_reducible first | exact HBW.out | apply zg | apply zh | apply zi | refine zs ?_ GW223.out) | exact HBW.out)⟩
   ·rw [if_neg c2] at H
    have c2b0 : decide (x4_1 < (l0.length : Int)) = false := decide_eq_false c2
    clear c2
    simp only [Option.some.injEq, Prod.mk.injEq] at H
    obtain ⟨rfl, rfl, rfl⟩ := H
    go_wp2_with (first | ((with_reducible refine gate_dst (N := 31) rfl ?_); refine box_event ?hg (N := 31) ?hd (cs := #[.slice A0 l0.length c0, .int .i64 0, .int .i64 x3_1]) (t := 146) ?hr ?_; (case hd => rfl); (case hg => rfl); (case hr => first | (go_simp; done) | (go_simp; rfl)); intro gb224 hg w6 hbox hb; have n0_ := zj (zl HBW.out hb); have n1_ := zj (zl (by repeat (first | (with_reducible first | exact HB.out | apply zg | apply zh | apply zi) | exact HB.out)) hb); have n2_ := zj (hbox); have n3_ := zj ((by rw [hg]; exact (zk (by repeat (first | (with_reducible first | exact HBW.out | apply zg | apply zh | apply zi) | exact HBW.out))) : w.heap.size ≤ gb224)); have n4_ := zj ((Nat.le_trans HW0.out (by rw [hg]; exact (zk (by repeat (first | (with_reducible first | exact HBW.out | apply zg | apply zh | apply zi) | exact HBW.out))) : w.heap.size ≤ gb224) : w0.heap.size ≤ gb224)); clear HBW; clear HB; have HBW := n0_; have HB := n1_; have BK224 := n2_; have GW224 := n3_; have GE224 := n4_; clear n0_ n1_ n2_ n3_ n4_; clear hb hbox hg))
    go_ret
    exact ⟨_, rfl, (show IsS146 w0 _ gb224 l0 0 x3_1 from ⟨_, _, by (with_reducible repeat (first | refine za ?_ _ | refine zb ?_ | refine zc ?_ _)); exact BK224.out, GE224.out, HR0.out⟩), by repeat (first | (with_reducible first | exact HB.out | apply zg | apply zh | apply zi | refine zs ?_ GE224.out) | exact HB.out), by repeat (first | (with_reducible first | exact HBW.out | apply zg | apply zh | apply zi | refine zs ?_ GW224.out) | exact HBW.out)⟩

/-! ### spec_DrawDisk: function 19 -/
def spec_DrawDisk.f (k : Nat) (l0 : List Int) : Option (List ByteArray × (List (S74))) := (spec_l01New.f k l0).bind fun bt226 => ((spec_l03Disk.f k bt226.1 bt226.2.1 bt226.2.2).bind fun bt230 => (some (bt230.1, bt230.2.1)))
theorem spec_DrawDisk.mono : ∀ a0 k, LeO (spec_DrawDisk.f k a0) (spec_DrawDisk.f (k + 1) a0) := by
 intro a0 k
 unfold spec_DrawDisk.f
 repeat' first
   | (with_reducible exact spec_l01New.mono _ _)
   | (with_reducible exact spec_l03Disk.mono _ _ _ _)
   | (with_reducible exact LeO.refl _)
   | (with_reducible exact LeO.none _)
   | (with_reducible refine LeO.ite ?_ ?_)
   | (with_reducible refine LeO.bind ?_ (fun _ => ?_))
   | exact spec_l01New.mono _ _
   | exact spec_l03Disk.mono _ _ _ _
   | exact LeO.none _
   | refine LeO.ite ?_ ?_
   | refine LeO.bind ?_ (fun _ => ?_)
set_option maxHeartbeats 8000000 in
set_option maxRecDepth 100000 in
theorem spec_DrawDisk.calls (k : Nat) (A0 : Option Addr) (c0 : Nat) (l0 : List Int) (r1 : List ByteArray) (r2 : List (S74)) (w : World) (hr0 : Kd.C (Kd.int .u8) w A0 l0.length l0) (hc0 : l0.length ≤ c0) (h : spec_DrawDisk.f k l0 = some (r1, r2)) :
  Calls Try.prog 19 #[.slice A0 l0.length c0] w fun e w' => ∃ v0_ v1_ : Value, e = .returned (.agg #[v0_, v1_]) ∧ Kd.R Kd.string 9 w' w.heap.size (fun _ => True) v0_ r1 ∧ Kd.R k74 74 w' w.heap.size (fun _ => True) v1_ r2 ∧ Below w.heap.size w w' := by
 have hu36 := Try.underlying36
 have HR0 := zj hr0
 have HC0 := zj hc0
 clear hr0 hc0
 have HB := zj (Below.refl w.heap.size w)
 have H : ((spec_l01New.f k l0).bind fun bt226 => ((spec_l03Disk.f k bt226.1 bt226.2.1 bt226.2.2).bind fun bt230 => (some (bt230.1, bt230.2.1)))) = some (r1, r2) := h
 clear h
 replace H := Option.bind_eq_some_iff.mp H
 obtain ⟨⟨t226, t227, t228⟩, A20, H⟩ := H
 replace H : ((spec_l03Disk.f k t226 t227 t228).bind fun bt230 => (some (bt230.1, bt230.2.1))) = some (r1, r2) := H
 have A2 := zj A20
 clear A20
 replace H := Option.bind_eq_some_iff.mp H
 obtain ⟨⟨t230, t233, t236, t237⟩, A30, H⟩ := H
 replace H : (some (t230, t233)) = some (r1, r2) := H
 have A3 := zj A30
 clear A30
 simp only [Option.some.injEq, Prod.mk.injEq] at H
 obtain ⟨rfl, rfl⟩ := H
 go_enter Try.func19, Try.ntmps19
 go_wp2_with (first | ((with_reducible refine gate_dst (N := 2) rfl ?_); refine box_event ?hg (N := 2) ?hd (cs := #[.slice none 0 0, .slice none 0 0]) (t := 36) ?hr ?_; (case hd => rfl); (case hg => rfl); (case hr => first | (go_simp; done) | (go_simp; rfl)); intro gb225 hg w4 hbox hb; have n0_ := zj (zl (by repeat (first | (with_reducible first | exact HB.out | apply zg | apply zh | apply zi) | exact HB.out)) hb); have n1_ := zj (hbox); have n2_ := zj ((by rw [hg]; exact (zk (by repeat (first | (with_reducible first | exact HB.out | apply zg | apply zh | apply zi) | exact HB.out))) : w.heap.size ≤ gb225)); have n3_ := zj ((by rw [hg]; exact (zk (by repeat (first | (with_reducible first | exact HB.out | apply zg | apply zh | apply zi) | exact HB.out))) : w.heap.size ≤ gb225)); clear HB; have HB := n0_; have BK225 := n1_; have GW225 := n2_; have GE225 := n3_; clear n0_ n1_ n2_ n3_; clear hb hbox hg) | ((with_reducible refine gate_callee (f := 72) rfl ?_); refine goesL_ (some 4) rfl rfl Try.func72 (by kernel_rfl) rfl #[.slice A0 l0.length c0] rfl (by (try simp only [List.map_toArray, List.map_cons, List.map_nil]); first | done | rfl | (simp only [List.length_drop, List.length_take]; rfl)) ?_; (with_reducible refine (spec_l01New.calls k _ _ l0 t226 t227 t228 w _ ?side1 ?side2 ?side3 A2.out).mono ?_); (case side1 => repeat (first | (with_reducible first | exact HB.out | apply zg | apply zh | apply zi | refine zs ?_ GE225.out) | exact HB.out)); (case side2 => exact HR0.out); (case side3 => exact HC0.out); rintro e w5 ⟨g229, rfl, hi, hb, hb2⟩; refine ⟨_, rfl, ?_⟩; have n0_ := zj (zo (g := gb225) (o := .cells #[.slice none 0 0, .slice none 0 0] 36 (0, 0)) (by (with_reducible repeat (first | refine za ?_ _ | refine zb ?_ | refine zc ?_ _)); exact BK225.out) hb2); have n1_ := zj (hb); have n2_ := zj (hi); have n3_ := zj (IsS146.ne_blk hi (zo (g := gb225) (o := .cells #[.slice none 0 0, .slice none 0 0] 36 (0, 0)) (by (with_reducible repeat (first | refine za ?_ _ | refine zb ?_ | refine zc ?_ _)); exact BK225.out) hb2) (by decide)); have n4_ := zj (Ne.symm (IsS146.ne_blk hi (zo (g := gb225) (o := .cells #[.slice none 0 0, .slice none 0 0] 36 (0, 0)) (by (with_reducible repeat (first | refine za ?_ _ | refine zb ?_ | refine zc ?_ _)); exact BK225.out) hb2) (by decide))); clear BK225; clear HB; have BK225 := n0_; have HB := n1_; have HI229 := n2_; have NB229_225 := n3_; have NB225_229 := n4_; clear n0_ n1_ n2_ n3_ n4_; (try clear hb); (try clear hb2); (try clear hk); (try clear hi)) | ((with_reducible refine gate_callee (f := 71) rfl ?_); refine goesL_ (some 5) rfl rfl Try.func71 (by kernel_rfl) rfl #[.pointer (some ⟨g229, 0, none⟩)] rfl (by (try simp only [List.map_toArray, List.map_cons, List.map_nil]); first | done | rfl | (simp only [List.length_drop, List.length_take]; rfl)) ?_; (with_reducible refine (spec_l03Disk.calls k g229 t226 t227 t228 t230 t233 t236 t237 w _ ?side1 ?side2 A3.out).mono ?_); (case side1 => repeat (first | (with_reducible first | exact HI229.out | apply IsS146.alloc | apply IsS146.drewN | apply IsS146.drew | apply IsS146.set_1 | apply IsS146.set_2 | apply IsS146.far (hne := NB229_225.out)) | apply IsS146.far (hne := NB229_225.out) | exact HI229.out)); (case side2 => repeat (first | (with_reducible first | exact HB.out | apply zg | apply zh | apply zi | refine zs ?_ (IsS146.ge HI229.out) | refine zs ?_ GE225.out) | exact HB.out)); rintro e w6 ⟨v231, v234, rfl, ho0, ho1, hi, hb, hk⟩; refine ⟨_, rfl, ?_⟩; have n0_ := zj (KeepBut.blk hk (g' := gb225) (o := .cells #[.slice none 0 0, .slice none 0 0] 36 (0, 0)) (by (with_reducible repeat (first | refine za ?_ _ | refine zb ?_ | refine zc ?_ _)); exact BK225.out) NB225_229.out (by simp)); have n1_ := zj (Kd.R_lower ho0 (zk (by repeat (first | (with_reducible first | exact HB.out | apply zg | apply zh | apply zi | refine zs ?_ (IsS146.ge HI229.out) | refine zs ?_ GE225.out) | exact HB.out)))); have n2_ := zj (Kd.R_lower ho1 (zk (by repeat (first | (with_reducible first | exact HB.out | apply zg | apply zh | apply zi | refine zs ?_ (IsS146.ge HI229.out) | refine zs ?_ GE225.out) | exact HB.out)))); have n3_ := zj (hb); have n4_ := zj (hi); clear BK225; clear HB; clear HI229; have BK225 := n0_; have HO232 := n1_; have HO235 := n2_; have HB := n3_; have HI229 := n4_; clear n0_ n1_ n2_ n3_ n4_; (try clear hb); (try clear hb2); (try clear hk); (try clear hi); (try clear ho0); (try clear ho1); obtain ⟨Ao7, co7, eo7⟩ := Kd.R_slice HO232.out; subst eo7; have hnb8 := NB225_229.out; have hnc8 := NB229_225.out; have hcz9_0 : w6.cell? ⟨gb225, 0, none⟩ = some (.slice none 0 0) := (zq BK225.out 0).trans rfl; have hcz9_1 : w6.cell? ⟨gb225, 1, none⟩ = some (.slice none 0 0) := (zq BK225.out 1).trans rfl; have hfz9_0 := zv BK225.out 0; have hfz9_1 := zv BK225.out 1; obtain ⟨Ao10, co10, eo10⟩ := Kd.R_slice HO235.out; subst eo10))
 refine bodyPost_ret (results_cell_row rfl _ _ gb225 36 #[.slice Ao7 t230.length co7, .slice Ao10 t233.length co10] (0, 0) _ rfl (by (with_reducible repeat (first | refine za ?_ _ | refine zb ?_ | refine zc ?_ _)); refine zp (cs := #[.slice Ao7 t230.length co7, .slice none 0 0]) ?_ 1 _ rfl; (with_reducible repeat (first | refine za ?_ _ | refine zb ?_ | refine zc ?_ _)); refine zp (cs := #[.slice none 0 0, .slice none 0 0]) ?_ 0 _ rfl; (with_reducible repeat (first | refine za ?_ _ | refine zb ?_ | refine zc ?_ _)); exact BK225.out) Try.underlying36 rfl (by kernel_rfl)) rfl ?_
 exact ⟨_, _, by first | rfl | (simp [errW_none, errW_some] <;> rfl) | (simp [*, errW_none, errW_some] <;> rfl), by (with_reducible repeat (first | apply zd | apply ze | apply zf)); exact zm (zn (p := ⟨gb225, 1, none⟩) (zn (p := ⟨gb225, 0, none⟩) (zu HO232.out BK225.out (by decide)) (fun _ hk => hk.2) (.slice Ao7 t230.length co7)) (fun _ hk => hk.2) (.slice Ao10 t233.length co10)) (fun _ hk => trivial), by (with_reducible repeat (first | apply zd | apply ze | apply zf)); exact zm (zn (p := ⟨gb225, 1, none⟩) (zn (p := ⟨gb225, 0, none⟩) (zu HO235.out BK225.out (by decide)) (fun _ hk => hk.2) (.slice Ao7 t230.length co7)) (fun _ hk => hk.2) (.slice Ao10 t233.length co10)) (fun _ hk => trivial), by repeat (first | (with_reducible first | exact HB.out | apply zg | apply zh | apply zi | refine zs ?_ (IsS146.ge HI229.out) | refine zs ?_ GE225.out) | exact HB.out)⟩

/-! ### spec_DrawPlaces: function 20 -/
def spec_DrawPlaces.l0 : Nat → List Int → Int → List Int → Int → Int → Option (List Int)
 | 0, _, _, _, _, _ => none
 | k + 1, x4, x5, x242000, x242001, x242002 => if x5 < 12 then ((spec_l01Below.f x242000 x242001 x242002 10000).bind fun bt248 => (if x4.length < 17592186044416 then (spec_DrawPlaces.l0 k (x4 ++ [bt248.1]) (wrap64 (x5 + 1)) x242000 bt248.2.1 bt248.2.2) else (none))) else (some x4)
def spec_DrawPlaces.f (k : Nat) (l0 : List Int) : Option (List Int) := (spec_l01New.f k l0).bind fun bt238 => ((spec_l01Byte.f bt238.1 bt238.2.1 bt238.2.2).bind fun bt242 => (spec_DrawPlaces.l0 k (([] : List Int)) 0 bt238.1 bt242.2.1 bt242.2.2))
theorem spec_DrawPlaces.mono_l : ∀ k, (∀ y0 y1 y2 y3 y4, LeO (spec_DrawPlaces.l0 k y0 y1 y2 y3 y4) (spec_DrawPlaces.l0 (k + 1) y0 y1 y2 y3 y4))
 | 0 => fun _ _ _ _ _ r h => by simp [spec_DrawPlaces.l0] at h
 | k + 1 => by
  have ih0 := spec_DrawPlaces.mono_l k
  ·intro y0 y1 y2 y3 y4
   unfold spec_DrawPlaces.l0
   repeat' first
   | (with_reducible exact ih0 _ _ _ _ _)
   | (with_reducible exact spec_l01New.mono _ _)
   | (with_reducible exact LeO.refl _)
   | (with_reducible exact LeO.none _)
   | (with_reducible refine LeO.ite ?_ ?_)
   | (with_reducible refine LeO.bind ?_ (fun _ => ?_))
   | exact ih0 _ _ _ _ _
   | exact spec_l01New.mono _ _
   | exact LeO.none _
   | refine LeO.ite ?_ ?_
   | refine LeO.bind ?_ (fun _ => ?_)
theorem spec_DrawPlaces.mono : ∀ a0 k, LeO (spec_DrawPlaces.f k a0) (spec_DrawPlaces.f (k + 1) a0) := by
 intro a0 k
 have ih0 := spec_DrawPlaces.mono_l k
 unfold spec_DrawPlaces.f
 repeat' first
   | (with_reducible exact ih0 _ _ _ _ _)
   | (with_reducible exact spec_l01New.mono _ _)
   | (with_reducible exact LeO.refl _)
   | (with_reducible exact LeO.none _)
   | (with_reducible refine LeO.ite ?_ ?_)
   | (with_reducible refine LeO.bind ?_ (fun _ => ?_))
   | exact ih0 _ _ _ _ _
   | exact spec_l01New.mono _ _
   | exact LeO.none _
   | refine LeO.ite ?_ ?_
   | refine LeO.bind ?_ (fun _ => ?_)
set_option maxHeartbeats 8000000 in
set_option maxRecDepth 100000 in
theorem spec_DrawPlaces.calls (k : Nat) (A0 : Option Addr) (c0 : Nat) (l0 : List Int) (r : List Int) (w : World) (hr0 : Kd.C (Kd.int .u8) w A0 l0.length l0) (hc0 : l0.length ≤ c0) (h : spec_DrawPlaces.f k l0 = some r) :
  Calls Try.prog 20 #[.slice A0 l0.length c0] w fun e w' => ∃ v0_ : Value, e = .returned (v0_) ∧ Kd.R (Kd.int .i64) 3 w' w.heap.size (fun _ => True) v0_ r ∧ Below w.heap.size w w' := by
 have HR0 := zj hr0
 have HC0 := zj hc0
 clear hr0 hc0
 have HB := zj (Below.refl w.heap.size w)
 have H : ((spec_l01New.f k l0).bind fun bt238 => ((spec_l01Byte.f bt238.1 bt238.2.1 bt238.2.2).bind fun bt242 => (spec_DrawPlaces.l0 k (([] : List Int)) 0 bt238.1 bt242.2.1 bt242.2.2))) = some r := h
 clear h
 replace H := Option.bind_eq_some_iff.mp H
 obtain ⟨⟨t238, t239, t240⟩, A20, H⟩ := H
 replace H : ((spec_l01Byte.f t238 t239 t240).bind fun bt242 => (spec_DrawPlaces.l0 k (([] : List Int)) 0 t238 bt242.2.1 bt242.2.2)) = some r := H
 have A2 := zj A20
 clear A20
 replace H := Option.bind_eq_some_iff.mp H
 obtain ⟨⟨t242, t243, t244⟩, A30, H⟩ := H
 replace H : (spec_DrawPlaces.l0 k (([] : List Int)) 0 t238 t243 t244) = some r := H
 have A3 := zj A30
 clear A30
 obtain ⟨y245, hy245⟩ : ∃ y_ : List Int, y_ = (([] : List Int)) := ⟨_, rfl⟩
 replace H : (spec_DrawPlaces.l0 k y245 0 t238 t243 t244) = some r := by first | (rw [hy245]; with_reducible exact H) | (have H2_ := (Option.bind_some _ _).symm.trans H; rw [hy245]; with_reducible exact H2_) | (have H2_ := (Option.bind_some _ _).symm.trans H; with_reducible exact H2_) | with_reducible exact H | (rw [hy245]; exact H) | exact H
 have Ny245 := zj hy245
 clear hy245
 have H' := zj H
 clear H
 go_enter Try.func20, Try.ntmps20
 go_wp2_with (first | ((with_reducible refine gate_callee (f := 72) rfl ?_); refine goesL_ (some 7) rfl rfl Try.func72 (by kernel_rfl) rfl #[.slice A0 l0.length c0] rfl (by (try simp only [List.map_toArray, List.map_cons, List.map_nil]); first | done | rfl | (simp only [List.length_drop, List.length_take]; rfl)) ?_; (with_reducible refine (spec_l01New.calls k _ _ l0 t238 t239 t240 w _ ?side1 ?side2 ?side3 A2.out).mono ?_); (case side1 => repeat (first | (with_reducible first | exact HB.out | apply zg | apply zh | apply zi) | exact HB.out)); (case side2 => exact HR0.out); (case side3 => exact HC0.out); rintro e w4 ⟨g241, rfl, hi, hb, hb2⟩; refine ⟨_, rfl, ?_⟩; have n0_ := zj (hb); have n1_ := zj (hi); clear HB; have HB := n0_; have HI241 := n1_; clear n0_ n1_; (try clear hb); (try clear hb2); (try clear hk); (try clear hi)) | ((with_reducible refine gate_callee (f := 73) rfl ?_); refine goesL_ (some 9) rfl rfl Try.func73 (by kernel_rfl) rfl #[.pointer (some ⟨g241, 0, none⟩)] rfl (by (try simp only [List.map_toArray, List.map_cons, List.map_nil]); first | done | rfl | (simp only [List.length_drop, List.length_take]; rfl)) ?_; (with_reducible refine (spec_l01Byte.calls g241 t238 t239 t240 t242 t243 t244 w _ ?side1 ?side2 A3.out).mono ?_); (case side1 => repeat (first | (with_reducible first | exact HI241.out | apply IsS146.alloc | apply IsS146.drewN | apply IsS146.drew | apply IsS146.set_1 | apply IsS146.set_2) | exact HI241.out)); (case side2 => repeat (first | (with_reducible first | exact HB.out | apply zg | apply zh | apply zi | refine zs ?_ (IsS146.ge HI241.out)) | exact HB.out)); rintro e w5 ⟨rfl, hi, hb, hk⟩; refine ⟨_, rfl, ?_⟩; have n0_ := zj (hb); have n1_ := zj (hi); clear HB; clear HI241; have HB := n0_; have HI241 := n1_; clear n0_ n1_; (try clear hb); (try clear hb2); (try clear hk); (try clear hi)) | ((with_reducible refine gate_dst (N := 10) rfl ?_); refine Kd.R_lit (Kd.int .i64) _ 3 ?hg (N := 10) ?hd (xs := ([] : List Int)) (inner := []) (ok := fun _ => True) (okp := fun _ => True) ?hr ?hp (fun _ hk => hk) trivial (Below.refl _ _) (Nat.le_refl _) (by simp) ?_; (case hd => rfl); (case hg => rfl); (case hr => first | (go_simp; done) | (go_simp; rfl)); (case hp => exact (Reps.none _ _)); intro v246 w6 ho7 hb hg_ hnew_; clear hg_ hnew_; (first | rw [← Ny245.out] at ho7 | (simp only [Int.reduceToNat] at ho7; rw [← Ny245.out] at ho7)); have n0_ := zj (Kd.R_lower ho7 (zk (by repeat (first | (with_reducible first | exact HB.out | apply zg | apply zh | apply zi | refine zs ?_ (IsS146.ge HI241.out)) | exact HB.out)))); have n1_ := zj (IsS146.below (by repeat (first | (with_reducible first | exact HI241.out | apply IsS146.alloc | apply IsS146.drewN | apply IsS146.drew | apply IsS146.set_1 | apply IsS146.set_2) | exact HI241.out)) hb); have n2_ := zj (zl (by repeat (first | (with_reducible first | exact HB.out | apply zg | apply zh | apply zi | refine zs ?_ (IsS146.ge HI241.out)) | exact HB.out)) hb); clear HI241; clear HB; have HO247 := n0_; have HI241 := n1_; have HB := n2_; clear n0_ n1_ n2_; clear hb ho7))
 go_loopg [4, 5] k (fun kq v4 v5 w' => ∃ (x4_1 : List Int) (x5_1 : Int) (x242001_1 : Int) (x242002_1 : Int), v5 = .int .i64 x5_1 ∧ Aside0 (spec_DrawPlaces.l0 kq x4_1 x5_1 t238 x242001_1 x242002_1 = some r) ∧ Aside0 (kq ≤ k) ∧ Aside0 (Kd.R (Kd.int .i64) 3 w' w.heap.size (fun _ => True) v4 x4_1) ∧ Aside0 (IsS146 w w' g241 t238 x242001_1 x242002_1) ∧ Aside0 (Below w.heap.size w w'))
 case atStart => exact ⟨(y245), (0), (t243), (t244), (by first | rfl | (simp; done) | (simp [*]; done)), H', ⟨Nat.le_refl _⟩, ⟨by (with_reducible repeat (first | apply zd | apply ze | apply zf)); exact HO247.out⟩, ⟨by repeat (first | (with_reducible first | exact HI241.out | apply IsS146.alloc | apply IsS146.drewN | apply IsS146.drew | apply IsS146.set_1 | apply IsS146.set_2) | exact HI241.out)⟩, ⟨by repeat (first | (with_reducible first | exact HB.out | apply zg | apply zh | apply zi | refine zs ?_ (IsS146.ge HI241.out)) | exact HB.out)⟩⟩
 case round =>
  clear H'
  try clear c2
  try clear p2
  try clear c7
  obtain ⟨x4_1, x5_1, x242001_1, x242002_1, rfl, HA, HK1, HO_4, HI241, HB⟩ := hrel
  cases gk with
  | zero => exact absurd HA.out (by simp [spec_DrawPlaces.l0])
  | succ k1 =>
   have H := HA.out
   clear HA
   simp only [spec_DrawPlaces.l0] at H
   by_cases c8 : x5_1 < 12
   ·rw [if_pos c8] at H
    have c8b0 : decide (x5_1 < 12) = true := decide_eq_true c8
    clear c8
    replace H := Option.bind_eq_some_iff.mp H
    obtain ⟨⟨t248, t249, t250⟩, A90, H⟩ := H
    replace H : (if x4_1.length < 17592186044416 then (spec_DrawPlaces.l0 k1 (x4_1 ++ [t248]) (wrap64 (x5_1 + 1)) t238 t249 t250) else (none)) = some r := H
    have A9 := zj A90
    clear A90
    by_cases c10 : x4_1.length < 17592186044416
    ·rw [if_pos c10] at H
     have LMc10 := zj c10
     clear c10
     obtain ⟨y251, hy251⟩ : ∃ y_ : List Int, y_ = (x4_1 ++ [t248]) := ⟨_, rfl⟩
     replace H : (spec_DrawPlaces.l0 k1 y251 (wrap64 (x5_1 + 1)) t238 t249 t250) = some r := by first | (rw [hy251]; with_reducible exact H) | (have H2_ := (Option.bind_some _ _).symm.trans H; rw [hy251]; with_reducible exact H2_) | (have H2_ := (Option.bind_some _ _).symm.trans H; with_reducible exact H2_) | with_reducible exact H | (rw [hy251]; exact H) | exact H
     have Ny251 := zj hy251
     clear hy251
     have H' := zj H
     clear H
     go_wp2_with (first | ((with_reducible refine gate_callee (f := 74) rfl ?_); refine goesL_ (some 17) rfl rfl Try.func74 (by kernel_rfl) rfl #[.pointer (some ⟨g241, 0, none⟩), .int .i64 10000] rfl (by (try simp only [List.map_toArray, List.map_cons, List.map_nil]); first | done | rfl | (simp only [List.length_drop, List.length_take]; rfl)) ?_; (with_reducible refine (spec_l01Below.calls g241 t238 x242001_1 x242002_1 10000 t248 t249 t250 w _ ?side1 ?side2 A9.out).mono ?_); (case side1 => repeat (first | (with_reducible first | exact HI241.out | apply IsS146.alloc | apply IsS146.drewN | apply IsS146.drew | apply IsS146.set_1 | apply IsS146.set_2) | exact HI241.out)); (case side2 => repeat (first | (with_reducible first | exact HB.out | apply zg | apply zh | apply zi | refine zs ?_ (IsS146.ge HI241.out)) | exact HB.out)); rintro e w11 ⟨rfl, hi, hb, hk⟩; refine ⟨_, rfl, ?_⟩; have n0_ := zj (zm (Kd.R_keep (IsS146.apart (show IsS146 w _ g241 t238 x242001_1 x242002_1 from by repeat (first | (with_reducible first | exact HI241.out | apply IsS146.alloc | apply IsS146.drewN | apply IsS146.drew | apply IsS146.set_1 | apply IsS146.set_2) | exact HI241.out)) (by (with_reducible repeat (first | apply zd | apply ze | apply zf)); exact HO_4.out) (by decide)) hk (fun _ h => h.2)) (fun _ h => h.1)); have n1_ := zj (hb); have n2_ := zj (hi); clear HO_4; clear HB; clear HI241; have HO_4 := n0_; have HB := n1_; have HI241 := n2_; clear n0_ n1_ n2_; (try clear hb); (try clear hb2); (try clear hk); (try clear hi)) | ((with_reducible refine gate_builtin (b := .append) (xs := #[.tmp 15, .tmp 18]) rfl ?_); at_builtin; refine Kd.R_append (Kd.int .i64) (w0 := w) w.heap.size rfl (.tmp 15) (.tmp 18) 23 3 (.int .i64 0) 8 rfl Try.underlying23 info3 rfl (by decide) (by omega) u4 x4_1 t248 [.int .i64 t248] (fun _ => True) (fun _ => False) rfl rfl ?aP (fun _ hk => hk.elim) ?aF ?aO ?aB ?aS ?aL ?_; (case aP => exact rfl); (case aB => exact (by repeat (first | (with_reducible first | exact HB.out | apply zg | apply zh | apply zi | refine zs ?_ (IsS146.ge HI241.out)) | exact HB.out))); (case aF => exact (fun _ _ => trivial)); (case aO => exact (by (with_reducible repeat (first | apply zd | apply ze | apply zf)); exact HO_4.out)); (case aS => exact (zk (by repeat (first | (with_reducible first | exact HB.out | apply zg | apply zh | apply zi | refine zs ?_ (IsS146.ge HI241.out)) | exact HB.out)))); (case aL => have := LMc10.out; omega); intro v252 w12 ho hb hg hat; rw [← Ny251.out] at ho; have n0_ := zj (IsS146.grown (by repeat (first | (with_reducible first | exact HI241.out | apply IsS146.alloc | apply IsS146.drewN | apply IsS146.drew | apply IsS146.set_1 | apply IsS146.set_2) | exact HI241.out)) hg (IsS146.own_ne HI241.out HO_4.out (by decide))); have n1_ := zj (hb); have n2_ := zj (ho); clear HI241; clear HB; clear HO_4; have HI241 := n0_; have HB := n1_; have HO253 := n2_; clear n0_ n1_ n2_; clear ho hb hg hat))
     go_roundg k1
     case measure => have := HK1.out; omega
     case rel => exact ⟨(y251), (wrap64 (x5_1 + 1)), (t249), (t250), (by first | rfl | (simp; done) | (simp [*]; done)), H', ⟨by have := HK1.out; omega⟩, ⟨by (with_reducible repeat (first | apply zd | apply ze | apply zf)); exact HO253.out⟩, ⟨by repeat (first | (with_reducible first | exact HI241.out | apply IsS146.alloc | apply IsS146.drewN | apply IsS146.drew | apply IsS146.set_1 | apply IsS146.set_2) | exact HI241.out)⟩, ⟨by repeat (first | (with_reducible first | exact HB.out | apply zg | apply zh | apply zi | refine zs ?_ (IsS146.ge HI241.out)) | exact HB.out)⟩⟩
    ·rw [if_neg c10] at H
     exact absurd H (by simp)
   ·rw [if_neg c8] at H
    have c8b0 : decide (x5_1 < 12) = false := decide_eq_false c8
    clear c8
    obtain rfl := Option.some.inj H
    go_wp2
    go_ret
    exact ⟨_, by first | rfl | (simp [errW_none, errW_some] <;> rfl) | (simp [*, errW_none, errW_some] <;> rfl), by (with_reducible repeat (first | apply zd | apply ze | apply zf)); exact HO_4.out, by repeat (first | (with_reducible first | exact HB.out | apply zg | apply zh | apply zi | refine zs ?_ (IsS146.ge HI241.out)) | exact HB.out)⟩

end Go.Proofs.Ytbjlpmhhcigkdaa.VFnFalls
