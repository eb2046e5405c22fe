-- Written by a program of this repo (wip/myprint.py), over the kit's print; functions that the print does not take stand in it by hand-proved contracts.
import Derived.Test.YtkobbccjjglfmaaVFnExactReadNodex0
import Derived.Test.YtkobbccjjglfmaaVFnExactReadNodex1
import Derived.Test.YtkobbccjjglfmaaVFnExactReadNodex8
import Derived.Test.YtkobbccjjglfmaaVFnExactReadNodex13
import Derived.Test.YtkobbccjjglfmaaVFnExactReadNodex14
namespace Go.Proofs.Ytkobbccjjglfmaa.VFnExactReadNode
open Go.RowKit Go.Proofs.YtkobbccjjglfmaaW.PrintWords Go.Proofs.YtkobbccjjglfmaaW.PrintLast Go.Proofs.YtkobbccjjglfmaaW.PrintMore
attribute [local go_sem] max2_int min2_int max_two min_two max_three min_three max_four min_four   -- for this text's walks alone
attribute [local go_sem high] str_leq str_gtr str_geq str_lss
set_option linter.unusedVariables false
set_option linter.unusedSimpArgs false

/-! ### laws_FnExactReadNode: function 9 -/
mutual
def laws_FnExactReadNode.j0 : Nat → ByteArray → Bool → Bool → Bool → List ByteArray → List ByteArray → List Int → Bool → List ByteArray → List ByteArray → List Int → Option (Bool)
 | 0, _, _, _, _, _, _, _, _, _, _, _ => none
 | k + 1, x0, x4, x32, x288000, x288001, x288002, x288003, x300000, x300001, x300002, x300003 => if x32 = true then (none) else ((laws_markNode.f k x300000 x300001 x300002 x300003 1).bind fun bt301 => ((laws_heldNode.f k x300000 bt301.2.1 bt301.2.2.1 bt301.2.2.2 1).bind fun t305 => (if t305 < 0 then (none) else (if t305 = bt301.1 then ((impl_ReadNode.f k x0).bind fun bt306 => ((laws_eqNode.f k bt306.1 bt306.2.1 bt306.2.2.1 bt306.2.2.2.1 x288000 x288001 x288002 x288003).bind fun t318 => (if t318 = true then (laws_FnExactReadNode.j1 k bt301.1 (bt306.2.2.2.2 != x4) x300000 bt301.2.1 bt301.2.2.1 bt301.2.2.2) else (none)))) else (none)))))
def laws_FnExactReadNode.j1 : Nat → Int → Bool → Bool → List ByteArray → List ByteArray → List Int → Option (Bool)
 | 0, _, _, _, _, _, _ => none
 | k + 1, x7, x57, x300000, x300001, x300002, x300003 => if x57 = true then (none) else ((laws_heldNode.f k x300000 x300001 x300002 x300003 1).bind fun t319 => (if t319 < 0 then (none) else (if t319 = x7 then (some true) else (none))))
end
def laws_FnExactReadNode.f (k : Nat) (a0 : ByteArray) : Option (Bool) := if (a0.size : Int) > 1048576 then (some true) else ((spec_ReadNode.f k a0).bind fun bt276 => ((impl_ReadNode.f k a0).bind fun bt288 => ((laws_eqNode.f k bt288.1 bt288.2.1 bt288.2.2.1 bt288.2.2.2.1 bt276.1 bt276.2.1 bt276.2.2.1 bt276.2.2.2.1).bind fun t300 => (if t300 = true then (laws_FnExactReadNode.j0 k a0 bt276.2.2.2.2 (bt288.2.2.2.2 != bt276.2.2.2.2) bt276.1 bt276.2.1 bt276.2.2.1 bt276.2.2.2.1 bt288.1 bt288.2.1 bt288.2.2.1 bt288.2.2.2.1) else (none)))))
theorem laws_FnExactReadNode.mono_l : ∀ k, (∀ y0 y1 y2 y3 y4 y5 y6 y7 y8 y9 y10, LeO (laws_FnExactReadNode.j0 k y0 y1 y2 y3 y4 y5 y6 y7 y8 y9 y10) (laws_FnExactReadNode.j0 (k + 1) y0 y1 y2 y3 y4 y5 y6 y7 y8 y9 y10)) ∧ (∀ y0 y1 y2 y3 y4 y5, LeO (laws_FnExactReadNode.j1 k y0 y1 y2 y3 y4 y5) (laws_FnExactReadNode.j1 (k + 1) y0 y1 y2 y3 y4 y5))
 | 0 => ⟨fun _ _ _ _ _ _ _ _ _ _ _ r h => by simp [laws_FnExactReadNode.j0] at h, fun _ _ _ _ _ _ r h => by simp [laws_FnExactReadNode.j1] at h⟩
 | k + 1 => by
  obtain ⟨ih0, ih1⟩ := laws_FnExactReadNode.mono_l k
  refine ⟨?_, ?_⟩
  ·intro y0 y1 y2 y3 y4 y5 y6 y7 y8 y9 y10
   unfold laws_FnExactReadNode.j0
   repeat' first
   | (with_reducible exact ih0 _ _ _ _ _ _ _ _ _ _ _)
   | (with_reducible exact ih1 _ _ _ _ _ _)
   | (with_reducible exact impl_ReadNode.mono _ _)
   | (with_reducible exact laws_eqNode.mono _ _ _ _ _ _ _ _ _)
   | (with_reducible exact laws_heldNode.mono _ _ _ _ _ _)
   | (with_reducible exact laws_markNode.mono _ _ _ _ _ _)
   | (with_reducible exact spec_ReadNode.mono _ _)
   | (with_reducible exact LeO.refl _)
   | (with_reducible exact LeO.none _)
   | (with_reducible refine LeO.ite ?_ ?_)
   | (with_reducible refine LeO.bind ?_ (fun _ => ?_))
   | exact ih0 _ _ _ _ _ _ _ _ _ _ _
   | exact ih1 _ _ _ _ _ _
   | exact impl_ReadNode.mono _ _
   | exact laws_eqNode.mono _ _ _ _ _ _ _ _ _
   | exact laws_heldNode.mono _ _ _ _ _ _
   | exact laws_markNode.mono _ _ _ _ _ _
   | exact spec_ReadNode.mono _ _
   | exact LeO.none _
   | refine LeO.ite ?_ ?_
   | refine LeO.bind ?_ (fun _ => ?_)
  ·intro y0 y1 y2 y3 y4 y5
   unfold laws_FnExactReadNode.j1
   repeat' first
   | (with_reducible exact ih0 _ _ _ _ _ _ _ _ _ _ _)
   | (with_reducible exact ih1 _ _ _ _ _ _)
   | (with_reducible exact impl_ReadNode.mono _ _)
   | (with_reducible exact laws_eqNode.mono _ _ _ _ _ _ _ _ _)
   | (with_reducible exact laws_heldNode.mono _ _ _ _ _ _)
   | (with_reducible exact laws_markNode.mono _ _ _ _ _ _)
   | (with_reducible exact spec_ReadNode.mono _ _)
   | (with_reducible exact LeO.refl _)
   | (with_reducible exact LeO.none _)
   | (with_reducible refine LeO.ite ?_ ?_)
   | (with_reducible refine LeO.bind ?_ (fun _ => ?_))
   | exact ih0 _ _ _ _ _ _ _ _ _ _ _
   | exact ih1 _ _ _ _ _ _
   | exact impl_ReadNode.mono _ _
   | exact laws_eqNode.mono _ _ _ _ _ _ _ _ _
   | exact laws_heldNode.mono _ _ _ _ _ _
   | exact laws_markNode.mono _ _ _ _ _ _
   | exact spec_ReadNode.mono _ _
   | exact LeO.none _
   | refine LeO.ite ?_ ?_
   | refine LeO.bind ?_ (fun _ => ?_)
theorem laws_FnExactReadNode.mono : ∀ a0 k, LeO (laws_FnExactReadNode.f k a0) (laws_FnExactReadNode.f (k + 1) a0) := by
 intro a0 k
 obtain ⟨ih0, ih1⟩ := laws_FnExactReadNode.mono_l k
 unfold laws_FnExactReadNode.f
 repeat' first
   | (with_reducible exact ih0 _ _ _ _ _ _ _ _ _ _ _)
   | (with_reducible exact ih1 _ _ _ _ _ _)
   | (with_reducible exact impl_ReadNode.mono _ _)
   | (with_reducible exact laws_eqNode.mono _ _ _ _ _ _ _ _ _)
   | (with_reducible exact laws_heldNode.mono _ _ _ _ _ _)
   | (with_reducible exact laws_markNode.mono _ _ _ _ _ _)
   | (with_reducible exact spec_ReadNode.mono _ _)
   | (with_reducible exact LeO.refl _)
   | (with_reducible exact LeO.none _)
   | (with_reducible refine LeO.ite ?_ ?_)
   | (with_reducible refine LeO.bind ?_ (fun _ => ?_))
   | exact ih0 _ _ _ _ _ _ _ _ _ _ _
   | exact ih1 _ _ _ _ _ _
   | exact impl_ReadNode.mono _ _
   | exact laws_eqNode.mono _ _ _ _ _ _ _ _ _
   | exact laws_heldNode.mono _ _ _ _ _ _
   | exact laws_markNode.mono _ _ _ _ _ _
   | exact spec_ReadNode.mono _ _
   | exact LeO.none _
   | refine LeO.ite ?_ ?_
   | refine LeO.bind ?_ (fun _ => ?_)
set_option maxHeartbeats 8000000 in
set_option maxRecDepth 100000 in
theorem laws_FnExactReadNode.calls (k : Nat) (a0 : ByteArray) (r : Bool) (w : World) (h : laws_FnExactReadNode.f k a0 = some r) :
  Calls Try.prog 9 #[.string a0] w fun e w' => e = .returned (.bool r) ∧ Below w.heap.size w w' := by
 have hu29 := Try.underlying29
 have HB := zj (Below.refl w.heap.size w)
 have H : (if (a0.size : Int) > 1048576 then (some true) else ((spec_ReadNode.f k a0).bind fun bt276 => ((impl_ReadNode.f k a0).bind fun bt288 => ((laws_eqNode.f k bt288.1 bt288.2.1 bt288.2.2.1 bt288.2.2.2.1 bt276.1 bt276.2.1 bt276.2.2.1 bt276.2.2.2.1).bind fun t300 => (if t300 = true then (laws_FnExactReadNode.j0 k a0 bt276.2.2.2.2 (bt288.2.2.2.2 != bt276.2.2.2.2) bt276.1 bt276.2.1 bt276.2.2.1 bt276.2.2.2.1 bt288.1 bt288.2.1 bt288.2.2.1 bt288.2.2.2.1) else (none)))))) = some r := h
 clear h
 by_cases c2 : (a0.size : Int) > 1048576
 ·rw [if_pos c2] at H
  have c2b0 : decide (1048576 < (a0.size : Int)) = true := decide_eq_true c2
  have c2b1 : decide (1048576 < a0.size) = true := decide_eq_true (by omega)
  clear c2
  obtain rfl := Option.some.inj H
  go_enter Try.func9, Try.ntmps9
  go_wp2
  go_ret
  exact ⟨by first | rfl | (simp [errW_none, errW_some] <;> rfl) | (simp [*, errW_none, errW_some] <;> rfl), by repeat (first | (with_reducible first | exact HB.out | apply zg | apply zh | apply zi) | exact HB.out)⟩
 ·rw [if_neg c2] at H
  have c2b0 : decide (1048576 < (a0.size : Int)) = false := decide_eq_false c2
  have c2b1 : decide (1048576 < a0.size) = false := decide_eq_false (by omega)
  clear c2
  replace H := Option.bind_eq_some_iff.mp H
  obtain ⟨⟨t276, t277, t280, t283, t286⟩, A30, H⟩ := H
  replace H : ((impl_ReadNode.f k a0).bind fun bt288 => ((laws_eqNode.f k bt288.1 bt288.2.1 bt288.2.2.1 bt288.2.2.2.1 t276 t277 t280 t283).bind fun t300 => (if t300 = true then (laws_FnExactReadNode.j0 k a0 t286 (bt288.2.2.2.2 != t286) t276 t277 t280 t283 bt288.1 bt288.2.1 bt288.2.2.1 bt288.2.2.2.1) else (none)))) = some r := H
  have A3 := zj A30
  clear A30
  replace H := Option.bind_eq_some_iff.mp H
  obtain ⟨⟨t288, t289, t292, t295, t298⟩, A40, H⟩ := H
  replace H : ((laws_eqNode.f k t288 t289 t292 t295 t276 t277 t280 t283).bind fun t300 => (if t300 = true then (laws_FnExactReadNode.j0 k a0 t286 (t298 != t286) t276 t277 t280 t283 t288 t289 t292 t295) else (none))) = some r := H
  have A4 := zj A40
  clear A40
  have HC5 := zj H
  clear H
  go_enter Try.func9, Try.ntmps9
  go_upto_region 5 with (first | ((with_reducible refine gate_callee (f := 56) rfl ?_); refine goesL_ (some 16) rfl rfl Try.func56 (by kernel_rfl) rfl #[.string a0] rfl (by (try simp only [List.map_toArray, List.map_cons, List.map_nil]); first | done | rfl | (simp only [List.length_drop, List.length_take]; rfl)) ?_; (with_reducible refine (spec_ReadNode.calls k a0 t276 t277 t280 t283 t286 _ A3.out).mono ?_); rintro e w6 ⟨v278, v281, v284, rfl, ho0, ho1, ho2, hb⟩; refine ⟨_, rfl, ?_⟩; have n0_ := zj (Kd.R_lower ho0 (zk (by repeat (first | (with_reducible first | exact HB.out | apply zg | apply zh | apply zi) | exact HB.out)))); have n1_ := zj (Kd.R_lower ho1 (zk (by repeat (first | (with_reducible first | exact HB.out | apply zg | apply zh | apply zi) | exact HB.out)))); have n2_ := zj (Kd.R_lower ho2 (zk (by repeat (first | (with_reducible first | exact HB.out | apply zg | apply zh | apply zi) | exact HB.out)))); have n3_ := zj (zl (by repeat (first | (with_reducible first | exact HB.out | apply zg | apply zh | apply zi) | exact HB.out)) hb); clear HB; have HO279 := n0_; have HO282 := n1_; have HO285 := n2_; have HB := n3_; clear n0_ n1_ n2_ n3_; (try clear hb); (try clear hb2); (try clear hk); (try clear hi); (try clear ho0); (try clear ho1); (try clear ho2)) | ((with_reducible refine gate_dst (N := 3) rfl ?_); refine box_event ?hg (N := 3) ?hd (cs := #[.bool false, .slice none 0 0, .slice none 0 0, .slice none 0 0]) (t := 29) ?hr ?_; (case hd => rfl); (case hg => rfl); (case hr => first | (go_simp; done) | (go_simp; rfl)); intro gb287 hg w7 hbox hb; have n0_ := zj (zs (by (with_reducible repeat (first | apply zd | apply ze | apply zf)); exact HO279.out) hb); have n1_ := zj (zs (by (with_reducible repeat (first | apply zd | apply ze | apply zf)); exact HO282.out) hb); have n2_ := zj (zs (by (with_reducible repeat (first | apply zd | apply ze | apply zf)); exact HO285.out) hb); have n3_ := zj (zl (by repeat (first | (with_reducible first | exact HB.out | apply zg | apply zh | apply zi) | exact HB.out)) hb); have n4_ := zj (hbox); have n5_ := zj ((by rw [hg]; exact (zk (by repeat (first | (with_reducible first | exact HB.out | apply zg | apply zh | apply zi) | exact HB.out))) : w.heap.size ≤ gb287)); have n6_ := zj ((by rw [hg]; exact (zk (by repeat (first | (with_reducible first | exact HB.out | apply zg | apply zh | apply zi) | exact HB.out))) : w.heap.size ≤ gb287)); clear HO279; clear HO282; clear HO285; clear HB; have HO279 := n0_; have HO282 := n1_; have HO285 := n2_; have HB := n3_; have BK287 := n4_; have GW287 := n5_; have GE287 := n6_; clear n0_ n1_ n2_ n3_ n4_ n5_ n6_; clear hb hbox hg; have hcz8_0 : w7.cell? ⟨gb287, 0, none⟩ = some (.bool false) := (zq BK287.out 0).trans rfl; have hcz8_1 : w7.cell? ⟨gb287, 1, none⟩ = some (.slice none 0 0) := (zq BK287.out 1).trans rfl; have hcz8_2 : w7.cell? ⟨gb287, 2, none⟩ = some (.slice none 0 0) := (zq BK287.out 2).trans rfl; have hcz8_3 : w7.cell? ⟨gb287, 3, none⟩ = some (.slice none 0 0) := (zq BK287.out 3).trans rfl; have hfz8_0 := zu BK287.out 0; have hfz8_1 := zu BK287.out 1; have hfz8_2 := zu BK287.out 2; have hfz8_3 := zu BK287.out 3; obtain ⟨Ao9, co9, eo9⟩ := Kd.R_slice HO279.out; subst eo9; obtain ⟨Ao10, co10, eo10⟩ := Kd.R_slice HO282.out; subst eo10; obtain ⟨Ao11, co11, eo11⟩ := Kd.R_slice HO285.out; subst eo11) | ((with_reducible refine gate_callee (f := 57) rfl ?_); refine goesL_ (some 21) rfl rfl Try.func57 (by kernel_rfl) rfl #[.string a0] rfl (by (try simp only [List.map_toArray, List.map_cons, List.map_nil]); first | done | rfl | (simp only [List.length_drop, List.length_take]; rfl)) ?_; (with_reducible refine (impl_ReadNode.calls k a0 t288 t289 t292 t295 t298 _ A4.out).mono ?_); rintro e w12 ⟨v290, v293, v296, rfl, ho0, ho1, ho2, hb⟩; refine ⟨_, rfl, ?_⟩; have n0_ := zj (zm (Kd.R_told (Kd.R_told (Kd.R_old (by (with_reducible repeat (first | apply zd | apply ze | apply zf)); exact (zm (zn (p := ⟨gb287, 3, none⟩) (zn (p := ⟨gb287, 2, none⟩) (zn (p := ⟨gb287, 1, none⟩) (zn (p := ⟨gb287, 0, none⟩) (zt HO279.out BK287.out (by decide)) (fun _ hk => hk.2) (.bool t276)) (fun _ hk => hk.2) (.slice Ao9 t277.length co9)) (fun _ hk => hk.2) (.slice Ao10 t280.length co10)) (fun _ hk => hk.2) (.slice Ao11 t283.length co11)) (fun _ h_ => h_.1))) hb) (Kd.R_base ho0)) (Kd.R_base ho1)) (fun _ h_ => h_.1)); have n1_ := zj (zm (Kd.R_told (Kd.R_told (Kd.R_old (by (with_reducible repeat (first | apply zd | apply ze | apply zf)); exact (zm (zn (p := ⟨gb287, 3, none⟩) (zn (p := ⟨gb287, 2, none⟩) (zn (p := ⟨gb287, 1, none⟩) (zn (p := ⟨gb287, 0, none⟩) (zt HO282.out BK287.out (by decide)) (fun _ hk => hk.2) (.bool t276)) (fun _ hk => hk.2) (.slice Ao9 t277.length co9)) (fun _ hk => hk.2) (.slice Ao10 t280.length co10)) (fun _ hk => hk.2) (.slice Ao11 t283.length co11)) (fun _ h_ => h_.1))) hb) (Kd.R_base ho0)) (Kd.R_base ho1)) (fun _ h_ => h_.1)); have n2_ := zj (Kd.R_elder' (by (with_reducible repeat (first | apply zd | apply ze | apply zf)); exact (zm (zn (p := ⟨gb287, 3, none⟩) (zn (p := ⟨gb287, 2, none⟩) (zn (p := ⟨gb287, 1, none⟩) (zn (p := ⟨gb287, 0, none⟩) (zt HO285.out BK287.out (by decide)) (fun _ hk => hk.2) (.bool t276)) (fun _ hk => hk.2) (.slice Ao9 t277.length co9)) (fun _ hk => hk.2) (.slice Ao10 t280.length co10)) (fun _ hk => hk.2) (.slice Ao11 t283.length co11)) (fun _ h_ => h_.1))) (Kd.R_base ho2) hb); have n3_ := zj (Kd.R_lower (Kd.R_new' (Kd.R_new' ho0 (Kd.R_lt (by (with_reducible repeat (first | apply zd | apply ze | apply zf)); exact (zm (zn (p := ⟨gb287, 3, none⟩) (zn (p := ⟨gb287, 2, none⟩) (zn (p := ⟨gb287, 1, none⟩) (zn (p := ⟨gb287, 0, none⟩) (zt HO279.out BK287.out (by decide)) (fun _ hk => hk.2) (.bool t276)) (fun _ hk => hk.2) (.slice Ao9 t277.length co9)) (fun _ hk => hk.2) (.slice Ao10 t280.length co10)) (fun _ hk => hk.2) (.slice Ao11 t283.length co11)) (fun _ h_ => h_.1))))) (Kd.R_lt (by (with_reducible repeat (first | apply zd | apply ze | apply zf)); exact (zm (zn (p := ⟨gb287, 3, none⟩) (zn (p := ⟨gb287, 2, none⟩) (zn (p := ⟨gb287, 1, none⟩) (zn (p := ⟨gb287, 0, none⟩) (zt HO282.out BK287.out (by decide)) (fun _ hk => hk.2) (.bool t276)) (fun _ hk => hk.2) (.slice Ao9 t277.length co9)) (fun _ hk => hk.2) (.slice Ao10 t280.length co10)) (fun _ hk => hk.2) (.slice Ao11 t283.length co11)) (fun _ h_ => h_.1))))) (zk (by repeat (first | (with_reducible first | exact HB.out | apply zg | apply zh | apply zi | refine zr ?_ GE287.out) | exact HB.out)))); have n4_ := zj (Kd.R_lower (Kd.R_new' (Kd.R_new' ho1 (Kd.R_lt (by (with_reducible repeat (first | apply zd | apply ze | apply zf)); exact (zm (zn (p := ⟨gb287, 3, none⟩) (zn (p := ⟨gb287, 2, none⟩) (zn (p := ⟨gb287, 1, none⟩) (zn (p := ⟨gb287, 0, none⟩) (zt HO279.out BK287.out (by decide)) (fun _ hk => hk.2) (.bool t276)) (fun _ hk => hk.2) (.slice Ao9 t277.length co9)) (fun _ hk => hk.2) (.slice Ao10 t280.length co10)) (fun _ hk => hk.2) (.slice Ao11 t283.length co11)) (fun _ h_ => h_.1))))) (Kd.R_lt (by (with_reducible repeat (first | apply zd | apply ze | apply zf)); exact (zm (zn (p := ⟨gb287, 3, none⟩) (zn (p := ⟨gb287, 2, none⟩) (zn (p := ⟨gb287, 1, none⟩) (zn (p := ⟨gb287, 0, none⟩) (zt HO282.out BK287.out (by decide)) (fun _ hk => hk.2) (.bool t276)) (fun _ hk => hk.2) (.slice Ao9 t277.length co9)) (fun _ hk => hk.2) (.slice Ao10 t280.length co10)) (fun _ hk => hk.2) (.slice Ao11 t283.length co11)) (fun _ h_ => h_.1))))) (zk (by repeat (first | (with_reducible first | exact HB.out | apply zg | apply zh | apply zi | refine zr ?_ GE287.out) | exact HB.out)))); have n5_ := zj (Kd.R_lower (Kd.R_new' ho2 (Kd.R_lt (by (with_reducible repeat (first | apply zd | apply ze | apply zf)); exact (zm (zn (p := ⟨gb287, 3, none⟩) (zn (p := ⟨gb287, 2, none⟩) (zn (p := ⟨gb287, 1, none⟩) (zn (p := ⟨gb287, 0, none⟩) (zt HO285.out BK287.out (by decide)) (fun _ hk => hk.2) (.bool t276)) (fun _ hk => hk.2) (.slice Ao9 t277.length co9)) (fun _ hk => hk.2) (.slice Ao10 t280.length co10)) (fun _ hk => hk.2) (.slice Ao11 t283.length co11)) (fun _ h_ => h_.1))))) (zk (by repeat (first | (with_reducible first | exact HB.out | apply zg | apply zh | apply zi | refine zr ?_ GE287.out) | exact HB.out)))); have n6_ := zj (zo (g := gb287) (o := .cells #[.bool t276, .slice Ao9 t277.length co9, .slice Ao10 t280.length co10, .slice Ao11 t283.length co11] 29 (0, 0)) (by (with_reducible repeat (first | refine za ?_ _ | refine zb ?_ | refine zc ?_ _)); refine zp (cs := #[.bool t276, .slice Ao9 t277.length co9, .slice Ao10 t280.length co10, .slice none 0 0]) ?_ 3 _ rfl; (with_reducible repeat (first | refine za ?_ _ | refine zb ?_ | refine zc ?_ _)); refine zp (cs := #[.bool t276, .slice Ao9 t277.length co9, .slice none 0 0, .slice none 0 0]) ?_ 2 _ rfl; (with_reducible repeat (first | refine za ?_ _ | refine zb ?_ | refine zc ?_ _)); refine zp (cs := #[.bool t276, .slice none 0 0, .slice none 0 0, .slice none 0 0]) ?_ 1 _ rfl; (with_reducible repeat (first | refine za ?_ _ | refine zb ?_ | refine zc ?_ _)); refine zp (cs := #[.bool false, .slice none 0 0, .slice none 0 0, .slice none 0 0]) ?_ 0 _ rfl; (with_reducible repeat (first | refine za ?_ _ | refine zb ?_ | refine zc ?_ _)); exact BK287.out) hb); have n7_ := zj (zl (by repeat (first | (with_reducible first | exact HB.out | apply zg | apply zh | apply zi | refine zr ?_ GE287.out) | exact HB.out)) hb); clear HO279; clear HO282; clear HO285; clear BK287; clear HB; have HO279 := n0_; have HO282 := n1_; have HO285 := n2_; have HO291 := n3_; have HO294 := n4_; have HO297 := n5_; have BK287 := n6_; have HB := n7_; clear n0_ n1_ n2_ n3_ n4_ n5_ n6_ n7_; (try clear hb); (try clear hb2); (try clear hk); (try clear hi); (try clear ho0); (try clear ho1); (try clear ho2)) | ((with_reducible refine gate_dst (N := 5) rfl ?_); refine box_event ?hg (N := 5) ?hd (cs := #[.bool false, .slice none 0 0, .slice none 0 0, .slice none 0 0]) (t := 29) ?hr ?_; (case hd => rfl); (case hg => rfl); (case hr => first | (go_simp; done) | (go_simp; rfl)); intro gb299 hg w13 hbox hb; have n0_ := zj (zs (by (with_reducible repeat (first | apply zd | apply ze | apply zf)); exact HO279.out) hb); have n1_ := zj (zs (by (with_reducible repeat (first | apply zd | apply ze | apply zf)); exact HO282.out) hb); have n2_ := zj (zs (by (with_reducible repeat (first | apply zd | apply ze | apply zf)); exact HO285.out) hb); have n3_ := zj (zs (by (with_reducible repeat (first | apply zd | apply ze | apply zf)); exact HO291.out) hb); have n4_ := zj (zs (by (with_reducible repeat (first | apply zd | apply ze | apply zf)); exact HO294.out) hb); have n5_ := zj (zs (by (with_reducible repeat (first | apply zd | apply ze | apply zf)); exact HO297.out) hb); have n6_ := zj (zo (g := gb287) (o := .cells #[.bool t276, .slice Ao9 t277.length co9, .slice Ao10 t280.length co10, .slice Ao11 t283.length co11] 29 (0, 0)) (by (with_reducible repeat (first | refine za ?_ _ | refine zb ?_ | refine zc ?_ _)); exact BK287.out) hb); have n7_ := zj (zl (by repeat (first | (with_reducible first | exact HB.out | apply zg | apply zh | apply zi | refine zr ?_ GE287.out) | exact HB.out)) hb); have n8_ := zj (hbox); have n9_ := zj ((by rw [hg]; exact (zk (by repeat (first | (with_reducible first | exact HB.out | apply zg | apply zh | apply zi | refine zr ?_ GE287.out) | exact HB.out))) : w.heap.size ≤ gb299)); have n10_ := zj ((by rw [hg]; exact (zk (by repeat (first | (with_reducible first | exact HB.out | apply zg | apply zh | apply zi | refine zr ?_ GE287.out) | exact HB.out))) : w.heap.size ≤ gb299)); have n11_ := zj ((by rw [hg]; exact Nat.ne_of_lt (blk_lt (g := gb287) (o := .cells #[.bool t276, .slice Ao9 t277.length co9, .slice Ao10 t280.length co10, .slice Ao11 t283.length co11] 29 (0, 0)) (by (with_reducible repeat (first | refine za ?_ _ | refine zb ?_ | refine zc ?_ _)); exact BK287.out)) : gb287 ≠ gb299)); have n12_ := zj ((by rw [hg]; exact Nat.ne_of_gt (blk_lt (g := gb287) (o := .cells #[.bool t276, .slice Ao9 t277.length co9, .slice Ao10 t280.length co10, .slice Ao11 t283.length co11] 29 (0, 0)) (by (with_reducible repeat (first | refine za ?_ _ | refine zb ?_ | refine zc ?_ _)); exact BK287.out)) : gb299 ≠ gb287)); clear HO279; clear HO282; clear HO285; clear HO291; clear HO294; clear HO297; clear BK287; clear HB; have HO279 := n0_; have HO282 := n1_; have HO285 := n2_; have HO291 := n3_; have HO294 := n4_; have HO297 := n5_; have BK287 := n6_; have HB := n7_; have BK299 := n8_; have GW299 := n9_; have GE299 := n10_; have NB287_299 := n11_; have NB299_287 := n12_; clear n0_ n1_ n2_ n3_ n4_ n5_ n6_ n7_ n8_ n9_ n10_ n11_ n12_; clear hb hbox hg; have hnb14 := NB299_287.out; have hnc14 := NB287_299.out; have hcz15_0 : w13.cell? ⟨gb299, 0, none⟩ = some (.bool false) := (zq BK299.out 0).trans rfl; have hcz15_1 : w13.cell? ⟨gb299, 1, none⟩ = some (.slice none 0 0) := (zq BK299.out 1).trans rfl; have hcz15_2 : w13.cell? ⟨gb299, 2, none⟩ = some (.slice none 0 0) := (zq BK299.out 2).trans rfl; have hcz15_3 : w13.cell? ⟨gb299, 3, none⟩ = some (.slice none 0 0) := (zq BK299.out 3).trans rfl; have hfz15_0 := zu BK299.out 0; have hfz15_1 := zu BK299.out 1; have hfz15_2 := zu BK299.out 2; have hfz15_3 := zu BK299.out 3; obtain ⟨Ao16, co16, eo16⟩ := Kd.R_slice HO291.out; subst eo16; obtain ⟨Ao17, co17, eo17⟩ := Kd.R_slice HO294.out; subst eo17; obtain ⟨Ao18, co18, eo18⟩ := Kd.R_slice HO297.out; subst eo18))
  (try simp only [Act.put, List.setIfInBounds_toArray, List.set_cons_zero, List.set_cons_succ])
  go_cut [32] (fun v32 wc => ∃ (kq : Nat) (x32_4 : Bool), v32 = .bool x32_4 ∧ Aside0 (laws_FnExactReadNode.j0 kq a0 t286 x32_4 t276 t277 t280 t283 t288 t289 t292 t295 = some r) ∧ Aside0 (kq ≤ k) ∧ Aside0 (Kd.R Kd.string 9 wc w.heap.size (fun k_ => some k_ ≠ ((.slice Ao10 t280.length co10) : Value).ownBlock ∧ some k_ ≠ ((.slice Ao16 t289.length co16) : Value).ownBlock ∧ some k_ ≠ ((.slice Ao17 t292.length co17) : Value).ownBlock) (.slice Ao9 t277.length co9) t277) ∧ Aside0 (Kd.R Kd.string 9 wc w.heap.size (fun k_ => some k_ ≠ ((.slice Ao9 t277.length co9) : Value).ownBlock ∧ some k_ ≠ ((.slice Ao16 t289.length co16) : Value).ownBlock ∧ some k_ ≠ ((.slice Ao17 t292.length co17) : Value).ownBlock) (.slice Ao10 t280.length co10) t280) ∧ Aside0 (Kd.R (Kd.int .i64) 3 wc w.heap.size (fun k_ => some k_ ≠ ((.slice Ao18 t295.length co18) : Value).ownBlock) (.slice Ao11 t283.length co11) t283) ∧ Aside0 (Kd.R Kd.string 9 wc w.heap.size (fun k_ => some k_ ≠ ((.slice Ao9 t277.length co9) : Value).ownBlock ∧ some k_ ≠ ((.slice Ao10 t280.length co10) : Value).ownBlock ∧ some k_ ≠ ((.slice Ao17 t292.length co17) : Value).ownBlock) (.slice Ao16 t289.length co16) t289) ∧ Aside0 (Kd.R Kd.string 9 wc w.heap.size (fun k_ => some k_ ≠ ((.slice Ao9 t277.length co9) : Value).ownBlock ∧ some k_ ≠ ((.slice Ao10 t280.length co10) : Value).ownBlock ∧ some k_ ≠ ((.slice Ao16 t289.length co16) : Value).ownBlock) (.slice Ao17 t292.length co17) t292) ∧ Aside0 (Kd.R (Kd.int .i64) 3 wc w.heap.size (fun k_ => some k_ ≠ ((.slice Ao11 t283.length co11) : Value).ownBlock) (.slice Ao18 t295.length co18) t295) ∧ Aside0 (wc.heap[gb287]? = some (.cells #[.bool t276, (.slice Ao9 t277.length co9), (.slice Ao10 t280.length co10), (.slice Ao11 t283.length co11)] 29 (0, 0))) ∧ Aside0 (wc.heap[gb299]? = some (.cells #[.bool t288, (.slice Ao16 t289.length co16), (.slice Ao17 t292.length co17), (.slice Ao18 t295.length co18)] 29 (0, 0))) ∧ Aside0 (Below w.heap.size w wc))
  case first =>
   have H := HC5.out
   clear HC5
   replace H := Option.bind_eq_some_iff.mp H
   obtain ⟨t300, A190, H⟩ := H
   replace H : (if t300 = true then (laws_FnExactReadNode.j0 k a0 t286 (t298 != t286) t276 t277 t280 t283 t288 t289 t292 t295) else (none)) = some r := H
   have A19 := zj A190
   clear A190
   by_cases c20 : t300 = true
   ·subst c20
    have H1 : (laws_FnExactReadNode.j0 k a0 t286 (t298 != t286) t276 t277 t280 t283 t288 t289 t292 t295) = some r := by rw [if_pos rfl] at H; exact H
    clear H
    have H := H1
    clear H1
    have H' := zj H
    clear H
    have hnb21 := NB299_287.out
    have hnc21 := NB287_299.out
    have hcz22_0 : w13.cell? ⟨gb299, 0, none⟩ = some (.bool false) := (zq BK299.out 0).trans rfl
    have hcz22_1 : w13.cell? ⟨gb299, 1, none⟩ = some (.slice none 0 0) := (zq BK299.out 1).trans rfl
    have hcz22_2 : w13.cell? ⟨gb299, 2, none⟩ = some (.slice none 0 0) := (zq BK299.out 2).trans rfl
    have hcz22_3 : w13.cell? ⟨gb299, 3, none⟩ = some (.slice none 0 0) := (zq BK299.out 3).trans rfl
    have hfz22_0 := zu BK299.out 0
    have hfz22_1 := zu BK299.out 1
    have hfz22_2 := zu BK299.out 2
    have hfz22_3 := zu BK299.out 3
    have hcz23_0 : w13.cell? ⟨gb287, 0, none⟩ = some (.bool t276) := (zq BK287.out 0).trans rfl
    have hcz23_1 : w13.cell? ⟨gb287, 1, none⟩ = some (.slice Ao9 t277.length co9) := (zq BK287.out 1).trans rfl
    have hcz23_2 : w13.cell? ⟨gb287, 2, none⟩ = some (.slice Ao10 t280.length co10) := (zq BK287.out 2).trans rfl
    have hcz23_3 : w13.cell? ⟨gb287, 3, none⟩ = some (.slice Ao11 t283.length co11) := (zq BK287.out 3).trans rfl
    have hfz23_0 := zu BK287.out 0
    have hfz23_1 := zu BK287.out 1
    have hfz23_2 := zu BK287.out 2
    have hfz23_3 := zu BK287.out 3
    go_wp2_with (first | ((with_reducible refine gate_callee (f := 18) rfl ?_); refine goesL_ (some 26) rfl rfl Try.func18 (by kernel_rfl) rfl #[.agg #[.bool t288, .slice Ao16 t289.length co16, .slice Ao17 t292.length co17, .slice Ao18 t295.length co18], .agg #[.bool t276, .slice Ao9 t277.length co9, .slice Ao10 t280.length co10, .slice Ao11 t283.length co11]] rfl (by (try simp only [List.map_toArray, List.map_cons, List.map_nil]); first | done | rfl | (simp only [List.length_drop, List.length_take]; rfl)) ?_; (with_reducible refine (laws_eqNode.calls k t288 _ _ t289 _ _ t292 _ _ t295 t276 _ _ t277 _ _ t280 _ _ t283 true _ ?side1 ?side2 ?side3 ?side4 ?side5 ?side6 ?side7 ?side8 ?side9 ?side10 ?side11 ?side12 A19.out).mono ?_); (case side1 => refine (Kd.R_reads' (e := 9) (base := w.heap.size) (ok := fun k_ => ((some k_ ≠ (.slice Ao17 t292.length co17 : Value).ownBlock ∧ some k_ ≠ (.slice Ao9 t277.length co9 : Value).ownBlock) ∧ some k_ ≠ (.slice Ao10 t280.length co10 : Value).ownBlock)) (n := t289.length) (c := co16) ?_).2.2; exact (by (with_reducible repeat (first | apply zd | apply ze | apply zf)); exact (zm (zn (p := ⟨gb299, 3, none⟩) (zn (p := ⟨gb299, 2, none⟩) (zn (p := ⟨gb299, 1, none⟩) (zn (p := ⟨gb299, 0, none⟩) (zt HO291.out BK299.out (by decide)) (fun _ hk => hk.2) (.bool t288)) (fun _ hk => hk.2) (.slice Ao16 t289.length co16)) (fun _ hk => hk.2) (.slice Ao17 t292.length co17)) (fun _ hk => hk.2) (.slice Ao18 t295.length co18)) (fun _ h_ => h_.1)))); (case side2 => exact (Kd.R_reads' HO291.out).2.1); (case side3 => refine (Kd.R_reads' (e := 9) (base := w.heap.size) (ok := fun k_ => ((some k_ ≠ (.slice Ao16 t289.length co16 : Value).ownBlock ∧ some k_ ≠ (.slice Ao9 t277.length co9 : Value).ownBlock) ∧ some k_ ≠ (.slice Ao10 t280.length co10 : Value).ownBlock)) (n := t292.length) (c := co17) ?_).2.2; exact (by (with_reducible repeat (first | apply zd | apply ze | apply zf)); exact (zm (zn (p := ⟨gb299, 3, none⟩) (zn (p := ⟨gb299, 2, none⟩) (zn (p := ⟨gb299, 1, none⟩) (zn (p := ⟨gb299, 0, none⟩) (zt HO294.out BK299.out (by decide)) (fun _ hk => hk.2) (.bool t288)) (fun _ hk => hk.2) (.slice Ao16 t289.length co16)) (fun _ hk => hk.2) (.slice Ao17 t292.length co17)) (fun _ hk => hk.2) (.slice Ao18 t295.length co18)) (fun _ h_ => h_.1)))); (case side4 => exact (Kd.R_reads' HO294.out).2.1); (case side5 => refine (Kd.R_reads' (e := 3) (base := w.heap.size) (ok := fun k_ => (True ∧ some k_ ≠ (.slice Ao11 t283.length co11 : Value).ownBlock)) (n := t295.length) (c := co18) ?_).2.2; exact (by (with_reducible repeat (first | apply zd | apply ze | apply zf)); exact (zm (zn (p := ⟨gb299, 3, none⟩) (zn (p := ⟨gb299, 2, none⟩) (zn (p := ⟨gb299, 1, none⟩) (zn (p := ⟨gb299, 0, none⟩) (zt HO297.out BK299.out (by decide)) (fun _ hk => hk.2) (.bool t288)) (fun _ hk => hk.2) (.slice Ao16 t289.length co16)) (fun _ hk => hk.2) (.slice Ao17 t292.length co17)) (fun _ hk => hk.2) (.slice Ao18 t295.length co18)) (fun _ h_ => h_.1)))); (case side6 => exact (Kd.R_reads' HO297.out).2.1); (case side7 => refine (Kd.R_reads' (e := 9) (base := w.heap.size) (ok := fun k_ => ((some k_ ≠ (.slice Ao10 t280.length co10 : Value).ownBlock ∧ some k_ ≠ (.slice Ao16 t289.length co16 : Value).ownBlock) ∧ some k_ ≠ (.slice Ao17 t292.length co17 : Value).ownBlock)) (n := t277.length) (c := co9) ?_).2.2; exact (by (with_reducible repeat (first | apply zd | apply ze | apply zf)); exact (zm (zn (p := ⟨gb299, 3, none⟩) (zn (p := ⟨gb299, 2, none⟩) (zn (p := ⟨gb299, 1, none⟩) (zn (p := ⟨gb299, 0, none⟩) (zt HO279.out BK299.out (by decide)) (fun _ hk => hk.2) (.bool t288)) (fun _ hk => hk.2) (.slice Ao16 t289.length co16)) (fun _ hk => hk.2) (.slice Ao17 t292.length co17)) (fun _ hk => hk.2) (.slice Ao18 t295.length co18)) (fun _ h_ => h_.1)))); (case side8 => exact (Kd.R_reads' HO279.out).2.1); (case side9 => refine (Kd.R_reads' (e := 9) (base := w.heap.size) (ok := fun k_ => ((some k_ ≠ (.slice Ao9 t277.length co9 : Value).ownBlock ∧ some k_ ≠ (.slice Ao16 t289.length co16 : Value).ownBlock) ∧ some k_ ≠ (.slice Ao17 t292.length co17 : Value).ownBlock)) (n := t280.length) (c := co10) ?_).2.2; exact (by (with_reducible repeat (first | apply zd | apply ze | apply zf)); exact (zm (zn (p := ⟨gb299, 3, none⟩) (zn (p := ⟨gb299, 2, none⟩) (zn (p := ⟨gb299, 1, none⟩) (zn (p := ⟨gb299, 0, none⟩) (zt HO282.out BK299.out (by decide)) (fun _ hk => hk.2) (.bool t288)) (fun _ hk => hk.2) (.slice Ao16 t289.length co16)) (fun _ hk => hk.2) (.slice Ao17 t292.length co17)) (fun _ hk => hk.2) (.slice Ao18 t295.length co18)) (fun _ h_ => h_.1)))); (case side10 => exact (Kd.R_reads' HO282.out).2.1); (case side11 => refine (Kd.R_reads' (e := 3) (base := w.heap.size) (ok := fun k_ => (True ∧ some k_ ≠ (.slice Ao18 t295.length co18 : Value).ownBlock)) (n := t283.length) (c := co11) ?_).2.2; exact (by (with_reducible repeat (first | apply zd | apply ze | apply zf)); exact (zm (zn (p := ⟨gb299, 3, none⟩) (zn (p := ⟨gb299, 2, none⟩) (zn (p := ⟨gb299, 1, none⟩) (zn (p := ⟨gb299, 0, none⟩) (zt HO285.out BK299.out (by decide)) (fun _ hk => hk.2) (.bool t288)) (fun _ hk => hk.2) (.slice Ao16 t289.length co16)) (fun _ hk => hk.2) (.slice Ao17 t292.length co17)) (fun _ hk => hk.2) (.slice Ao18 t295.length co18)) (fun _ h_ => h_.1)))); (case side12 => exact (Kd.R_reads' HO285.out).2.1); rintro e w24 ⟨rfl, hb⟩; refine ⟨_, rfl, ?_⟩; have n0_ := zj (zs (by (with_reducible repeat (first | apply zd | apply ze | apply zf)); exact (zm (zn (p := ⟨gb299, 3, none⟩) (zn (p := ⟨gb299, 2, none⟩) (zn (p := ⟨gb299, 1, none⟩) (zn (p := ⟨gb299, 0, none⟩) (zt HO279.out BK299.out (by decide)) (fun _ hk => hk.2) (.bool t288)) (fun _ hk => hk.2) (.slice Ao16 t289.length co16)) (fun _ hk => hk.2) (.slice Ao17 t292.length co17)) (fun _ hk => hk.2) (.slice Ao18 t295.length co18)) (fun _ h_ => h_.1))) hb); have n1_ := zj (zs (by (with_reducible repeat (first | apply zd | apply ze | apply zf)); exact (zm (zn (p := ⟨gb299, 3, none⟩) (zn (p := ⟨gb299, 2, none⟩) (zn (p := ⟨gb299, 1, none⟩) (zn (p := ⟨gb299, 0, none⟩) (zt HO282.out BK299.out (by decide)) (fun _ hk => hk.2) (.bool t288)) (fun _ hk => hk.2) (.slice Ao16 t289.length co16)) (fun _ hk => hk.2) (.slice Ao17 t292.length co17)) (fun _ hk => hk.2) (.slice Ao18 t295.length co18)) (fun _ h_ => h_.1))) hb); have n2_ := zj (zs (by (with_reducible repeat (first | apply zd | apply ze | apply zf)); exact (zm (zn (p := ⟨gb299, 3, none⟩) (zn (p := ⟨gb299, 2, none⟩) (zn (p := ⟨gb299, 1, none⟩) (zn (p := ⟨gb299, 0, none⟩) (zt HO285.out BK299.out (by decide)) (fun _ hk => hk.2) (.bool t288)) (fun _ hk => hk.2) (.slice Ao16 t289.length co16)) (fun _ hk => hk.2) (.slice Ao17 t292.length co17)) (fun _ hk => hk.2) (.slice Ao18 t295.length co18)) (fun _ h_ => h_.1))) hb); have n3_ := zj (zs (by (with_reducible repeat (first | apply zd | apply ze | apply zf)); exact (zm (zn (p := ⟨gb299, 3, none⟩) (zn (p := ⟨gb299, 2, none⟩) (zn (p := ⟨gb299, 1, none⟩) (zn (p := ⟨gb299, 0, none⟩) (zt HO291.out BK299.out (by decide)) (fun _ hk => hk.2) (.bool t288)) (fun _ hk => hk.2) (.slice Ao16 t289.length co16)) (fun _ hk => hk.2) (.slice Ao17 t292.length co17)) (fun _ hk => hk.2) (.slice Ao18 t295.length co18)) (fun _ h_ => h_.1))) hb); have n4_ := zj (zs (by (with_reducible repeat (first | apply zd | apply ze | apply zf)); exact (zm (zn (p := ⟨gb299, 3, none⟩) (zn (p := ⟨gb299, 2, none⟩) (zn (p := ⟨gb299, 1, none⟩) (zn (p := ⟨gb299, 0, none⟩) (zt HO294.out BK299.out (by decide)) (fun _ hk => hk.2) (.bool t288)) (fun _ hk => hk.2) (.slice Ao16 t289.length co16)) (fun _ hk => hk.2) (.slice Ao17 t292.length co17)) (fun _ hk => hk.2) (.slice Ao18 t295.length co18)) (fun _ h_ => h_.1))) hb); have n5_ := zj (zs (by (with_reducible repeat (first | apply zd | apply ze | apply zf)); exact (zm (zn (p := ⟨gb299, 3, none⟩) (zn (p := ⟨gb299, 2, none⟩) (zn (p := ⟨gb299, 1, none⟩) (zn (p := ⟨gb299, 0, none⟩) (zt HO297.out BK299.out (by decide)) (fun _ hk => hk.2) (.bool t288)) (fun _ hk => hk.2) (.slice Ao16 t289.length co16)) (fun _ hk => hk.2) (.slice Ao17 t292.length co17)) (fun _ hk => hk.2) (.slice Ao18 t295.length co18)) (fun _ h_ => h_.1))) hb); have n6_ := zj (zo (g := gb287) (o := .cells #[.bool t276, .slice Ao9 t277.length co9, .slice Ao10 t280.length co10, .slice Ao11 t283.length co11] 29 (0, 0)) (by (with_reducible repeat (first | refine za ?_ _ | refine zb ?_ | refine zc ?_ _)); refine blk_far ?_ NB287_299.out _; (with_reducible repeat (first | refine za ?_ _ | refine zb ?_ | refine zc ?_ _)); refine blk_far ?_ NB287_299.out _; (with_reducible repeat (first | refine za ?_ _ | refine zb ?_ | refine zc ?_ _)); refine blk_far ?_ NB287_299.out _; (with_reducible repeat (first | refine za ?_ _ | refine zb ?_ | refine zc ?_ _)); refine blk_far ?_ NB287_299.out _; (with_reducible repeat (first | refine za ?_ _ | refine zb ?_ | refine zc ?_ _)); exact BK287.out) hb); have n7_ := zj (zo (g := gb299) (o := .cells #[.bool t288, .slice Ao16 t289.length co16, .slice Ao17 t292.length co17, .slice Ao18 t295.length co18] 29 (0, 0)) (by (with_reducible repeat (first | refine za ?_ _ | refine zb ?_ | refine zc ?_ _)); refine zp (cs := #[.bool t288, .slice Ao16 t289.length co16, .slice Ao17 t292.length co17, .slice none 0 0]) ?_ 3 _ rfl; (with_reducible repeat (first | refine za ?_ _ | refine zb ?_ | refine zc ?_ _)); refine zp (cs := #[.bool t288, .slice Ao16 t289.length co16, .slice none 0 0, .slice none 0 0]) ?_ 2 _ rfl; (with_reducible repeat (first | refine za ?_ _ | refine zb ?_ | refine zc ?_ _)); refine zp (cs := #[.bool t288, .slice none 0 0, .slice none 0 0, .slice none 0 0]) ?_ 1 _ rfl; (with_reducible repeat (first | refine za ?_ _ | refine zb ?_ | refine zc ?_ _)); refine zp (cs := #[.bool false, .slice none 0 0, .slice none 0 0, .slice none 0 0]) ?_ 0 _ rfl; (with_reducible repeat (first | refine za ?_ _ | refine zb ?_ | refine zc ?_ _)); exact BK299.out) hb); have n8_ := zj (zl (by repeat (first | (with_reducible first | exact HB.out | apply zg | apply zh | apply zi | refine zr ?_ GE287.out | refine zr ?_ GE299.out) | exact HB.out)) hb); clear HO279; clear HO282; clear HO285; clear HO291; clear HO294; clear HO297; clear BK287; clear BK299; clear HB; have HO279 := n0_; have HO282 := n1_; have HO285 := n2_; have HO291 := n3_; have HO294 := n4_; have HO297 := n5_; have BK287 := n6_; have BK299 := n7_; have HB := n8_; clear n0_ n1_ n2_ n3_ n4_ n5_ n6_ n7_ n8_; (try clear hb); (try clear hb2); (try clear hk); (try clear hi)))
    go_meet
    case rel => exact ⟨_, ((t298 != t286)), (by first | rfl | (simp; done) | (simp [*]; done)), H', ⟨by first | omega | exact Nat.le_refl _⟩, ⟨by (with_reducible repeat (first | apply zd | apply ze | apply zf)); exact zm HO279.out (fun _ hk => ⟨hk.1.1, ⟨hk.1.2, hk.2⟩⟩)⟩, ⟨by (with_reducible repeat (first | apply zd | apply ze | apply zf)); exact zm HO282.out (fun _ hk => ⟨hk.1.1, ⟨hk.1.2, hk.2⟩⟩)⟩, ⟨by (with_reducible repeat (first | apply zd | apply ze | apply zf)); exact zm HO285.out (fun _ hk => hk.2)⟩, ⟨by (with_reducible repeat (first | apply zd | apply ze | apply zf)); exact zm HO291.out (fun _ hk => ⟨hk.1.2, ⟨hk.2, hk.1.1⟩⟩)⟩, ⟨by (with_reducible repeat (first | apply zd | apply ze | apply zf)); exact zm HO294.out (fun _ hk => ⟨hk.1.2, ⟨hk.2, hk.1.1⟩⟩)⟩, ⟨by (with_reducible repeat (first | apply zd | apply ze | apply zf)); exact zm HO297.out (fun _ hk => hk.2)⟩, ⟨by (with_reducible repeat (first | refine za ?_ _ | refine zb ?_ | refine zc ?_ _)); exact BK287.out⟩, ⟨by (with_reducible repeat (first | refine za ?_ _ | refine zb ?_ | refine zc ?_ _)); exact BK299.out⟩, ⟨by repeat (first | (with_reducible first | exact HB.out | apply zg | apply zh | apply zi | refine zr ?_ GE287.out | refine zr ?_ GE299.out) | exact HB.out)⟩⟩
   ·replace c20 := Bool.eq_false_iff.mpr c20
    subst c20
    have H1 : (none) = some r := by rw [if_neg (show ¬ (false = true) by decide)] at H; exact H
    clear H
    have H := H1
    clear H1
    exact absurd H (by simp)
  case rest =>
   clear HC5
   try clear c1
   try clear c2
   try clear c2b0
   try clear c2b1
   try clear p2
   try clear c5
   try clear c9
   try clear c14
   try clear c18
   try clear c20
   try clear c21
   try clear hcz15_0
   try clear hcz15_1
   try clear hcz15_2
   try clear hcz15_3
   try clear hcz22_0
   try clear hcz22_1
   try clear hcz22_2
   try clear hcz22_3
   try clear hcz23_0
   try clear hcz23_1
   try clear hcz23_2
   try clear hcz23_3
   try clear hcz8_0
   try clear hcz8_1
   try clear hcz8_2
   try clear hcz8_3
   try clear hfz15_0
   try clear hfz15_1
   try clear hfz15_2
   try clear hfz15_3
   try clear hfz22_0
   try clear hfz22_1
   try clear hfz22_2
   try clear hfz22_3
   try clear hfz23_0
   try clear hfz23_1
   try clear hfz23_2
   try clear hfz23_3
   try clear hfz8_0
   try clear hfz8_1
   try clear hfz8_2
   try clear hfz8_3
   obtain ⟨kq, x32_4, rfl, HA, HJ4, HO_288001, HO_288002, HO_288003, HO_300001, HO_300002, HO_300003, BK287, BK299, HB⟩ := hcut
   cases kq with
   | zero => exact absurd HA.out (by simp [laws_FnExactReadNode.j0])
   | succ kj4 =>
    have H := HA.out
    clear HA
    simp only [laws_FnExactReadNode.j0] at H
    by_cases c25 : x32_4 = true
    ·subst c25
     have H1 : (none) = some r := by rw [if_pos rfl] at H; exact H
     clear H
     have H := H1
     clear H1
     exact absurd H (by simp)
    ·replace c25 := Bool.eq_false_iff.mpr c25
     subst c25
     have H1 : ((laws_markNode.f kj4 t288 t289 t292 t295 1).bind fun bt301 => ((laws_heldNode.f kj4 t288 bt301.2.1 bt301.2.2.1 bt301.2.2.2 1).bind fun t305 => (if t305 < 0 then (none) else (if t305 = bt301.1 then ((impl_ReadNode.f kj4 a0).bind fun bt306 => ((laws_eqNode.f kj4 bt306.1 bt306.2.1 bt306.2.2.1 bt306.2.2.2.1 t276 t277 t280 t283).bind fun t318 => (if t318 = true then (laws_FnExactReadNode.j1 kj4 bt301.1 (bt306.2.2.2.2 != t286) t288 bt301.2.1 bt301.2.2.1 bt301.2.2.2) else (none)))) else (none))))) = some r := by rw [if_neg (show ¬ (false = true) by decide)] at H; exact H
     clear H
     have H := H1
     clear H1
     replace H := Option.bind_eq_some_iff.mp H
     obtain ⟨⟨t301, t302, t303, t304⟩, A260, H⟩ := H
     replace H : ((laws_heldNode.f kj4 t288 t302 t303 t304 1).bind fun t305 => (if t305 < 0 then (none) else (if t305 = t301 then ((impl_ReadNode.f kj4 a0).bind fun bt306 => ((laws_eqNode.f kj4 bt306.1 bt306.2.1 bt306.2.2.1 bt306.2.2.2.1 t276 t277 t280 t283).bind fun t318 => (if t318 = true then (laws_FnExactReadNode.j1 kj4 t301 (bt306.2.2.2.2 != t286) t288 t302 t303 t304) else (none)))) else (none)))) = some r := H
     have A26 := zj A260
     clear A260
     replace H := Option.bind_eq_some_iff.mp H
     obtain ⟨t305, A270, H⟩ := H
     replace H : (if t305 < 0 then (none) else (if t305 = t301 then ((impl_ReadNode.f kj4 a0).bind fun bt306 => ((laws_eqNode.f kj4 bt306.1 bt306.2.1 bt306.2.2.1 bt306.2.2.2.1 t276 t277 t280 t283).bind fun t318 => (if t318 = true then (laws_FnExactReadNode.j1 kj4 t301 (bt306.2.2.2.2 != t286) t288 t302 t303 t304) else (none)))) else (none))) = some r := H
     have A27 := zj A270
     clear A270
     by_cases c28 : t305 < 0
     ·rw [if_pos c28] at H
      exact absurd H (by simp)
     ·rw [if_neg c28] at H
      have c28b0 : decide (t305 < 0) = false := decide_eq_false c28
      clear c28
      by_cases c29 : t305 = t301
      ·rw [if_pos c29] at H
       have c29b0 : (t305 == t301) = true := beq_iff_eq.mpr c29
       have c29b1 : (t305 != t301) = false := bne_eq_false_iff_eq.mpr c29
       clear c29
       replace H := Option.bind_eq_some_iff.mp H
       obtain ⟨⟨t306, t307, t310, t313, t316⟩, A300, H⟩ := H
       replace H : ((laws_eqNode.f kj4 t306 t307 t310 t313 t276 t277 t280 t283).bind fun t318 => (if t318 = true then (laws_FnExactReadNode.j1 kj4 t301 (t316 != t286) t288 t302 t303 t304) else (none))) = some r := H
       have A30 := zj A300
       clear A300
       have HC31 := zj H
       clear H
       have hnb32 := NB299_287.out
       have hnc32 := NB287_299.out
       have hcz33_0 : wc.cell? ⟨gb299, 0, none⟩ = some (.bool t288) := (zq BK299.out 0).trans rfl
       have hcz33_1 : wc.cell? ⟨gb299, 1, none⟩ = some (.slice Ao16 t289.length co16) := (zq BK299.out 1).trans rfl
       have hcz33_2 : wc.cell? ⟨gb299, 2, none⟩ = some (.slice Ao17 t292.length co17) := (zq BK299.out 2).trans rfl
       have hcz33_3 : wc.cell? ⟨gb299, 3, none⟩ = some (.slice Ao18 t295.length co18) := (zq BK299.out 3).trans rfl
       have hfz33_0 := zu BK299.out 0
       have hfz33_1 := zu BK299.out 1
       have hfz33_2 := zu BK299.out 2
       have hfz33_3 := zu BK299.out 3
       go_upto_region 16 with (first | ((with_reducible refine gate_callee (f := 58) rfl ?_); refine goesL_ (some 35) rfl rfl Try.func58 (by kernel_rfl) rfl #[.agg #[.bool t288, .slice Ao16 t289.length co16, .slice Ao17 t292.length co17, .slice Ao18 t295.length co18], .int .i64 1] rfl (by (try simp only [List.map_toArray, List.map_cons, List.map_nil]); first | done | rfl | (simp only [List.length_drop, List.length_take]; rfl)) ?_; (with_reducible refine (laws_markNode.calls kj4 t288 (fun k_ => some k_ = (.slice Ao16 t289.length co16 : Value).ownBlock) (.slice Ao16 t289.length co16) t289 (fun k_ => some k_ = (.slice Ao17 t292.length co17 : Value).ownBlock) (.slice Ao17 t292.length co17) t292 (fun k_ => some k_ = (.slice Ao18 t295.length co18 : Value).ownBlock) (.slice Ao18 t295.length co18) t295 1 t301 t302 t303 t304 w _ ?side1 ?side2 ?side3 ?side4 ?side5 ?side6 A26.out).mono ?_); (case side1 => repeat (first | (with_reducible first | exact HB.out | apply zg | apply zh | apply zi | refine zr ?_ GE287.out | refine zr ?_ GE299.out) | exact HB.out)); (case side2 => exact Kd.R_tight rfl HO_300001.out); (case side3 => exact fun k_ e_ => (HO_300001.out.1 k_ e_.symm).2.2); (case side4 => exact Kd.R_tight rfl HO_300002.out); (case side5 => exact fun k_ e_ => (HO_300002.out.1 k_ e_.symm).2.2); (case side6 => exact Kd.R_tight rfl HO_300003.out); rintro e w34 ⟨rfl, hy0, hy1, hy2, hb, hkp⟩; refine ⟨_, rfl, ?_⟩; have n0_ := zj (zm (ok' := fun k_ => some k_ ≠ (.slice Ao10 t280.length co10 : Value).ownBlock ∧ some k_ ≠ (.slice Ao16 t289.length co16 : Value).ownBlock ∧ some k_ ≠ (.slice Ao17 t292.length co17 : Value).ownBlock) (Kd.R_keptB ((Kd.R_apart' HO_288001.out (Kd.R_typed HO_300003.out) (by decide))) hkp (fun k_ hk_ hs_ => Or.elim hs_ (fun e_ => (hk_.1.2.1) e_) (fun e_ => Or.elim e_ (fun e_ => (hk_.1.2.2) e_) (fun e_ => (hk_.2) e_)))) (fun k_ hk_ => ⟨hk_.1.1.1, hk_.1.1.2.1, hk_.1.1.2.2⟩)); have n1_ := zj (zm (ok' := fun k_ => some k_ ≠ (.slice Ao9 t277.length co9 : Value).ownBlock ∧ some k_ ≠ (.slice Ao16 t289.length co16 : Value).ownBlock ∧ some k_ ≠ (.slice Ao17 t292.length co17 : Value).ownBlock) (Kd.R_keptB ((Kd.R_apart' HO_288002.out (Kd.R_typed HO_300003.out) (by decide))) hkp (fun k_ hk_ hs_ => Or.elim hs_ (fun e_ => (hk_.1.2.1) e_) (fun e_ => Or.elim e_ (fun e_ => (hk_.1.2.2) e_) (fun e_ => (hk_.2) e_)))) (fun k_ hk_ => ⟨hk_.1.1.1, hk_.1.1.2.1, hk_.1.1.2.2⟩)); have n2_ := zj (zm (ok' := fun k_ => some k_ ≠ (.slice Ao18 t295.length co18 : Value).ownBlock) (Kd.R_keptB ((Kd.R_apart' (Kd.R_apart' HO_288003.out (Kd.R_typed HO_300001.out) (by decide)) (Kd.R_typed HO_300002.out) (by decide))) hkp (fun k_ hk_ hs_ => Or.elim hs_ (fun e_ => (hk_.1.2) e_) (fun e_ => Or.elim e_ (fun e_ => (hk_.2) e_) (fun e_ => (hk_.1.1) e_)))) (fun k_ hk_ => hk_.1.1.1)); have n3_ := zj (Kd.R_reok rfl hy0 (fun k_ e_ => HO_300001.out.1 k_ e_)); have n4_ := zj (Kd.R_reok rfl hy1 (fun k_ e_ => HO_300002.out.1 k_ e_)); have n5_ := zj (Kd.R_reok rfl hy2 (fun k_ e_ => HO_300003.out.1 k_ e_)); have n6_ := zj (blk_kept (g := gb287) (o := .cells #[.bool t276, .slice Ao9 t277.length co9, .slice Ao10 t280.length co10, .slice Ao11 t283.length co11] 29 (0, 0)) (by (with_reducible repeat (first | refine za ?_ _ | refine zb ?_ | refine zc ?_ _)); exact BK287.out) hkp (fun hs_ => Or.elim hs_ (fun e_ => (fun e_ => (Kd.R_ne HO_300001.out BK287.out (by decide)) e_) e_) (fun e_ => Or.elim e_ (fun e_ => (fun e_ => (Kd.R_ne HO_300002.out BK287.out (by decide)) e_) e_) (fun e_ => (fun e_ => (Kd.R_ne HO_300003.out BK287.out (by decide)) e_) e_)))); have n7_ := zj (blk_kept (g := gb299) (o := .cells #[.bool t288, .slice Ao16 t289.length co16, .slice Ao17 t292.length co17, .slice Ao18 t295.length co18] 29 (0, 0)) (by (with_reducible repeat (first | refine za ?_ _ | refine zb ?_ | refine zc ?_ _)); exact BK299.out) hkp (fun hs_ => Or.elim hs_ (fun e_ => (fun e_ => (Kd.R_ne HO_300001.out BK299.out (by decide)) e_) e_) (fun e_ => Or.elim e_ (fun e_ => (fun e_ => (Kd.R_ne HO_300002.out BK299.out (by decide)) e_) e_) (fun e_ => (fun e_ => (Kd.R_ne HO_300003.out BK299.out (by decide)) e_) e_)))); have n8_ := zj (hb); clear HO_288001; clear HO_288002; clear HO_288003; clear HO_300001; clear HO_300002; clear HO_300003; clear BK287; clear BK299; clear HB; have HO_288001 := n0_; have HO_288002 := n1_; have HO_288003 := n2_; have HO_300001 := n3_; have HO_300002 := n4_; have HO_300003 := n5_; have BK287 := n6_; have BK299 := n7_; have HB := n8_; clear n0_ n1_ n2_ n3_ n4_ n5_ n6_ n7_ n8_; (try clear hb); (try clear hkp); (try clear hy0); (try clear hy1); (try clear hy2); have hcz35_0 : w34.cell? ⟨gb299, 0, none⟩ = some (.bool t288) := (zq BK299.out 0).trans rfl; have hcz35_1 : w34.cell? ⟨gb299, 1, none⟩ = some (.slice Ao16 t289.length co16) := (zq BK299.out 1).trans rfl; have hcz35_2 : w34.cell? ⟨gb299, 2, none⟩ = some (.slice Ao17 t292.length co17) := (zq BK299.out 2).trans rfl; have hcz35_3 : w34.cell? ⟨gb299, 3, none⟩ = some (.slice Ao18 t295.length co18) := (zq BK299.out 3).trans rfl; have hfz35_0 := zu BK299.out 0; have hfz35_1 := zu BK299.out 1; have hfz35_2 := zu BK299.out 2; have hfz35_3 := zu BK299.out 3) | ((with_reducible refine gate_callee (f := 59) rfl ?_); refine goesL_ (some 38) rfl rfl Try.func59 (by kernel_rfl) rfl #[.agg #[.bool t288, .slice Ao16 t302.length co16, .slice Ao17 t303.length co17, .slice Ao18 t304.length co18], .int .i64 1] rfl (by (try simp only [List.map_toArray, List.map_cons, List.map_nil]); first | done | (rw [show t302.length = t289.length from (Kd.R_reads' HO_300001.out).1.symm, show t303.length = t292.length from (Kd.R_reads' HO_300002.out).1.symm, show t304.length = t295.length from (Kd.R_reads' HO_300003.out).1.symm] <;> rfl) | rfl | (simp only [List.length_drop, List.length_take]; rfl)) ?_; (with_reducible refine (laws_heldNode.calls kj4 t288 _ _ t302 _ _ t303 _ _ t304 1 t305 _ ?side1 ?side2 ?side3 ?side4 ?side5 ?side6 A27.out).mono ?_); (case side1 => repeat (first | exact (Kd.R_reads' HO_300001.out).2.2 | (with_reducible refine Kd.C_alloc ?_ _) | (with_reducible refine Kd.C_drewN ?_ _) | (with_reducible refine Kd.C_drew ?_))); (case side2 => rw [show t302.length = t289.length from (Kd.R_reads' HO_300001.out).1.symm]; exact (Kd.R_reads' HO_300001.out).2.1); (case side3 => repeat (first | exact (Kd.R_reads' HO_300002.out).2.2 | (with_reducible refine Kd.C_alloc ?_ _) | (with_reducible refine Kd.C_drewN ?_ _) | (with_reducible refine Kd.C_drew ?_))); (case side4 => rw [show t303.length = t292.length from (Kd.R_reads' HO_300002.out).1.symm]; exact (Kd.R_reads' HO_300002.out).2.1); (case side5 => repeat (first | exact (Kd.R_reads' HO_300003.out).2.2 | (with_reducible refine Kd.C_alloc ?_ _) | (with_reducible refine Kd.C_drewN ?_ _) | (with_reducible refine Kd.C_drew ?_))); (case side6 => rw [show t304.length = t295.length from (Kd.R_reads' HO_300003.out).1.symm]; exact (Kd.R_reads' HO_300003.out).2.1); rintro e w36 ⟨rfl, hb⟩; refine ⟨_, rfl, ?_⟩; have n0_ := zj (zs (by (with_reducible repeat (first | apply zd | apply ze | apply zf)); exact HO_288001.out) hb); have n1_ := zj (zs (by (with_reducible repeat (first | apply zd | apply ze | apply zf)); exact HO_288002.out) hb); have n2_ := zj (zs (by (with_reducible repeat (first | apply zd | apply ze | apply zf)); exact HO_288003.out) hb); have n3_ := zj (zs (by (with_reducible repeat (first | apply zd | apply ze | apply zf)); exact HO_300001.out) hb); have n4_ := zj (zs (by (with_reducible repeat (first | apply zd | apply ze | apply zf)); exact HO_300002.out) hb); have n5_ := zj (zs (by (with_reducible repeat (first | apply zd | apply ze | apply zf)); exact HO_300003.out) hb); have n6_ := zj (zo (g := gb287) (o := .cells #[.bool t276, .slice Ao9 t277.length co9, .slice Ao10 t280.length co10, .slice Ao11 t283.length co11] 29 (0, 0)) (by (with_reducible repeat (first | refine za ?_ _ | refine zb ?_ | refine zc ?_ _)); exact BK287.out) hb); have n7_ := zj (zo (g := gb299) (o := .cells #[.bool t288, .slice Ao16 t289.length co16, .slice Ao17 t292.length co17, .slice Ao18 t295.length co18] 29 (0, 0)) (by (with_reducible repeat (first | refine za ?_ _ | refine zb ?_ | refine zc ?_ _)); exact BK299.out) hb); have n8_ := zj (zl (by repeat (first | (with_reducible first | exact HB.out | apply zg | apply zh | apply zi | refine zr ?_ GE287.out | refine zr ?_ GE299.out) | exact HB.out)) hb); clear HO_288001; clear HO_288002; clear HO_288003; clear HO_300001; clear HO_300002; clear HO_300003; clear BK287; clear BK299; clear HB; have HO_288001 := n0_; have HO_288002 := n1_; have HO_288003 := n2_; have HO_300001 := n3_; have HO_300002 := n4_; have HO_300003 := n5_; have BK287 := n6_; have BK299 := n7_; have HB := n8_; clear n0_ n1_ n2_ n3_ n4_ n5_ n6_ n7_ n8_; (try clear hb); (try clear hb2); (try clear hk); (try clear hi)) | ((with_reducible refine gate_callee (f := 57) rfl ?_); refine goesL_ (some 46) rfl rfl Try.func57 (by kernel_rfl) rfl #[.string a0] rfl (by (try simp only [List.map_toArray, List.map_cons, List.map_nil]); first | done | rfl | (simp only [List.length_drop, List.length_take]; rfl)) ?_; (with_reducible refine (impl_ReadNode.calls kj4 a0 t306 t307 t310 t313 t316 _ A30.out).mono ?_); rintro e w37 ⟨v308, v311, v314, rfl, ho0, ho1, ho2, hb⟩; refine ⟨_, rfl, ?_⟩; have n0_ := zj (zm (Kd.R_told (Kd.R_told (Kd.R_old (by (with_reducible repeat (first | apply zd | apply ze | apply zf)); exact HO_288001.out) hb) (Kd.R_base ho0)) (Kd.R_base ho1)) (fun _ h_ => h_.1)); have n1_ := zj (zm (Kd.R_told (Kd.R_told (Kd.R_old (by (with_reducible repeat (first | apply zd | apply ze | apply zf)); exact HO_288002.out) hb) (Kd.R_base ho0)) (Kd.R_base ho1)) (fun _ h_ => h_.1)); have n2_ := zj (Kd.R_elder' (by (with_reducible repeat (first | apply zd | apply ze | apply zf)); exact HO_288003.out) (Kd.R_base ho2) hb); have n3_ := zj (zm (Kd.R_told (Kd.R_told (Kd.R_old (by (with_reducible repeat (first | apply zd | apply ze | apply zf)); exact HO_300001.out) hb) (Kd.R_base ho0)) (Kd.R_base ho1)) (fun _ h_ => h_.1)); have n4_ := zj (zm (Kd.R_told (Kd.R_told (Kd.R_old (by (with_reducible repeat (first | apply zd | apply ze | apply zf)); exact HO_300002.out) hb) (Kd.R_base ho0)) (Kd.R_base ho1)) (fun _ h_ => h_.1)); have n5_ := zj (Kd.R_elder' (by (with_reducible repeat (first | apply zd | apply ze | apply zf)); exact HO_300003.out) (Kd.R_base ho2) hb); have n6_ := zj (Kd.R_lower (Kd.R_new' (Kd.R_new' (Kd.R_new' (Kd.R_new' ho0 (Kd.R_lt (by (with_reducible repeat (first | apply zd | apply ze | apply zf)); exact HO_288001.out))) (Kd.R_lt (by (with_reducible repeat (first | apply zd | apply ze | apply zf)); exact HO_288002.out))) (Kd.R_lt (by (with_reducible repeat (first | apply zd | apply ze | apply zf)); exact HO_300001.out))) (Kd.R_lt (by (with_reducible repeat (first | apply zd | apply ze | apply zf)); exact HO_300002.out))) (zk (by repeat (first | (with_reducible first | exact HB.out | apply zg | apply zh | apply zi | refine zr ?_ GE287.out | refine zr ?_ GE299.out) | exact HB.out)))); have n7_ := zj (Kd.R_lower (Kd.R_new' (Kd.R_new' (Kd.R_new' (Kd.R_new' ho1 (Kd.R_lt (by (with_reducible repeat (first | apply zd | apply ze | apply zf)); exact HO_288001.out))) (Kd.R_lt (by (with_reducible repeat (first | apply zd | apply ze | apply zf)); exact HO_288002.out))) (Kd.R_lt (by (with_reducible repeat (first | apply zd | apply ze | apply zf)); exact HO_300001.out))) (Kd.R_lt (by (with_reducible repeat (first | apply zd | apply ze | apply zf)); exact HO_300002.out))) (zk (by repeat (first | (with_reducible first | exact HB.out | apply zg | apply zh | apply zi | refine zr ?_ GE287.out | refine zr ?_ GE299.out) | exact HB.out)))); have n8_ := zj (Kd.R_lower (Kd.R_new' (Kd.R_new' ho2 (Kd.R_lt (by (with_reducible repeat (first | apply zd | apply ze | apply zf)); exact HO_288003.out))) (Kd.R_lt (by (with_reducible repeat (first | apply zd | apply ze | apply zf)); exact HO_300003.out))) (zk (by repeat (first | (with_reducible first | exact HB.out | apply zg | apply zh | apply zi | refine zr ?_ GE287.out | refine zr ?_ GE299.out) | exact HB.out)))); have n9_ := zj (zo (g := gb287) (o := .cells #[.bool t276, .slice Ao9 t277.length co9, .slice Ao10 t280.length co10, .slice Ao11 t283.length co11] 29 (0, 0)) (by (with_reducible repeat (first | refine za ?_ _ | refine zb ?_ | refine zc ?_ _)); exact BK287.out) hb); have n10_ := zj (zo (g := gb299) (o := .cells #[.bool t288, .slice Ao16 t289.length co16, .slice Ao17 t292.length co17, .slice Ao18 t295.length co18] 29 (0, 0)) (by (with_reducible repeat (first | refine za ?_ _ | refine zb ?_ | refine zc ?_ _)); exact BK299.out) hb); have n11_ := zj (zl (by repeat (first | (with_reducible first | exact HB.out | apply zg | apply zh | apply zi | refine zr ?_ GE287.out | refine zr ?_ GE299.out) | exact HB.out)) hb); clear HO_288001; clear HO_288002; clear HO_288003; clear HO_300001; clear HO_300002; clear HO_300003; clear BK287; clear BK299; clear HB; have HO_288001 := n0_; have HO_288002 := n1_; have HO_288003 := n2_; have HO_300001 := n3_; have HO_300002 := n4_; have HO_300003 := n5_; have HO309 := n6_; have HO312 := n7_; have HO315 := n8_; have BK287 := n9_; have BK299 := n10_; have HB := n11_; clear n0_ n1_ n2_ n3_ n4_ n5_ n6_ n7_ n8_ n9_ n10_ n11_; (try clear hb); (try clear hb2); (try clear hk); (try clear hi); (try clear ho0); (try clear ho1); (try clear ho2)) | ((with_reducible refine gate_dst (N := 9) rfl ?_); refine box_event ?hg (N := 9) ?hd (cs := #[.bool false, .slice none 0 0, .slice none 0 0, .slice none 0 0]) (t := 29) ?hr ?_; (case hd => rfl); (case hg => rfl); (case hr => first | (go_simp; done) | (go_simp; rfl)); intro gb317 hg w38 hbox hb; have n0_ := zj (zs (by (with_reducible repeat (first | apply zd | apply ze | apply zf)); exact HO_288001.out) hb); have n1_ := zj (zs (by (with_reducible repeat (first | apply zd | apply ze | apply zf)); exact HO_288002.out) hb); have n2_ := zj (zs (by (with_reducible repeat (first | apply zd | apply ze | apply zf)); exact HO_288003.out) hb); have n3_ := zj (zs (by (with_reducible repeat (first | apply zd | apply ze | apply zf)); exact HO_300001.out) hb); have n4_ := zj (zs (by (with_reducible repeat (first | apply zd | apply ze | apply zf)); exact HO_300002.out) hb); have n5_ := zj (zs (by (with_reducible repeat (first | apply zd | apply ze | apply zf)); exact HO_300003.out) hb); have n6_ := zj (zs (by (with_reducible repeat (first | apply zd | apply ze | apply zf)); exact HO309.out) hb); have n7_ := zj (zs (by (with_reducible repeat (first | apply zd | apply ze | apply zf)); exact HO312.out) hb); have n8_ := zj (zs (by (with_reducible repeat (first | apply zd | apply ze | apply zf)); exact HO315.out) hb); have n9_ := zj (zo (g := gb287) (o := .cells #[.bool t276, .slice Ao9 t277.length co9, .slice Ao10 t280.length co10, .slice Ao11 t283.length co11] 29 (0, 0)) (by (with_reducible repeat (first | refine za ?_ _ | refine zb ?_ | refine zc ?_ _)); exact BK287.out) hb); have n10_ := zj (zo (g := gb299) (o := .cells #[.bool t288, .slice Ao16 t289.length co16, .slice Ao17 t292.length co17, .slice Ao18 t295.length co18] 29 (0, 0)) (by (with_reducible repeat (first | refine za ?_ _ | refine zb ?_ | refine zc ?_ _)); exact BK299.out) hb); have n11_ := zj (zl (by repeat (first | (with_reducible first | exact HB.out | apply zg | apply zh | apply zi | refine zr ?_ GE287.out | refine zr ?_ GE299.out) | exact HB.out)) hb); have n12_ := zj (hbox); have n13_ := zj ((by rw [hg]; exact (zk (by repeat (first | (with_reducible first | exact HB.out | apply zg | apply zh | apply zi | refine zr ?_ GE287.out | refine zr ?_ GE299.out) | exact HB.out))) : w.heap.size ≤ gb317)); have n14_ := zj ((by rw [hg]; exact (zk (by repeat (first | (with_reducible first | exact HB.out | apply zg | apply zh | apply zi | refine zr ?_ GE287.out | refine zr ?_ GE299.out) | exact HB.out))) : w.heap.size ≤ gb317)); have n15_ := zj ((by rw [hg]; exact Nat.ne_of_lt (blk_lt (g := gb287) (o := .cells #[.bool t276, .slice Ao9 t277.length co9, .slice Ao10 t280.length co10, .slice Ao11 t283.length co11] 29 (0, 0)) (by (with_reducible repeat (first | refine za ?_ _ | refine zb ?_ | refine zc ?_ _)); exact BK287.out)) : gb287 ≠ gb317)); have n16_ := zj ((by rw [hg]; exact Nat.ne_of_gt (blk_lt (g := gb287) (o := .cells #[.bool t276, .slice Ao9 t277.length co9, .slice Ao10 t280.length co10, .slice Ao11 t283.length co11] 29 (0, 0)) (by (with_reducible repeat (first | refine za ?_ _ | refine zb ?_ | refine zc ?_ _)); exact BK287.out)) : gb317 ≠ gb287)); have n17_ := zj ((by rw [hg]; exact Nat.ne_of_lt (blk_lt (g := gb299) (o := .cells #[.bool t288, .slice Ao16 t289.length co16, .slice Ao17 t292.length co17, .slice Ao18 t295.length co18] 29 (0, 0)) (by (with_reducible repeat (first | refine za ?_ _ | refine zb ?_ | refine zc ?_ _)); exact BK299.out)) : gb299 ≠ gb317)); have n18_ := zj ((by rw [hg]; exact Nat.ne_of_gt (blk_lt (g := gb299) (o := .cells #[.bool t288, .slice Ao16 t289.length co16, .slice Ao17 t292.length co17, .slice Ao18 t295.length co18] 29 (0, 0)) (by (with_reducible repeat (first | refine za ?_ _ | refine zb ?_ | refine zc ?_ _)); exact BK299.out)) : gb317 ≠ gb299)); clear HO_288001; clear HO_288002; clear HO_288003; clear HO_300001; clear HO_300002; clear HO_300003; clear HO309; clear HO312; clear HO315; clear BK287; clear BK299; clear HB; have HO_288001 := n0_; have HO_288002 := n1_; have HO_288003 := n2_; have HO_300001 := n3_; have HO_300002 := n4_; have HO_300003 := n5_; have HO309 := n6_; have HO312 := n7_; have HO315 := n8_; have BK287 := n9_; have BK299 := n10_; have HB := n11_; have BK317 := n12_; have GW317 := n13_; have GE317 := n14_; have NB287_317 := n15_; have NB317_287 := n16_; have NB299_317 := n17_; have NB317_299 := n18_; clear n0_ n1_ n2_ n3_ n4_ n5_ n6_ n7_ n8_ n9_ n10_ n11_ n12_ n13_ n14_ n15_ n16_ n17_ n18_; clear hb hbox hg; have hnb39 := NB317_287.out; have hnc39 := NB287_317.out; have hnb40 := NB317_299.out; have hnc40 := NB299_317.out; have hcz41_0 : w38.cell? ⟨gb317, 0, none⟩ = some (.bool false) := (zq BK317.out 0).trans rfl; have hcz41_1 : w38.cell? ⟨gb317, 1, none⟩ = some (.slice none 0 0) := (zq BK317.out 1).trans rfl; have hcz41_2 : w38.cell? ⟨gb317, 2, none⟩ = some (.slice none 0 0) := (zq BK317.out 2).trans rfl; have hcz41_3 : w38.cell? ⟨gb317, 3, none⟩ = some (.slice none 0 0) := (zq BK317.out 3).trans rfl; have hfz41_0 := zu BK317.out 0; have hfz41_1 := zu BK317.out 1; have hfz41_2 := zu BK317.out 2; have hfz41_3 := zu BK317.out 3; obtain ⟨Ao42, co42, eo42⟩ := Kd.R_slice HO309.out; subst eo42; obtain ⟨Ao43, co43, eo43⟩ := Kd.R_slice HO312.out; subst eo43; obtain ⟨Ao44, co44, eo44⟩ := Kd.R_slice HO315.out; subst eo44))
       (try simp only [Act.put, List.setIfInBounds_toArray, List.set_cons_zero, List.set_cons_succ])
       go_cut [57] (fun v57 wc => ∃ (kq : Nat) (x57_30 : Bool), v57 = .bool x57_30 ∧ Aside0 (laws_FnExactReadNode.j1 kq t301 x57_30 t288 t302 t303 t304 = some r) ∧ Aside0 (kq ≤ kj4) ∧ Aside0 (Kd.R Kd.string 9 wc w.heap.size (fun k_ => some k_ ≠ ((.slice Ao10 t280.length co10) : Value).ownBlock ∧ some k_ ≠ ((.slice Ao16 t289.length co16) : Value).ownBlock ∧ some k_ ≠ ((.slice Ao17 t292.length co17) : Value).ownBlock ∧ some k_ ≠ ((.slice Ao42 t307.length co42) : Value).ownBlock ∧ some k_ ≠ ((.slice Ao43 t310.length co43) : Value).ownBlock) (.slice Ao9 t277.length co9) t277) ∧ Aside0 (Kd.R Kd.string 9 wc w.heap.size (fun k_ => some k_ ≠ ((.slice Ao9 t277.length co9) : Value).ownBlock ∧ some k_ ≠ ((.slice Ao16 t289.length co16) : Value).ownBlock ∧ some k_ ≠ ((.slice Ao17 t292.length co17) : Value).ownBlock ∧ some k_ ≠ ((.slice Ao42 t307.length co42) : Value).ownBlock ∧ some k_ ≠ ((.slice Ao43 t310.length co43) : Value).ownBlock) (.slice Ao10 t280.length co10) t280) ∧ Aside0 (Kd.R (Kd.int .i64) 3 wc w.heap.size (fun k_ => some k_ ≠ ((.slice Ao18 t295.length co18) : Value).ownBlock ∧ some k_ ≠ ((.slice Ao44 t313.length co44) : Value).ownBlock) (.slice Ao11 t283.length co11) t283) ∧ Aside0 (Kd.R Kd.string 9 wc w.heap.size (fun k_ => some k_ ≠ ((.slice Ao9 t277.length co9) : Value).ownBlock ∧ some k_ ≠ ((.slice Ao10 t280.length co10) : Value).ownBlock ∧ some k_ ≠ ((.slice Ao17 t292.length co17) : Value).ownBlock ∧ some k_ ≠ ((.slice Ao42 t307.length co42) : Value).ownBlock ∧ some k_ ≠ ((.slice Ao43 t310.length co43) : Value).ownBlock) (.slice Ao16 t289.length co16) t302) ∧ Aside0 (Kd.R Kd.string 9 wc w.heap.size (fun k_ => some k_ ≠ ((.slice Ao9 t277.length co9) : Value).ownBlock ∧ some k_ ≠ ((.slice Ao10 t280.length co10) : Value).ownBlock ∧ some k_ ≠ ((.slice Ao16 t289.length co16) : Value).ownBlock ∧ some k_ ≠ ((.slice Ao42 t307.length co42) : Value).ownBlock ∧ some k_ ≠ ((.slice Ao43 t310.length co43) : Value).ownBlock) (.slice Ao17 t292.length co17) t303) ∧ Aside0 (Kd.R (Kd.int .i64) 3 wc w.heap.size (fun k_ => some k_ ≠ ((.slice Ao11 t283.length co11) : Value).ownBlock ∧ some k_ ≠ ((.slice Ao44 t313.length co44) : Value).ownBlock) (.slice Ao18 t295.length co18) t304) ∧ Aside0 (Kd.R Kd.string 9 wc w.heap.size (fun k_ => some k_ ≠ ((.slice Ao9 t277.length co9) : Value).ownBlock ∧ some k_ ≠ ((.slice Ao10 t280.length co10) : Value).ownBlock ∧ some k_ ≠ ((.slice Ao16 t289.length co16) : Value).ownBlock ∧ some k_ ≠ ((.slice Ao17 t292.length co17) : Value).ownBlock ∧ some k_ ≠ ((.slice Ao43 t310.length co43) : Value).ownBlock) (.slice Ao42 t307.length co42) t307) ∧ Aside0 (Kd.R Kd.string 9 wc w.heap.size (fun k_ => some k_ ≠ ((.slice Ao9 t277.length co9) : Value).ownBlock ∧ some k_ ≠ ((.slice Ao10 t280.length co10) : Value).ownBlock ∧ some k_ ≠ ((.slice Ao16 t289.length co16) : Value).ownBlock ∧ some k_ ≠ ((.slice Ao17 t292.length co17) : Value).ownBlock ∧ some k_ ≠ ((.slice Ao42 t307.length co42) : Value).ownBlock) (.slice Ao43 t310.length co43) t310) ∧ Aside0 (Kd.R (Kd.int .i64) 3 wc w.heap.size (fun k_ => some k_ ≠ ((.slice Ao11 t283.length co11) : Value).ownBlock ∧ some k_ ≠ ((.slice Ao18 t295.length co18) : Value).ownBlock) (.slice Ao44 t313.length co44) t313) ∧ Aside0 (wc.heap[gb287]? = some (.cells #[.bool t276, (.slice Ao9 t277.length co9), (.slice Ao10 t280.length co10), (.slice Ao11 t283.length co11)] 29 (0, 0))) ∧ Aside0 (wc.heap[gb299]? = some (.cells #[.bool t288, (.slice Ao16 t289.length co16), (.slice Ao17 t292.length co17), (.slice Ao18 t295.length co18)] 29 (0, 0))) ∧ Aside0 (wc.heap[gb317]? = some (.cells #[.bool t306, (.slice Ao42 t307.length co42), (.slice Ao43 t310.length co43), (.slice Ao44 t313.length co44)] 29 (0, 0))) ∧ Aside0 (Below w.heap.size w wc))
       case first =>
        have H := HC31.out
        clear HC31
        replace H := Option.bind_eq_some_iff.mp H
        obtain ⟨t318, A450, H⟩ := H
        replace H : (if t318 = true then (laws_FnExactReadNode.j1 kj4 t301 (t316 != t286) t288 t302 t303 t304) else (none)) = some r := H
        have A45 := zj A450
        clear A450
        by_cases c46 : t318 = true
        ·subst c46
         have H1 : (laws_FnExactReadNode.j1 kj4 t301 (t316 != t286) t288 t302 t303 t304) = some r := by rw [if_pos rfl] at H; exact H
         clear H
         have H := H1
         clear H1
         have H' := zj H
         clear H
         have hnb47 := NB317_287.out
         have hnc47 := NB287_317.out
         have hnb48 := NB317_299.out
         have hnc48 := NB299_317.out
         have hcz49_0 : w38.cell? ⟨gb317, 0, none⟩ = some (.bool false) := (zq BK317.out 0).trans rfl
         have hcz49_1 : w38.cell? ⟨gb317, 1, none⟩ = some (.slice none 0 0) := (zq BK317.out 1).trans rfl
         have hcz49_2 : w38.cell? ⟨gb317, 2, none⟩ = some (.slice none 0 0) := (zq BK317.out 2).trans rfl
         have hcz49_3 : w38.cell? ⟨gb317, 3, none⟩ = some (.slice none 0 0) := (zq BK317.out 3).trans rfl
         have hfz49_0 := zu BK317.out 0
         have hfz49_1 := zu BK317.out 1
         have hfz49_2 := zu BK317.out 2
         have hfz49_3 := zu BK317.out 3
         have hnb50 := NB287_299.out
         have hnc50 := NB299_287.out
         have hcz51_0 : w38.cell? ⟨gb287, 0, none⟩ = some (.bool t276) := (zq BK287.out 0).trans rfl
         have hcz51_1 : w38.cell? ⟨gb287, 1, none⟩ = some (.slice Ao9 t277.length co9) := (zq BK287.out 1).trans rfl
         have hcz51_2 : w38.cell? ⟨gb287, 2, none⟩ = some (.slice Ao10 t280.length co10) := (zq BK287.out 2).trans rfl
         have hcz51_3 : w38.cell? ⟨gb287, 3, none⟩ = some (.slice Ao11 t283.length co11) := (zq BK287.out 3).trans rfl
         have hfz51_0 := zu BK287.out 0
         have hfz51_1 := zu BK287.out 1
         have hfz51_2 := zu BK287.out 2
         have hfz51_3 := zu BK287.out 3
         go_wp2_with (first | ((with_reducible refine gate_callee (f := 18) rfl ?_); refine goesL_ (some 51) rfl rfl Try.func18 (by kernel_rfl) rfl #[.agg #[.bool t306, .slice Ao42 t307.length co42, .slice Ao43 t310.length co43, .slice Ao44 t313.length co44], .agg #[.bool t276, .slice Ao9 t277.length co9, .slice Ao10 t280.length co10, .slice Ao11 t283.length co11]] rfl (by (try simp only [List.map_toArray, List.map_cons, List.map_nil]); first | done | rfl | (simp only [List.length_drop, List.length_take]; rfl)) ?_; (with_reducible refine (laws_eqNode.calls kj4 t306 _ _ t307 _ _ t310 _ _ t313 t276 _ _ t277 _ _ t280 _ _ t283 true _ ?side1 ?side2 ?side3 ?side4 ?side5 ?side6 ?side7 ?side8 ?side9 ?side10 ?side11 ?side12 A45.out).mono ?_); (case side1 => refine (Kd.R_reads' (e := 9) (base := w.heap.size) (ok := fun k_ => ((((some k_ ≠ (.slice Ao43 t310.length co43 : Value).ownBlock ∧ some k_ ≠ (.slice Ao9 t277.length co9 : Value).ownBlock) ∧ some k_ ≠ (.slice Ao10 t280.length co10 : Value).ownBlock) ∧ some k_ ≠ (.slice Ao16 t289.length co16 : Value).ownBlock) ∧ some k_ ≠ (.slice Ao17 t292.length co17 : Value).ownBlock)) (n := t307.length) (c := co42) ?_).2.2; exact (by (with_reducible repeat (first | apply zd | apply ze | apply zf)); exact (zm (zn (p := ⟨gb317, 3, none⟩) (zn (p := ⟨gb317, 2, none⟩) (zn (p := ⟨gb317, 1, none⟩) (zn (p := ⟨gb317, 0, none⟩) (zt HO309.out BK317.out (by decide)) (fun _ hk => hk.2) (.bool t306)) (fun _ hk => hk.2) (.slice Ao42 t307.length co42)) (fun _ hk => hk.2) (.slice Ao43 t310.length co43)) (fun _ hk => hk.2) (.slice Ao44 t313.length co44)) (fun _ h_ => h_.1)))); (case side2 => exact (Kd.R_reads' HO309.out).2.1); (case side3 => refine (Kd.R_reads' (e := 9) (base := w.heap.size) (ok := fun k_ => ((((some k_ ≠ (.slice Ao42 t307.length co42 : Value).ownBlock ∧ some k_ ≠ (.slice Ao9 t277.length co9 : Value).ownBlock) ∧ some k_ ≠ (.slice Ao10 t280.length co10 : Value).ownBlock) ∧ some k_ ≠ (.slice Ao16 t289.length co16 : Value).ownBlock) ∧ some k_ ≠ (.slice Ao17 t292.length co17 : Value).ownBlock)) (n := t310.length) (c := co43) ?_).2.2; exact (by (with_reducible repeat (first | apply zd | apply ze | apply zf)); exact (zm (zn (p := ⟨gb317, 3, none⟩) (zn (p := ⟨gb317, 2, none⟩) (zn (p := ⟨gb317, 1, none⟩) (zn (p := ⟨gb317, 0, none⟩) (zt HO312.out BK317.out (by decide)) (fun _ hk => hk.2) (.bool t306)) (fun _ hk => hk.2) (.slice Ao42 t307.length co42)) (fun _ hk => hk.2) (.slice Ao43 t310.length co43)) (fun _ hk => hk.2) (.slice Ao44 t313.length co44)) (fun _ h_ => h_.1)))); (case side4 => exact (Kd.R_reads' HO312.out).2.1); (case side5 => refine (Kd.R_reads' (e := 3) (base := w.heap.size) (ok := fun k_ => ((True ∧ some k_ ≠ (.slice Ao11 t283.length co11 : Value).ownBlock) ∧ some k_ ≠ (.slice Ao18 t295.length co18 : Value).ownBlock)) (n := t313.length) (c := co44) ?_).2.2; exact (by (with_reducible repeat (first | apply zd | apply ze | apply zf)); exact (zm (zn (p := ⟨gb317, 3, none⟩) (zn (p := ⟨gb317, 2, none⟩) (zn (p := ⟨gb317, 1, none⟩) (zn (p := ⟨gb317, 0, none⟩) (zt HO315.out BK317.out (by decide)) (fun _ hk => hk.2) (.bool t306)) (fun _ hk => hk.2) (.slice Ao42 t307.length co42)) (fun _ hk => hk.2) (.slice Ao43 t310.length co43)) (fun _ hk => hk.2) (.slice Ao44 t313.length co44)) (fun _ h_ => h_.1)))); (case side6 => exact (Kd.R_reads' HO315.out).2.1); (case side7 => refine (Kd.R_reads' (e := 9) (base := w.heap.size) (ok := fun k_ => (((some k_ ≠ (.slice Ao10 t280.length co10 : Value).ownBlock ∧ (some k_ ≠ (.slice Ao16 t289.length co16 : Value).ownBlock ∧ some k_ ≠ (.slice Ao17 t292.length co17 : Value).ownBlock)) ∧ some k_ ≠ (.slice Ao42 t307.length co42 : Value).ownBlock) ∧ some k_ ≠ (.slice Ao43 t310.length co43 : Value).ownBlock)) (n := t277.length) (c := co9) ?_).2.2; exact (by (with_reducible repeat (first | apply zd | apply ze | apply zf)); exact (zm (zn (p := ⟨gb317, 3, none⟩) (zn (p := ⟨gb317, 2, none⟩) (zn (p := ⟨gb317, 1, none⟩) (zn (p := ⟨gb317, 0, none⟩) (zt HO_288001.out BK317.out (by decide)) (fun _ hk => hk.2) (.bool t306)) (fun _ hk => hk.2) (.slice Ao42 t307.length co42)) (fun _ hk => hk.2) (.slice Ao43 t310.length co43)) (fun _ hk => hk.2) (.slice Ao44 t313.length co44)) (fun _ h_ => h_.1)))); (case side8 => exact (Kd.R_reads' HO_288001.out).2.1); (case side9 => refine (Kd.R_reads' (e := 9) (base := w.heap.size) (ok := fun k_ => (((some k_ ≠ (.slice Ao9 t277.length co9 : Value).ownBlock ∧ (some k_ ≠ (.slice Ao16 t289.length co16 : Value).ownBlock ∧ some k_ ≠ (.slice Ao17 t292.length co17 : Value).ownBlock)) ∧ some k_ ≠ (.slice Ao42 t307.length co42 : Value).ownBlock) ∧ some k_ ≠ (.slice Ao43 t310.length co43 : Value).ownBlock)) (n := t280.length) (c := co10) ?_).2.2; exact (by (with_reducible repeat (first | apply zd | apply ze | apply zf)); exact (zm (zn (p := ⟨gb317, 3, none⟩) (zn (p := ⟨gb317, 2, none⟩) (zn (p := ⟨gb317, 1, none⟩) (zn (p := ⟨gb317, 0, none⟩) (zt HO_288002.out BK317.out (by decide)) (fun _ hk => hk.2) (.bool t306)) (fun _ hk => hk.2) (.slice Ao42 t307.length co42)) (fun _ hk => hk.2) (.slice Ao43 t310.length co43)) (fun _ hk => hk.2) (.slice Ao44 t313.length co44)) (fun _ h_ => h_.1)))); (case side10 => exact (Kd.R_reads' HO_288002.out).2.1); (case side11 => refine (Kd.R_reads' (e := 3) (base := w.heap.size) (ok := fun k_ => (some k_ ≠ (.slice Ao18 t295.length co18 : Value).ownBlock ∧ some k_ ≠ (.slice Ao44 t313.length co44 : Value).ownBlock)) (n := t283.length) (c := co11) ?_).2.2; exact (by (with_reducible repeat (first | apply zd | apply ze | apply zf)); exact (zm (zn (p := ⟨gb317, 3, none⟩) (zn (p := ⟨gb317, 2, none⟩) (zn (p := ⟨gb317, 1, none⟩) (zn (p := ⟨gb317, 0, none⟩) (zt HO_288003.out BK317.out (by decide)) (fun _ hk => hk.2) (.bool t306)) (fun _ hk => hk.2) (.slice Ao42 t307.length co42)) (fun _ hk => hk.2) (.slice Ao43 t310.length co43)) (fun _ hk => hk.2) (.slice Ao44 t313.length co44)) (fun _ h_ => h_.1)))); (case side12 => exact (Kd.R_reads' HO_288003.out).2.1); rintro e w52 ⟨rfl, hb⟩; refine ⟨_, rfl, ?_⟩; have n0_ := zj (zs (by (with_reducible repeat (first | apply zd | apply ze | apply zf)); exact (zm (zn (p := ⟨gb317, 3, none⟩) (zn (p := ⟨gb317, 2, none⟩) (zn (p := ⟨gb317, 1, none⟩) (zn (p := ⟨gb317, 0, none⟩) (zt HO_288001.out BK317.out (by decide)) (fun _ hk => hk.2) (.bool t306)) (fun _ hk => hk.2) (.slice Ao42 t307.length co42)) (fun _ hk => hk.2) (.slice Ao43 t310.length co43)) (fun _ hk => hk.2) (.slice Ao44 t313.length co44)) (fun _ h_ => h_.1))) hb); have n1_ := zj (zs (by (with_reducible repeat (first | apply zd | apply ze | apply zf)); exact (zm (zn (p := ⟨gb317, 3, none⟩) (zn (p := ⟨gb317, 2, none⟩) (zn (p := ⟨gb317, 1, none⟩) (zn (p := ⟨gb317, 0, none⟩) (zt HO_288002.out BK317.out (by decide)) (fun _ hk => hk.2) (.bool t306)) (fun _ hk => hk.2) (.slice Ao42 t307.length co42)) (fun _ hk => hk.2) (.slice Ao43 t310.length co43)) (fun _ hk => hk.2) (.slice Ao44 t313.length co44)) (fun _ h_ => h_.1))) hb); have n2_ := zj (zs (by (with_reducible repeat (first | apply zd | apply ze | apply zf)); exact (zm (zn (p := ⟨gb317, 3, none⟩) (zn (p := ⟨gb317, 2, none⟩) (zn (p := ⟨gb317, 1, none⟩) (zn (p := ⟨gb317, 0, none⟩) (zt HO_288003.out BK317.out (by decide)) (fun _ hk => hk.2) (.bool t306)) (fun _ hk => hk.2) (.slice Ao42 t307.length co42)) (fun _ hk => hk.2) (.slice Ao43 t310.length co43)) (fun _ hk => hk.2) (.slice Ao44 t313.length co44)) (fun _ h_ => h_.1))) hb); have n3_ := zj (zs (by (with_reducible repeat (first | apply zd | apply ze | apply zf)); exact (zm (zn (p := ⟨gb317, 3, none⟩) (zn (p := ⟨gb317, 2, none⟩) (zn (p := ⟨gb317, 1, none⟩) (zn (p := ⟨gb317, 0, none⟩) (zt HO_300001.out BK317.out (by decide)) (fun _ hk => hk.2) (.bool t306)) (fun _ hk => hk.2) (.slice Ao42 t307.length co42)) (fun _ hk => hk.2) (.slice Ao43 t310.length co43)) (fun _ hk => hk.2) (.slice Ao44 t313.length co44)) (fun _ h_ => h_.1))) hb); have n4_ := zj (zs (by (with_reducible repeat (first | apply zd | apply ze | apply zf)); exact (zm (zn (p := ⟨gb317, 3, none⟩) (zn (p := ⟨gb317, 2, none⟩) (zn (p := ⟨gb317, 1, none⟩) (zn (p := ⟨gb317, 0, none⟩) (zt HO_300002.out BK317.out (by decide)) (fun _ hk => hk.2) (.bool t306)) (fun _ hk => hk.2) (.slice Ao42 t307.length co42)) (fun _ hk => hk.2) (.slice Ao43 t310.length co43)) (fun _ hk => hk.2) (.slice Ao44 t313.length co44)) (fun _ h_ => h_.1))) hb); have n5_ := zj (zs (by (with_reducible repeat (first | apply zd | apply ze | apply zf)); exact (zm (zn (p := ⟨gb317, 3, none⟩) (zn (p := ⟨gb317, 2, none⟩) (zn (p := ⟨gb317, 1, none⟩) (zn (p := ⟨gb317, 0, none⟩) (zt HO_300003.out BK317.out (by decide)) (fun _ hk => hk.2) (.bool t306)) (fun _ hk => hk.2) (.slice Ao42 t307.length co42)) (fun _ hk => hk.2) (.slice Ao43 t310.length co43)) (fun _ hk => hk.2) (.slice Ao44 t313.length co44)) (fun _ h_ => h_.1))) hb); have n6_ := zj (zs (by (with_reducible repeat (first | apply zd | apply ze | apply zf)); exact (zm (zn (p := ⟨gb317, 3, none⟩) (zn (p := ⟨gb317, 2, none⟩) (zn (p := ⟨gb317, 1, none⟩) (zn (p := ⟨gb317, 0, none⟩) (zt HO309.out BK317.out (by decide)) (fun _ hk => hk.2) (.bool t306)) (fun _ hk => hk.2) (.slice Ao42 t307.length co42)) (fun _ hk => hk.2) (.slice Ao43 t310.length co43)) (fun _ hk => hk.2) (.slice Ao44 t313.length co44)) (fun _ h_ => h_.1))) hb); have n7_ := zj (zs (by (with_reducible repeat (first | apply zd | apply ze | apply zf)); exact (zm (zn (p := ⟨gb317, 3, none⟩) (zn (p := ⟨gb317, 2, none⟩) (zn (p := ⟨gb317, 1, none⟩) (zn (p := ⟨gb317, 0, none⟩) (zt HO312.out BK317.out (by decide)) (fun _ hk => hk.2) (.bool t306)) (fun _ hk => hk.2) (.slice Ao42 t307.length co42)) (fun _ hk => hk.2) (.slice Ao43 t310.length co43)) (fun _ hk => hk.2) (.slice Ao44 t313.length co44)) (fun _ h_ => h_.1))) hb); have n8_ := zj (zs (by (with_reducible repeat (first | apply zd | apply ze | apply zf)); exact (zm (zn (p := ⟨gb317, 3, none⟩) (zn (p := ⟨gb317, 2, none⟩) (zn (p := ⟨gb317, 1, none⟩) (zn (p := ⟨gb317, 0, none⟩) (zt HO315.out BK317.out (by decide)) (fun _ hk => hk.2) (.bool t306)) (fun _ hk => hk.2) (.slice Ao42 t307.length co42)) (fun _ hk => hk.2) (.slice Ao43 t310.length co43)) (fun _ hk => hk.2) (.slice Ao44 t313.length co44)) (fun _ h_ => h_.1))) hb); have n9_ := zj (zo (g := gb287) (o := .cells #[.bool t276, .slice Ao9 t277.length co9, .slice Ao10 t280.length co10, .slice Ao11 t283.length co11] 29 (0, 0)) (by (with_reducible repeat (first | refine za ?_ _ | refine zb ?_ | refine zc ?_ _)); refine blk_far ?_ NB287_317.out _; (with_reducible repeat (first | refine za ?_ _ | refine zb ?_ | refine zc ?_ _)); refine blk_far ?_ NB287_317.out _; (with_reducible repeat (first | refine za ?_ _ | refine zb ?_ | refine zc ?_ _)); refine blk_far ?_ NB287_317.out _; (with_reducible repeat (first | refine za ?_ _ | refine zb ?_ | refine zc ?_ _)); refine blk_far ?_ NB287_317.out _; (with_reducible repeat (first | refine za ?_ _ | refine zb ?_ | refine zc ?_ _)); exact BK287.out) hb); have n10_ := zj (zo (g := gb299) (o := .cells #[.bool t288, .slice Ao16 t289.length co16, .slice Ao17 t292.length co17, .slice Ao18 t295.length co18] 29 (0, 0)) (by (with_reducible repeat (first | refine za ?_ _ | refine zb ?_ | refine zc ?_ _)); refine blk_far ?_ NB299_317.out _; (with_reducible repeat (first | refine za ?_ _ | refine zb ?_ | refine zc ?_ _)); refine blk_far ?_ NB299_317.out _; (with_reducible repeat (first | refine za ?_ _ | refine zb ?_ | refine zc ?_ _)); refine blk_far ?_ NB299_317.out _; (with_reducible repeat (first | refine za ?_ _ | refine zb ?_ | refine zc ?_ _)); refine blk_far ?_ NB299_317.out _; (with_reducible repeat (first | refine za ?_ _ | refine zb ?_ | refine zc ?_ _)); exact BK299.out) hb); have n11_ := zj (zo (g := gb317) (o := .cells #[.bool t306, .slice Ao42 t307.length co42, .slice Ao43 t310.length co43, .slice Ao44 t313.length co44] 29 (0, 0)) (by (with_reducible repeat (first | refine za ?_ _ | refine zb ?_ | refine zc ?_ _)); refine zp (cs := #[.bool t306, .slice Ao42 t307.length co42, .slice Ao43 t310.length co43, .slice none 0 0]) ?_ 3 _ rfl; (with_reducible repeat (first | refine za ?_ _ | refine zb ?_ | refine zc ?_ _)); refine zp (cs := #[.bool t306, .slice Ao42 t307.length co42, .slice none 0 0, .slice none 0 0]) ?_ 2 _ rfl; (with_reducible repeat (first | refine za ?_ _ | refine zb ?_ | refine zc ?_ _)); refine zp (cs := #[.bool t306, .slice none 0 0, .slice none 0 0, .slice none 0 0]) ?_ 1 _ rfl; (with_reducible repeat (first | refine za ?_ _ | refine zb ?_ | refine zc ?_ _)); refine zp (cs := #[.bool false, .slice none 0 0, .slice none 0 0, .slice none 0 0]) ?_ 0 _ rfl; (with_reducible repeat (first | refine za ?_ _ | refine zb ?_ | refine zc ?_ _)); exact BK317.out) hb); have n12_ := zj (zl (by repeat (first | (with_reducible first | exact HB.out | apply zg | apply zh | apply zi | refine zr ?_ GE287.out | refine zr ?_ GE299.out | refine zr ?_ GE317.out) | exact HB.out)) hb); clear HO_288001; clear HO_288002; clear HO_288003; clear HO_300001; clear HO_300002; clear HO_300003; clear HO309; clear HO312; clear HO315; clear BK287; clear BK299; clear BK317; clear HB; have HO_288001 := n0_; have HO_288002 := n1_; have HO_288003 := n2_; have HO_300001 := n3_; have HO_300002 := n4_; have HO_300003 := n5_; have HO309 := n6_; have HO312 := n7_; have HO315 := n8_; have BK287 := n9_; have BK299 := n10_; have BK317 := n11_; have HB := n12_; clear n0_ n1_ n2_ n3_ n4_ n5_ n6_ n7_ n8_ n9_ n10_ n11_ n12_; (try clear hb); (try clear hb2); (try clear hk); (try clear hi)))
         go_meet
         case rel => exact ⟨_, ((t316 != t286)), (by first | rfl | (simp; done) | (simp [*]; done)), H', ⟨by have := HJ4.out; first | omega | exact Nat.le_refl _⟩, ⟨by (with_reducible repeat (first | apply zd | apply ze | apply zf)); exact zm HO_288001.out (fun _ hk => ⟨hk.1.1.1, ⟨hk.1.1.2.1, ⟨hk.1.1.2.2, ⟨hk.1.2, hk.2⟩⟩⟩⟩)⟩, ⟨by (with_reducible repeat (first | apply zd | apply ze | apply zf)); exact zm HO_288002.out (fun _ hk => ⟨hk.1.1.1, ⟨hk.1.1.2.1, ⟨hk.1.1.2.2, ⟨hk.1.2, hk.2⟩⟩⟩⟩)⟩, ⟨by (with_reducible repeat (first | apply zd | apply ze | apply zf)); exact HO_288003.out⟩, ⟨by (with_reducible repeat (first | apply zd | apply ze | apply zf)); exact zm HO_300001.out (fun _ hk => ⟨hk.1.1.1, ⟨hk.1.1.2.1, ⟨hk.1.1.2.2, ⟨hk.1.2, hk.2⟩⟩⟩⟩)⟩, ⟨by (with_reducible repeat (first | apply zd | apply ze | apply zf)); exact zm HO_300002.out (fun _ hk => ⟨hk.1.1.1, ⟨hk.1.1.2.1, ⟨hk.1.1.2.2, ⟨hk.1.2, hk.2⟩⟩⟩⟩)⟩, ⟨by (with_reducible repeat (first | apply zd | apply ze | apply zf)); exact HO_300003.out⟩, ⟨by (with_reducible repeat (first | apply zd | apply ze | apply zf)); exact zm HO309.out (fun _ hk => ⟨hk.1.1.1.2, ⟨hk.1.1.2, ⟨hk.1.2, ⟨hk.2, hk.1.1.1.1⟩⟩⟩⟩)⟩, ⟨by (with_reducible repeat (first | apply zd | apply ze | apply zf)); exact zm HO312.out (fun _ hk => ⟨hk.1.1.1.2, ⟨hk.1.1.2, ⟨hk.1.2, ⟨hk.2, hk.1.1.1.1⟩⟩⟩⟩)⟩, ⟨by (with_reducible repeat (first | apply zd | apply ze | apply zf)); exact zm HO315.out (fun _ hk => ⟨hk.1.2, hk.2⟩)⟩, ⟨by (with_reducible repeat (first | refine za ?_ _ | refine zb ?_ | refine zc ?_ _)); exact BK287.out⟩, ⟨by (with_reducible repeat (first | refine za ?_ _ | refine zb ?_ | refine zc ?_ _)); exact BK299.out⟩, ⟨by (with_reducible repeat (first | refine za ?_ _ | refine zb ?_ | refine zc ?_ _)); exact BK317.out⟩, ⟨by repeat (first | (with_reducible first | exact HB.out | apply zg | apply zh | apply zi | refine zr ?_ GE287.out | refine zr ?_ GE299.out | refine zr ?_ GE317.out) | exact HB.out)⟩⟩
        ·replace c46 := Bool.eq_false_iff.mpr c46
         subst c46
         have H1 : (none) = some r := by rw [if_neg (show ¬ (false = true) by decide)] at H; exact H
         clear H
         have H := H1
         clear H1
         exact absurd H (by simp)
       case rest =>
        clear HC31
        try clear c1
        try clear c2
        try clear c2b0
        try clear c2b1
        try clear p2
        try clear c3
        try clear c4
        try clear c5
        try clear c9
        try clear c14
        try clear c18
        try clear c20
        try clear c21
        try clear c25
        try clear c28
        try clear c28b0
        try clear c29
        try clear c29b0
        try clear c29b1
        try clear c32
        try clear c39
        try clear c40
        try clear c46
        try clear c47
        try clear c48
        try clear c50
        try clear hcz15_0
        try clear hcz15_1
        try clear hcz15_2
        try clear hcz15_3
        try clear hcz22_0
        try clear hcz22_1
        try clear hcz22_2
        try clear hcz22_3
        try clear hcz23_0
        try clear hcz23_1
        try clear hcz23_2
        try clear hcz23_3
        try clear hcz33_0
        try clear hcz33_1
        try clear hcz33_2
        try clear hcz33_3
        try clear hcz35_0
        try clear hcz35_1
        try clear hcz35_2
        try clear hcz35_3
        try clear hcz41_0
        try clear hcz41_1
        try clear hcz41_2
        try clear hcz41_3
        try clear hcz49_0
        try clear hcz49_1
        try clear hcz49_2
        try clear hcz49_3
        try clear hcz51_0
        try clear hcz51_1
        try clear hcz51_2
        try clear hcz51_3
        try clear hcz8_0
        try clear hcz8_1
        try clear hcz8_2
        try clear hcz8_3
        try clear hfz15_0
        try clear hfz15_1
        try clear hfz15_2
        try clear hfz15_3
        try clear hfz22_0
        try clear hfz22_1
        try clear hfz22_2
        try clear hfz22_3
        try clear hfz23_0
        try clear hfz23_1
        try clear hfz23_2
        try clear hfz23_3
        try clear hfz33_0
        try clear hfz33_1
        try clear hfz33_2
        try clear hfz33_3
        try clear hfz35_0
        try clear hfz35_1
        try clear hfz35_2
        try clear hfz35_3
        try clear hfz41_0
        try clear hfz41_1
        try clear hfz41_2
        try clear hfz41_3
        try clear hfz49_0
        try clear hfz49_1
        try clear hfz49_2
        try clear hfz49_3
        try clear hfz51_0
        try clear hfz51_1
        try clear hfz51_2
        try clear hfz51_3
        try clear hfz8_0
        try clear hfz8_1
        try clear hfz8_2
        try clear hfz8_3
        try clear p2
        obtain ⟨kq, x57_30, rfl, HA, HJ30, HO_288001, HO_288002, HO_288003, HO_300001, HO_300002, HO_300003, HO_318001, HO_318002, HO_318003, BK287, BK299, BK317, HB⟩ := hcut
        have hl300001_30 := (Kd.R_reads' HO_300001.out).1
        rw [hl300001_30] at HO_300001
        (try simp only [hl300001_30])
        (try simp only [hl300001_30] at BK287)
        (try simp only [hl300001_30] at BK299)
        (try simp only [hl300001_30] at BK317)
        (try simp only [hl300001_30] at HO_288001)
        (try simp only [hl300001_30] at HO_288002)
        (try simp only [hl300001_30] at HO_288003)
        (try simp only [hl300001_30] at HO_300002)
        (try simp only [hl300001_30] at HO_300003)
        (try simp only [hl300001_30] at HO_318001)
        (try simp only [hl300001_30] at HO_318002)
        (try simp only [hl300001_30] at HO_318003)
        have hl300002_30 := (Kd.R_reads' HO_300002.out).1
        rw [hl300002_30] at HO_300002
        (try simp only [hl300002_30])
        (try simp only [hl300002_30] at BK287)
        (try simp only [hl300002_30] at BK299)
        (try simp only [hl300002_30] at BK317)
        (try simp only [hl300002_30] at HO_288001)
        (try simp only [hl300002_30] at HO_288002)
        (try simp only [hl300002_30] at HO_288003)
        (try simp only [hl300002_30] at HO_300001)
        (try simp only [hl300002_30] at HO_300003)
        (try simp only [hl300002_30] at HO_318001)
        (try simp only [hl300002_30] at HO_318002)
        (try simp only [hl300002_30] at HO_318003)
        have hl300003_30 := (Kd.R_reads' HO_300003.out).1
        rw [hl300003_30] at HO_300003
        (try simp only [hl300003_30])
        (try simp only [hl300003_30] at BK287)
        (try simp only [hl300003_30] at BK299)
        (try simp only [hl300003_30] at BK317)
        (try simp only [hl300003_30] at HO_288001)
        (try simp only [hl300003_30] at HO_288002)
        (try simp only [hl300003_30] at HO_288003)
        (try simp only [hl300003_30] at HO_300001)
        (try simp only [hl300003_30] at HO_300002)
        (try simp only [hl300003_30] at HO_318001)
        (try simp only [hl300003_30] at HO_318002)
        (try simp only [hl300003_30] at HO_318003)
        cases kq with
        | zero => exact absurd HA.out (by simp [laws_FnExactReadNode.j1])
        | succ kj30 =>
         have H := HA.out
         clear HA
         simp only [laws_FnExactReadNode.j1] at H
         by_cases c53 : x57_30 = true
         ·subst c53
          have H1 : (none) = some r := by rw [if_pos rfl] at H; exact H
          clear H
          have H := H1
          clear H1
          exact absurd H (by simp)
         ·replace c53 := Bool.eq_false_iff.mpr c53
          subst c53
          have H1 : ((laws_heldNode.f kj30 t288 t302 t303 t304 1).bind fun t319 => (if t319 < 0 then (none) else (if t319 = t301 then (some true) else (none)))) = some r := by rw [if_neg (show ¬ (false = true) by decide)] at H; exact H
          clear H
          have H := H1
          clear H1
          replace H := Option.bind_eq_some_iff.mp H
          obtain ⟨t319, A540, H⟩ := H
          replace H : (if t319 < 0 then (none) else (if t319 = t301 then (some true) else (none))) = some r := H
          have A54 := zj A540
          clear A540
          by_cases c55 : t319 < 0
          ·rw [if_pos c55] at H
           exact absurd H (by simp)
          ·rw [if_neg c55] at H
           have c55b0 : decide (t319 < 0) = false := decide_eq_false c55
           clear c55
           by_cases c56 : t319 = t301
           ·rw [if_pos c56] at H
            have c56b0 : (t319 == t301) = true := beq_iff_eq.mpr c56
            have c56b1 : (t319 != t301) = false := bne_eq_false_iff_eq.mpr c56
            clear c56
            obtain rfl := Option.some.inj H
            have hnb57 := NB299_287.out
            have hnc57 := NB287_299.out
            have hnb58 := NB299_317.out
            have hnc58 := NB317_299.out
            have hcz59_0 : wc.cell? ⟨gb299, 0, none⟩ = some (.bool t288) := (zq BK299.out 0).trans rfl
            have hcz59_1 : wc.cell? ⟨gb299, 1, none⟩ = some (.slice Ao16 t302.length co16) := (zq BK299.out 1).trans rfl
            have hcz59_2 : wc.cell? ⟨gb299, 2, none⟩ = some (.slice Ao17 t303.length co17) := (zq BK299.out 2).trans rfl
            have hcz59_3 : wc.cell? ⟨gb299, 3, none⟩ = some (.slice Ao18 t304.length co18) := (zq BK299.out 3).trans rfl
            have hfz59_0 := zu BK299.out 0
            have hfz59_1 := zu BK299.out 1
            have hfz59_2 := zu BK299.out 2
            have hfz59_3 := zu BK299.out 3
            go_wp2_with (first | ((with_reducible refine gate_callee (f := 59) rfl ?_); refine goesL_ (some 60) rfl rfl Try.func59 (by kernel_rfl) rfl #[.agg #[.bool t288, .slice Ao16 t302.length co16, .slice Ao17 t303.length co17, .slice Ao18 t304.length co18], .int .i64 1] rfl (by (try simp only [List.map_toArray, List.map_cons, List.map_nil]); first | done | rfl | (simp only [List.length_drop, List.length_take]; rfl)) ?_; (with_reducible refine (laws_heldNode.calls kj30 t288 _ _ t302 _ _ t303 _ _ t304 1 t319 _ ?side1 ?side2 ?side3 ?side4 ?side5 ?side6 A54.out).mono ?_); (case side1 => repeat (first | exact (Kd.R_reads' HO_300001.out).2.2 | (with_reducible refine Kd.C_alloc ?_ _) | (with_reducible refine Kd.C_drewN ?_ _) | (with_reducible refine Kd.C_drew ?_))); (case side2 => exact (Kd.R_reads' HO_300001.out).2.1); (case side3 => repeat (first | exact (Kd.R_reads' HO_300002.out).2.2 | (with_reducible refine Kd.C_alloc ?_ _) | (with_reducible refine Kd.C_drewN ?_ _) | (with_reducible refine Kd.C_drew ?_))); (case side4 => exact (Kd.R_reads' HO_300002.out).2.1); (case side5 => repeat (first | exact (Kd.R_reads' HO_300003.out).2.2 | (with_reducible refine Kd.C_alloc ?_ _) | (with_reducible refine Kd.C_drewN ?_ _) | (with_reducible refine Kd.C_drew ?_))); (case side6 => exact (Kd.R_reads' HO_300003.out).2.1); rintro e w60 ⟨rfl, hb⟩; refine ⟨_, rfl, ?_⟩; have n0_ := zj (zs (by (with_reducible repeat (first | apply zd | apply ze | apply zf)); exact HO_288001.out) hb); have n1_ := zj (zs (by (with_reducible repeat (first | apply zd | apply ze | apply zf)); exact HO_288002.out) hb); have n2_ := zj (zs (by (with_reducible repeat (first | apply zd | apply ze | apply zf)); exact HO_288003.out) hb); have n3_ := zj (zs (by (with_reducible repeat (first | apply zd | apply ze | apply zf)); exact HO_300001.out) hb); have n4_ := zj (zs (by (with_reducible repeat (first | apply zd | apply ze | apply zf)); exact HO_300002.out) hb); have n5_ := zj (zs (by (with_reducible repeat (first | apply zd | apply ze | apply zf)); exact HO_300003.out) hb); have n6_ := zj (zs (by (with_reducible repeat (first | apply zd | apply ze | apply zf)); exact HO_318001.out) hb); have n7_ := zj (zs (by (with_reducible repeat (first | apply zd | apply ze | apply zf)); exact HO_318002.out) hb); have n8_ := zj (zs (by (with_reducible repeat (first | apply zd | apply ze | apply zf)); exact HO_318003.out) hb); have n9_ := zj (zo (g := gb287) (o := .cells #[.bool t276, .slice Ao9 t277.length co9, .slice Ao10 t280.length co10, .slice Ao11 t283.length co11] 29 (0, 0)) (by (with_reducible repeat (first | refine za ?_ _ | refine zb ?_ | refine zc ?_ _)); exact BK287.out) hb); have n10_ := zj (zo (g := gb299) (o := .cells #[.bool t288, .slice Ao16 t302.length co16, .slice Ao17 t303.length co17, .slice Ao18 t304.length co18] 29 (0, 0)) (by (with_reducible repeat (first | refine za ?_ _ | refine zb ?_ | refine zc ?_ _)); exact BK299.out) hb); have n11_ := zj (zo (g := gb317) (o := .cells #[.bool t306, .slice Ao42 t307.length co42, .slice Ao43 t310.length co43, .slice Ao44 t313.length co44] 29 (0, 0)) (by (with_reducible repeat (first | refine za ?_ _ | refine zb ?_ | refine zc ?_ _)); exact BK317.out) hb); have n12_ := zj (zl (by repeat (first | (with_reducible first | exact HB.out | apply zg | apply zh | apply zi | refine zr ?_ GE287.out | refine zr ?_ GE299.out | refine zr ?_ GE317.out) | exact HB.out)) hb); clear HO_288001; clear HO_288002; clear HO_288003; clear HO_300001; clear HO_300002; clear HO_300003; clear HO_318001; clear HO_318002; clear HO_318003; clear BK287; clear BK299; clear BK317; clear HB; have HO_288001 := n0_; have HO_288002 := n1_; have HO_288003 := n2_; have HO_300001 := n3_; have HO_300002 := n4_; have HO_300003 := n5_; have HO_318001 := n6_; have HO_318002 := n7_; have HO_318003 := n8_; have BK287 := n9_; have BK299 := n10_; have BK317 := n11_; have HB := n12_; clear n0_ n1_ n2_ n3_ n4_ n5_ n6_ n7_ n8_ n9_ n10_ n11_ n12_; (try clear hb); (try clear hb2); (try clear hk); (try clear hi)))
            go_ret
            exact ⟨by first | rfl | (simp [errW_none, errW_some] <;> rfl) | (simp [*, errW_none, errW_some] <;> rfl), by repeat (first | (with_reducible first | exact HB.out | apply zg | apply zh | apply zi | refine zr ?_ GE287.out | refine zr ?_ GE299.out | refine zr ?_ GE317.out) | exact HB.out)⟩
           ·rw [if_neg c56] at H
            exact absurd H (by simp)
      ·rw [if_neg c29] at H
       exact absurd H (by simp)

/-- THE ONE PURE STATEMENT of laws_FnExactReadNode: yours. -/
def laws_FnExactReadNode.Pure : Prop := ∀ (a0 : ByteArray), a0.size ≤ 140737488351232 → ∃ k, laws_FnExactReadNode.f k a0 = some true
theorem laws_FnExactReadNode.walk (P : laws_FnExactReadNode.Pure) (a0 : ByteArray) (w : World) (w0 : a0.size ≤ 140737488351232) :
  Calls Try.prog 9 #[.string a0] w fun e w' => e = .returned (.bool true) ∧ Below w.heap.size w w' := by
 obtain ⟨k, h⟩ := P a0 w0
 refine (laws_FnExactReadNode.calls k a0 true w h).mono ?_
 rintro e w' ⟨rfl, hd⟩
 exact ⟨rfl, hd⟩

end Go.Proofs.Ytkobbccjjglfmaa.VFnExactReadNode
