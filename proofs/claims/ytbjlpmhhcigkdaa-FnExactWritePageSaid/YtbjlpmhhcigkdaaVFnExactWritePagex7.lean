-- Written by a program of this repo (wip/myprint.py), over the kit's print; functions that the print does not take stand in it by hand-proved contracts.
import Derived.Test.YtbjlpmhhcigkdaaVFnExactWritePagex0
import Derived.Test.YtbjlpmhhcigkdaaVFnExactWritePagex1
import Derived.Test.YtbjlpmhhcigkdaaVFnExactWritePagex2
import Derived.Test.YtbjlpmhhcigkdaaVFnExactWritePagex3
import Derived.Test.YtbjlpmhhcigkdaaVFnExactWritePagex4
import Derived.Test.YtbjlpmhhcigkdaaVFnExactWritePagex6
namespace Go.Proofs.Ytbjlpmhhcigkdaa.VFnExactWritePage
open Go.RowKit Go.Proofs.YtbjlpmhhcigkdaaW.PrintWords Go.Proofs.YtbjlpmhhcigkdaaW.PrintLast Go.Proofs.YtbjlpmhhcigkdaaW.PrintMore
attribute [local go_sem] max2_int min2_int max_two min_two max_three min_three max_four min_four   -- for this text's walks alone
attribute [local go_sem high] str_leq str_gtr str_geq str_lss
set_option linter.unusedVariables false
set_option linter.unusedSimpArgs false

/-! ### laws_FnExactWritePage: function 10 -/
mutual
def laws_FnExactWritePage.j0 : Nat → Int → ByteArray → Bool → Bool → Bool → List ByteArray → List (S155) → List ByteArray → List (S74) → List ByteArray → List (S74) → List ByteArray → List (S74) → Option (Bool)
  | 0, _, _, _, _, _, _, _, _, _, _, _, _, _ => none
  | k + 1, x1, x2, x9, x12, x51, x223000, x223001, x238000, x238001, x245000, x245001, x253000, x253001 => if x51 = true then (none) else ((laws_toDisk.f k x223000 x223001).bind fun bt254 => ((laws_eqDisk.f k x245000 x245001 bt254.1 bt254.2).bind fun t260 => (if t260 = true then ((laws_markDisk.f k x245000 x245001 1).bind fun bt261 => (if bt261.1 < 0 then (none) else ((laws_eqDisk.f k x253000 x253001 x238000 x238001).bind fun t264 => (if t264 = true then (laws_FnExactWritePage.j1 k x1 x2 x9 (x12 != x9) x223000 x223001 x238000 x238001 x253000 x253001) else (none))))) else (none))))
def laws_FnExactWritePage.j1 : Nat → Int → ByteArray → Bool → Bool → List ByteArray → List (S155) → List ByteArray → List (S74) → List ByteArray → List (S74) → Option (Bool)
  | 0, _, _, _, _, _, _, _, _, _, _ => none
  | k + 1, x1, x2, x9, x72, x223000, x223001, x238000, x238001, x253000, x253001 => if x72 = true then (none) else ((laws_markDisk.f k x253000 x253001 1).bind fun bt265 => ((laws_heldDisk.f k bt265.2.1 bt265.2.2 1).bind fun t268 => (if t268 < 0 then (none) else (if t268 = bt265.1 then ((laws_toDisk.f k x223000 x223001).bind fun bt269 => ((impl_WritePage.f bt269.1 bt269.2 x1 x2).bind fun bt275 => ((laws_eqDisk.f k bt275.1 bt275.2.1 x238000 x238001).bind fun t283 => (if t283 = true then (laws_FnExactWritePage.j2 k bt265.1 (bt275.2.2 != x9) bt265.2.1 bt265.2.2) else (none))))) else (none)))))
def laws_FnExactWritePage.j2 : Nat → Int → Bool → List ByteArray → List (S74) → Option (Bool)
  | 0, _, _, _, _ => none
  | k + 1, x14, x100, x253000, x253001 => if x100 = true then (none) else ((laws_heldDisk.f k x253000 x253001 1).bind fun t284 => (if t284 < 0 then (none) else (if t284 = x14 then (some true) else (none))))
end
def laws_FnExactWritePage.f (k : Nat) (l0_0 : List ByteArray) (l0_1 : List (S155)) (a1 : Int) (a2 : ByteArray) : Option (Bool) := if (a2.size : Int) > 1048576 then (some true) else ((laws_szDisk.f k l0_0 l0_1 1048576).bind fun t223 => (if t223 < 0 then (some true) else ((laws_toDisk.f k l0_0 l0_1).bind fun bt224 => ((spec_WritePage.f k bt224.1 bt224.2 a1 a2).bind fun bt230 => ((laws_toDisk.f k l0_0 l0_1).bind fun bt238 => ((impl_WritePage.f bt238.1 bt238.2 a1 a2).bind fun bt245 => ((laws_eqDisk.f k bt245.1 bt245.2.1 bt230.1 bt230.2.1).bind fun t253 => (if t253 = true then (laws_FnExactWritePage.j0 k a1 a2 bt230.2.2 bt245.2.2 (bt245.2.2 != bt230.2.2) l0_0 l0_1 bt230.1 bt230.2.1 bt238.1 bt238.2 bt245.1 bt245.2.1) else (none)))))))))
theorem laws_FnExactWritePage.mono_l : ∀ k, (∀ y0 y1 y2 y3 y4 y5 y6 y7 y8 y9 y10 y11 y12, LeO (laws_FnExactWritePage.j0 k y0 y1 y2 y3 y4 y5 y6 y7 y8 y9 y10 y11 y12) (laws_FnExactWritePage.j0 (k + 1) y0 y1 y2 y3 y4 y5 y6 y7 y8 y9 y10 y11 y12)) ∧ (∀ y0 y1 y2 y3 y4 y5 y6 y7 y8 y9, LeO (laws_FnExactWritePage.j1 k y0 y1 y2 y3 y4 y5 y6 y7 y8 y9) (laws_FnExactWritePage.j1 (k + 1) y0 y1 y2 y3 y4 y5 y6 y7 y8 y9)) ∧ (∀ y0 y1 y2 y3, LeO (laws_FnExactWritePage.j2 k y0 y1 y2 y3) (laws_FnExactWritePage.j2 (k + 1) y0 y1 y2 y3))
  | 0 => ⟨fun _ _ _ _ _ _ _ _ _ _ _ _ _ r h => by simp [laws_FnExactWritePage.j0] at h, fun _ _ _ _ _ _ _ _ _ _ r h => by simp [laws_FnExactWritePage.j1] at h, fun _ _ _ _ r h => by simp [laws_FnExactWritePage.j2] at h⟩
  | k + 1 => by
    obtain ⟨ih0, ih1, ih2⟩ := laws_FnExactWritePage.mono_l k
    refine ⟨?_, ?_, ?_⟩
    · intro y0 y1 y2 y3 y4 y5 y6 y7 y8 y9 y10 y11 y12
      unfold laws_FnExactWritePage.j0
      repeat' first
      | (with_reducible exact ih0 _ _ _ _ _ _ _ _ _ _ _ _ _)
      | (with_reducible exact ih1 _ _ _ _ _ _ _ _ _ _)
      | (with_reducible exact ih2 _ _ _ _)
      | (with_reducible exact laws_eqDisk.mono _ _ _ _ _)
      | (with_reducible exact laws_heldDisk.mono _ _ _ _)
      | (with_reducible exact laws_markDisk.mono _ _ _ _)
      | (with_reducible exact laws_szDisk.mono _ _ _ _)
      | (with_reducible exact laws_toDisk.mono _ _ _)
      | (with_reducible exact spec_WritePage.mono _ _ _ _ _)
      | (with_reducible exact LeO.refl _)
      | (with_reducible exact LeO.none _)
      | (with_reducible refine LeO.ite ?_ ?_)
      | (with_reducible refine LeO.bind ?_ (fun _ => ?_))
      | exact ih0 _ _ _ _ _ _ _ _ _ _ _ _ _
      | exact ih1 _ _ _ _ _ _ _ _ _ _
      | exact ih2 _ _ _ _
      | exact laws_eqDisk.mono _ _ _ _ _
      | exact laws_heldDisk.mono _ _ _ _
      | exact laws_markDisk.mono _ _ _ _
      | exact laws_szDisk.mono _ _ _ _
      | exact laws_toDisk.mono _ _ _
      | exact spec_WritePage.mono _ _ _ _ _
      | exact LeO.none _
      | refine LeO.ite ?_ ?_
      | refine LeO.bind ?_ (fun _ => ?_)
    · intro y0 y1 y2 y3 y4 y5 y6 y7 y8 y9
      unfold laws_FnExactWritePage.j1
      repeat' first
      | (with_reducible exact ih0 _ _ _ _ _ _ _ _ _ _ _ _ _)
      | (with_reducible exact ih1 _ _ _ _ _ _ _ _ _ _)
      | (with_reducible exact ih2 _ _ _ _)
      | (with_reducible exact laws_eqDisk.mono _ _ _ _ _)
      | (with_reducible exact laws_heldDisk.mono _ _ _ _)
      | (with_reducible exact laws_markDisk.mono _ _ _ _)
      | (with_reducible exact laws_szDisk.mono _ _ _ _)
      | (with_reducible exact laws_toDisk.mono _ _ _)
      | (with_reducible exact spec_WritePage.mono _ _ _ _ _)
      | (with_reducible exact LeO.refl _)
      | (with_reducible exact LeO.none _)
      | (with_reducible refine LeO.ite ?_ ?_)
      | (with_reducible refine LeO.bind ?_ (fun _ => ?_))
      | exact ih0 _ _ _ _ _ _ _ _ _ _ _ _ _
      | exact ih1 _ _ _ _ _ _ _ _ _ _
      | exact ih2 _ _ _ _
      | exact laws_eqDisk.mono _ _ _ _ _
      | exact laws_heldDisk.mono _ _ _ _
      | exact laws_markDisk.mono _ _ _ _
      | exact laws_szDisk.mono _ _ _ _
      | exact laws_toDisk.mono _ _ _
      | exact spec_WritePage.mono _ _ _ _ _
      | exact LeO.none _
      | refine LeO.ite ?_ ?_
      | refine LeO.bind ?_ (fun _ => ?_)
    · intro y0 y1 y2 y3
      unfold laws_FnExactWritePage.j2
      repeat' first
      | (with_reducible exact ih0 _ _ _ _ _ _ _ _ _ _ _ _ _)
      | (with_reducible exact ih1 _ _ _ _ _ _ _ _ _ _)
      | (with_reducible exact ih2 _ _ _ _)
      | (with_reducible exact laws_eqDisk.mono _ _ _ _ _)
      | (with_reducible exact laws_heldDisk.mono _ _ _ _)
      | (with_reducible exact laws_markDisk.mono _ _ _ _)
      | (with_reducible exact laws_szDisk.mono _ _ _ _)
      | (with_reducible exact laws_toDisk.mono _ _ _)
      | (with_reducible exact spec_WritePage.mono _ _ _ _ _)
      | (with_reducible exact LeO.refl _)
      | (with_reducible exact LeO.none _)
      | (with_reducible refine LeO.ite ?_ ?_)
      | (with_reducible refine LeO.bind ?_ (fun _ => ?_))
      | exact ih0 _ _ _ _ _ _ _ _ _ _ _ _ _
      | exact ih1 _ _ _ _ _ _ _ _ _ _
      | exact ih2 _ _ _ _
      | exact laws_eqDisk.mono _ _ _ _ _
      | exact laws_heldDisk.mono _ _ _ _
      | exact laws_markDisk.mono _ _ _ _
      | exact laws_szDisk.mono _ _ _ _
      | exact laws_toDisk.mono _ _ _
      | exact spec_WritePage.mono _ _ _ _ _
      | exact LeO.none _
      | refine LeO.ite ?_ ?_
      | refine LeO.bind ?_ (fun _ => ?_)
theorem laws_FnExactWritePage.mono : ∀ a0 a1 a2 a3 k, LeO (laws_FnExactWritePage.f k a0 a1 a2 a3) (laws_FnExactWritePage.f (k + 1) a0 a1 a2 a3) := by
  intro a0 a1 a2 a3 k
  obtain ⟨ih0, ih1, ih2⟩ := laws_FnExactWritePage.mono_l k
  unfold laws_FnExactWritePage.f
  repeat' first
      | (with_reducible exact ih0 _ _ _ _ _ _ _ _ _ _ _ _ _)
      | (with_reducible exact ih1 _ _ _ _ _ _ _ _ _ _)
      | (with_reducible exact ih2 _ _ _ _)
      | (with_reducible exact laws_eqDisk.mono _ _ _ _ _)
      | (with_reducible exact laws_heldDisk.mono _ _ _ _)
      | (with_reducible exact laws_markDisk.mono _ _ _ _)
      | (with_reducible exact laws_szDisk.mono _ _ _ _)
      | (with_reducible exact laws_toDisk.mono _ _ _)
      | (with_reducible exact spec_WritePage.mono _ _ _ _ _)
      | (with_reducible exact LeO.refl _)
      | (with_reducible exact LeO.none _)
      | (with_reducible refine LeO.ite ?_ ?_)
      | (with_reducible refine LeO.bind ?_ (fun _ => ?_))
      | exact ih0 _ _ _ _ _ _ _ _ _ _ _ _ _
      | exact ih1 _ _ _ _ _ _ _ _ _ _
      | exact ih2 _ _ _ _
      | exact laws_eqDisk.mono _ _ _ _ _
      | exact laws_heldDisk.mono _ _ _ _
      | exact laws_markDisk.mono _ _ _ _
      | exact laws_szDisk.mono _ _ _ _
      | exact laws_toDisk.mono _ _ _
      | exact spec_WritePage.mono _ _ _ _ _
      | exact LeO.none _
      | refine LeO.ite ?_ ?_
      | refine LeO.bind ?_ (fun _ => ?_)
set_option maxHeartbeats 8000000 in
set_option maxRecDepth 100000 in
theorem laws_FnExactWritePage.calls (k : Nat) (A0_0 : Option Addr) (c0_0 : Nat) (l0_0 : List ByteArray) (A0_1 : Option Addr) (c0_1 : Nat) (l0_1 : List (S155)) (a1 : Int) (a2 : ByteArray) (r : Bool) (w : World) (hr0_0 : Kd.C Kd.string w A0_0 l0_0.length l0_0) (hc0_0 : l0_0.length ≤ c0_0) (hr0_1 : Kd.C k155 w A0_1 l0_1.length l0_1) (hc0_1 : l0_1.length ≤ c0_1) (h : laws_FnExactWritePage.f k l0_0 l0_1 a1 a2 = some r) :
    Calls Try.prog 10 #[.agg #[.slice A0_0 l0_0.length c0_0, .slice A0_1 l0_1.length c0_1], .int .i64 a1, .string a2] w fun e w' => e = .returned (.bool r) ∧ Below w.heap.size w w' := by
  have hu57 := Try.underlying57
  have hu36 := Try.underlying36
  have HR0_0 := Aside0.mk hr0_0
  have HC0_0 := Aside0.mk hc0_0
  clear hr0_0 hc0_0
  have HR0_1 := Aside0.mk hr0_1
  have HC0_1 := Aside0.mk hc0_1
  clear hr0_1 hc0_1
  have HB := Aside0.mk (Below.refl w.heap.size w)
  have H : (if (a2.size : Int) > 1048576 then (some true) else ((laws_szDisk.f k l0_0 l0_1 1048576).bind fun t223 => (if t223 < 0 then (some true) else ((laws_toDisk.f k l0_0 l0_1).bind fun bt224 => ((spec_WritePage.f k bt224.1 bt224.2 a1 a2).bind fun bt230 => ((laws_toDisk.f k l0_0 l0_1).bind fun bt238 => ((impl_WritePage.f bt238.1 bt238.2 a1 a2).bind fun bt245 => ((laws_eqDisk.f k bt245.1 bt245.2.1 bt230.1 bt230.2.1).bind fun t253 => (if t253 = true then (laws_FnExactWritePage.j0 k a1 a2 bt230.2.2 bt245.2.2 (bt245.2.2 != bt230.2.2) l0_0 l0_1 bt230.1 bt230.2.1 bt238.1 bt238.2 bt245.1 bt245.2.1) else (none)))))))))) = some r := h
  clear h
  by_cases c4 : (a2.size : Int) > 1048576
  · rw [if_pos c4] at H
    have c4b0 : decide (1048576 < (a2.size : Int)) = true := decide_eq_true c4
    have c4b1 : decide (1048576 < a2.size) = true := decide_eq_true (by omega)
    clear c4
    obtain rfl := Option.some.inj H
    go_enter Try.func10, Try.ntmps10
    go_wp2_with (first | ((with_reducible refine gate_dst (N := 3) rfl ?_); refine box_event ?hg (N := 3) ?hd (cs := #[.slice A0_0 l0_0.length c0_0, .slice A0_1 l0_1.length c0_1]) (t := 57) ?hr ?_; (case hd => rfl); (case hg => rfl); (case hr => first | (go_simp; done) | (go_simp; rfl)); intro gb222 hg w5 hbox hb; have n0_ := Aside0.mk (below_step (by repeat (first | (with_reducible first | exact HB.out | apply below_alloc | apply pw_below_drewN | apply below_drew1) | exact HB.out)) hb); have n1_ := Aside0.mk (hbox); have n2_ := Aside0.mk ((by rw [hg]; exact (below_size (by repeat (first | (with_reducible first | exact HB.out | apply below_alloc | apply pw_below_drewN | apply below_drew1) | exact HB.out))) : w.heap.size ≤ gb222)); have n3_ := Aside0.mk ((by rw [hg]; exact (below_size (by repeat (first | (with_reducible first | exact HB.out | apply below_alloc | apply pw_below_drewN | apply below_drew1) | exact HB.out))) : w.heap.size ≤ gb222)); clear HB; have HB := n0_; have BK222 := n1_; have GW222 := n2_; have GE222 := n3_; clear n0_ n1_ n2_ n3_; clear hb hbox hg))
    go_ret
    exact ⟨by first | rfl | (simp [errW_none, errW_some] <;> rfl) | (simp [*, errW_none, errW_some] <;> rfl), by repeat (first | (with_reducible first | exact HB.out | apply below_alloc | apply pw_below_drewN | apply below_drew1 | refine below_set ?_ GE222.out) | exact HB.out)⟩
  · rw [if_neg c4] at H
    have c4b0 : decide (1048576 < (a2.size : Int)) = false := decide_eq_false c4
    have c4b1 : decide (1048576 < a2.size) = false := decide_eq_false (by omega)
    clear c4
    replace H := Option.bind_eq_some_iff.mp H
    obtain ⟨t223, A60, H⟩ := H
    replace H : (if t223 < 0 then (some true) else ((laws_toDisk.f k l0_0 l0_1).bind fun bt224 => ((spec_WritePage.f k bt224.1 bt224.2 a1 a2).bind fun bt230 => ((laws_toDisk.f k l0_0 l0_1).bind fun bt238 => ((impl_WritePage.f bt238.1 bt238.2 a1 a2).bind fun bt245 => ((laws_eqDisk.f k bt245.1 bt245.2.1 bt230.1 bt230.2.1).bind fun t253 => (if t253 = true then (laws_FnExactWritePage.j0 k a1 a2 bt230.2.2 bt245.2.2 (bt245.2.2 != bt230.2.2) l0_0 l0_1 bt230.1 bt230.2.1 bt238.1 bt238.2 bt245.1 bt245.2.1) else (none)))))))) = some r := H
    have A6 := Aside0.mk A60
    clear A60
    by_cases c7 : t223 < 0
    · rw [if_pos c7] at H
      have c7b0 : decide (t223 < 0) = true := decide_eq_true c7
      clear c7
      obtain rfl := Option.some.inj H
      go_enter Try.func10, Try.ntmps10
      go_wp2_with (first | ((with_reducible refine gate_dst (N := 3) rfl ?_); refine box_event ?hg (N := 3) ?hd (cs := #[.slice A0_0 l0_0.length c0_0, .slice A0_1 l0_1.length c0_1]) (t := 57) ?hr ?_; (case hd => rfl); (case hg => rfl); (case hr => first | (go_simp; done) | (go_simp; rfl)); intro gb222 hg w8 hbox hb; have n0_ := Aside0.mk (below_step (by repeat (first | (with_reducible first | exact HB.out | apply below_alloc | apply pw_below_drewN | apply below_drew1) | exact HB.out)) hb); have n1_ := Aside0.mk (hbox); have n2_ := Aside0.mk ((by rw [hg]; exact (below_size (by repeat (first | (with_reducible first | exact HB.out | apply below_alloc | apply pw_below_drewN | apply below_drew1) | exact HB.out))) : w.heap.size ≤ gb222)); have n3_ := Aside0.mk ((by rw [hg]; exact (below_size (by repeat (first | (with_reducible first | exact HB.out | apply below_alloc | apply pw_below_drewN | apply below_drew1) | exact HB.out))) : w.heap.size ≤ gb222)); clear HB; have HB := n0_; have BK222 := n1_; have GW222 := n2_; have GE222 := n3_; clear n0_ n1_ n2_ n3_; clear hb hbox hg; have hcz9_0 : w8.cell? ⟨gb222, 0, none⟩ = some (.slice A0_0 l0_0.length c0_0) := (blk_cell BK222.out 0).trans rfl; have hcz9_1 : w8.cell? ⟨gb222, 1, none⟩ = some (.slice A0_1 l0_1.length c0_1) := (blk_cell BK222.out 1).trans rfl; have hfz9_0 := blk_frozen BK222.out 0; have hfz9_1 := blk_frozen BK222.out 1) | ((with_reducible refine gate_callee (f := 31) rfl ?_); refine goesL_ (some 23) rfl rfl Try.func31 (by kernel_rfl) rfl #[.agg #[.slice A0_0 l0_0.length c0_0, .slice A0_1 l0_1.length c0_1], .int .i64 1048576] rfl (by (try simp only [List.map_toArray, List.map_cons, List.map_nil]); first | done | rfl | (simp only [List.length_drop, List.length_take]; rfl)) ?_; (with_reducible refine (laws_szDisk.calls k _ _ l0_0 _ _ l0_1 1048576 t223 _ ?side1 ?side2 ?side3 ?side4 A6.out).mono ?_); (case side1 => repeat (first | exact (Kd.C_below HR0_0.out HB.out) | (with_reducible refine Kd.C_alloc ?_ _) | (with_reducible refine Kd.C_drewN ?_ _) | (with_reducible refine Kd.C_drew ?_))); (case side2 => exact HC0_0.out); (case side3 => repeat (first | exact (Kd.C_below HR0_1.out HB.out) | (with_reducible refine Kd.C_alloc ?_ _) | (with_reducible refine Kd.C_drewN ?_ _) | (with_reducible refine Kd.C_drew ?_))); (case side4 => exact HC0_1.out); rintro e w10 ⟨rfl, hb⟩; refine ⟨_, rfl, ?_⟩; have n0_ := Aside0.mk (blk_below (g := gb222) (o := .cells #[.slice A0_0 l0_0.length c0_0, .slice A0_1 l0_1.length c0_1] 57 (0, 0)) (by (with_reducible repeat (first | refine blk_drewN ?_ _ | refine blk_drew ?_ | refine blk_alloc ?_ _)); exact BK222.out) hb); have n1_ := Aside0.mk (below_step (by repeat (first | (with_reducible first | exact HB.out | apply below_alloc | apply pw_below_drewN | apply below_drew1 | refine below_set ?_ GE222.out) | exact HB.out)) hb); clear BK222; clear HB; have BK222 := n0_; have HB := n1_; clear n0_ n1_; (try clear hb); (try clear hb2); (try clear hk); (try clear hi)))
      go_ret
      exact ⟨by first | rfl | (simp [errW_none, errW_some] <;> rfl) | (simp [*, errW_none, errW_some] <;> rfl), by repeat (first | (with_reducible first | exact HB.out | apply below_alloc | apply pw_below_drewN | apply below_drew1 | refine below_set ?_ GE222.out) | exact HB.out)⟩
    · rw [if_neg c7] at H
      have c7b0 : decide (t223 < 0) = false := decide_eq_false c7
      clear c7
      replace H := Option.bind_eq_some_iff.mp H
      obtain ⟨⟨t224, t227⟩, A110, H⟩ := H
      replace H : ((spec_WritePage.f k t224 t227 a1 a2).bind fun bt230 => ((laws_toDisk.f k l0_0 l0_1).bind fun bt238 => ((impl_WritePage.f bt238.1 bt238.2 a1 a2).bind fun bt245 => ((laws_eqDisk.f k bt245.1 bt245.2.1 bt230.1 bt230.2.1).bind fun t253 => (if t253 = true then (laws_FnExactWritePage.j0 k a1 a2 bt230.2.2 bt245.2.2 (bt245.2.2 != bt230.2.2) l0_0 l0_1 bt230.1 bt230.2.1 bt238.1 bt238.2 bt245.1 bt245.2.1) else (none)))))) = some r := H
      have A11 := Aside0.mk A110
      clear A110
      replace H := Option.bind_eq_some_iff.mp H
      obtain ⟨⟨t230, t233, t236⟩, A120, H⟩ := H
      replace H : ((laws_toDisk.f k l0_0 l0_1).bind fun bt238 => ((impl_WritePage.f bt238.1 bt238.2 a1 a2).bind fun bt245 => ((laws_eqDisk.f k bt245.1 bt245.2.1 t230 t233).bind fun t253 => (if t253 = true then (laws_FnExactWritePage.j0 k a1 a2 t236 bt245.2.2 (bt245.2.2 != t236) l0_0 l0_1 t230 t233 bt238.1 bt238.2 bt245.1 bt245.2.1) else (none))))) = some r := H
      have A12 := Aside0.mk A120
      clear A120
      replace H := Option.bind_eq_some_iff.mp H
      obtain ⟨⟨t238, t241⟩, A130, H⟩ := H
      replace H : ((impl_WritePage.f t238 t241 a1 a2).bind fun bt245 => ((laws_eqDisk.f k bt245.1 bt245.2.1 t230 t233).bind fun t253 => (if t253 = true then (laws_FnExactWritePage.j0 k a1 a2 t236 bt245.2.2 (bt245.2.2 != t236) l0_0 l0_1 t230 t233 t238 t241 bt245.1 bt245.2.1) else (none)))) = some r := H
      have A13 := Aside0.mk A130
      clear A130
      replace H := Option.bind_eq_some_iff.mp H
      obtain ⟨⟨t245, t248, t251⟩, A140, H⟩ := H
      replace H : ((laws_eqDisk.f k t245 t248 t230 t233).bind fun t253 => (if t253 = true then (laws_FnExactWritePage.j0 k a1 a2 t236 t251 (t251 != t236) l0_0 l0_1 t230 t233 t238 t241 t245 t248) else (none))) = some r := H
      have A14 := Aside0.mk A140
      clear A140
      have HC15 := Aside0.mk H
      clear H
      go_enter Try.func10, Try.ntmps10
      go_upto_region 10 with (first | ((with_reducible refine gate_dst (N := 3) rfl ?_); refine box_event ?hg (N := 3) ?hd (cs := #[.slice A0_0 l0_0.length c0_0, .slice A0_1 l0_1.length c0_1]) (t := 57) ?hr ?_; (case hd => rfl); (case hg => rfl); (case hr => first | (go_simp; done) | (go_simp; rfl)); intro gb222 hg w16 hbox hb; have n0_ := Aside0.mk (below_step (by repeat (first | (with_reducible first | exact HB.out | apply below_alloc | apply pw_below_drewN | apply below_drew1) | exact HB.out)) hb); have n1_ := Aside0.mk (hbox); have n2_ := Aside0.mk ((by rw [hg]; exact (below_size (by repeat (first | (with_reducible first | exact HB.out | apply below_alloc | apply pw_below_drewN | apply below_drew1) | exact HB.out))) : w.heap.size ≤ gb222)); have n3_ := Aside0.mk ((by rw [hg]; exact (below_size (by repeat (first | (with_reducible first | exact HB.out | apply below_alloc | apply pw_below_drewN | apply below_drew1) | exact HB.out))) : w.heap.size ≤ gb222)); clear HB; have HB := n0_; have BK222 := n1_; have GW222 := n2_; have GE222 := n3_; clear n0_ n1_ n2_ n3_; clear hb hbox hg; have hcz17_0 : w16.cell? ⟨gb222, 0, none⟩ = some (.slice A0_0 l0_0.length c0_0) := (blk_cell BK222.out 0).trans rfl; have hcz17_1 : w16.cell? ⟨gb222, 1, none⟩ = some (.slice A0_1 l0_1.length c0_1) := (blk_cell BK222.out 1).trans rfl; have hfz17_0 := blk_frozen BK222.out 0; have hfz17_1 := blk_frozen BK222.out 1) | ((with_reducible refine gate_callee (f := 31) rfl ?_); refine goesL_ (some 23) rfl rfl Try.func31 (by kernel_rfl) rfl #[.agg #[.slice A0_0 l0_0.length c0_0, .slice A0_1 l0_1.length c0_1], .int .i64 1048576] rfl (by (try simp only [List.map_toArray, List.map_cons, List.map_nil]); first | done | rfl | (simp only [List.length_drop, List.length_take]; rfl)) ?_; (with_reducible refine (laws_szDisk.calls k _ _ l0_0 _ _ l0_1 1048576 t223 _ ?side1 ?side2 ?side3 ?side4 A6.out).mono ?_); (case side1 => repeat (first | exact (Kd.C_below HR0_0.out HB.out) | (with_reducible refine Kd.C_alloc ?_ _) | (with_reducible refine Kd.C_drewN ?_ _) | (with_reducible refine Kd.C_drew ?_))); (case side2 => exact HC0_0.out); (case side3 => repeat (first | exact (Kd.C_below HR0_1.out HB.out) | (with_reducible refine Kd.C_alloc ?_ _) | (with_reducible refine Kd.C_drewN ?_ _) | (with_reducible refine Kd.C_drew ?_))); (case side4 => exact HC0_1.out); rintro e w18 ⟨rfl, hb⟩; refine ⟨_, rfl, ?_⟩; have n0_ := Aside0.mk (blk_below (g := gb222) (o := .cells #[.slice A0_0 l0_0.length c0_0, .slice A0_1 l0_1.length c0_1] 57 (0, 0)) (by (with_reducible repeat (first | refine blk_drewN ?_ _ | refine blk_drew ?_ | refine blk_alloc ?_ _)); exact BK222.out) hb); have n1_ := Aside0.mk (below_step (by repeat (first | (with_reducible first | exact HB.out | apply below_alloc | apply pw_below_drewN | apply below_drew1 | refine below_set ?_ GE222.out) | exact HB.out)) hb); clear BK222; clear HB; have BK222 := n0_; have HB := n1_; clear n0_ n1_; (try clear hb); (try clear hb2); (try clear hk); (try clear hi); have hcz19_0 : w18.cell? ⟨gb222, 0, none⟩ = some (.slice A0_0 l0_0.length c0_0) := (blk_cell BK222.out 0).trans rfl; have hcz19_1 : w18.cell? ⟨gb222, 1, none⟩ = some (.slice A0_1 l0_1.length c0_1) := (blk_cell BK222.out 1).trans rfl; have hfz19_0 := blk_frozen BK222.out 0; have hfz19_1 := blk_frozen BK222.out 1) | ((with_reducible refine gate_callee (f := 33) rfl ?_); refine goesL_ (some 28) rfl rfl Try.func33 (by kernel_rfl) rfl #[.agg #[.slice A0_0 l0_0.length c0_0, .slice A0_1 l0_1.length c0_1]] rfl (by (try simp only [List.map_toArray, List.map_cons, List.map_nil]); first | done | rfl | (simp only [List.length_drop, List.length_take]; rfl)) ?_; (with_reducible refine (laws_toDisk.calls k _ _ l0_0 _ _ l0_1 t224 t227 _ ?side1 ?side2 ?side3 ?side4 A11.out).mono ?_); (case side1 => repeat (first | exact (Kd.C_below HR0_0.out HB.out) | (with_reducible refine Kd.C_alloc ?_ _) | (with_reducible refine Kd.C_drewN ?_ _) | (with_reducible refine Kd.C_drew ?_))); (case side2 => exact HC0_0.out); (case side3 => repeat (first | exact (Kd.C_below HR0_1.out HB.out) | (with_reducible refine Kd.C_alloc ?_ _) | (with_reducible refine Kd.C_drewN ?_ _) | (with_reducible refine Kd.C_drew ?_))); (case side4 => exact HC0_1.out); rintro e w20 ⟨v225, v228, rfl, ho0, ho1, hb⟩; refine ⟨_, rfl, ?_⟩; have n0_ := Aside0.mk (Kd.R_lower ho0 (below_size (by repeat (first | (with_reducible first | exact HB.out | apply below_alloc | apply pw_below_drewN | apply below_drew1 | refine below_set ?_ GE222.out) | exact HB.out)))); have n1_ := Aside0.mk (Kd.R_lower ho1 (below_size (by repeat (first | (with_reducible first | exact HB.out | apply below_alloc | apply pw_below_drewN | apply below_drew1 | refine below_set ?_ GE222.out) | exact HB.out)))); have n2_ := Aside0.mk (blk_below (g := gb222) (o := .cells #[.slice A0_0 l0_0.length c0_0, .slice A0_1 l0_1.length c0_1] 57 (0, 0)) (by (with_reducible repeat (first | refine blk_drewN ?_ _ | refine blk_drew ?_ | refine blk_alloc ?_ _)); exact BK222.out) hb); have n3_ := Aside0.mk (below_step (by repeat (first | (with_reducible first | exact HB.out | apply below_alloc | apply pw_below_drewN | apply below_drew1 | refine below_set ?_ GE222.out) | exact HB.out)) hb); clear BK222; clear HB; have HO226 := n0_; have HO229 := n1_; have BK222 := n2_; have HB := n3_; clear n0_ n1_ n2_ n3_; (try clear hb); (try clear hb2); (try clear hk); (try clear hi); (try clear ho0); (try clear ho1); obtain ⟨Ao21, co21, eo21⟩ := Kd.R_slice HO226.out; subst eo21; obtain ⟨Ao22, co22, eo22⟩ := Kd.R_slice HO229.out; subst eo22) | ((with_reducible refine gate_callee (f := 51) rfl ?_); refine goesL_ (some 31) rfl rfl Try.func51 (by kernel_rfl) rfl #[.agg #[.slice Ao21 t224.length co21, .slice Ao22 t227.length co22], .int .i64 a1, .string a2] rfl (by (try simp only [List.map_toArray, List.map_cons, List.map_nil]); first | done | rfl | (simp only [List.length_drop, List.length_take]; rfl)) ?_; (with_reducible refine (spec_WritePage.calls k _ _ t224 _ _ t227 a1 a2 t230 t233 t236 _ ?side1 ?side2 ?side3 ?side4 A12.out).mono ?_); (case side1 => repeat (first | exact (Kd.R_reads' HO226.out).2.2 | (with_reducible refine Kd.C_alloc ?_ _) | (with_reducible refine Kd.C_drewN ?_ _) | (with_reducible refine Kd.C_drew ?_))); (case side2 => exact (Kd.R_reads' HO226.out).2.1); (case side3 => repeat (first | exact (Kd.R_reads' HO229.out).2.2 | (with_reducible refine Kd.C_alloc ?_ _) | (with_reducible refine Kd.C_drewN ?_ _) | (with_reducible refine Kd.C_drew ?_))); (case side4 => exact (Kd.R_reads' HO229.out).2.1); rintro e w23 ⟨v231, v234, rfl, ho0, ho1, hb⟩; refine ⟨_, rfl, ?_⟩; have n0_ := Aside0.mk (Kd.R_elder' (by (with_reducible repeat (first | apply Kd.R_alloc | apply Kd.R_drewN | apply Kd.R_drew)); exact HO226.out) (Kd.R_base ho0) hb); have n1_ := Aside0.mk (Kd.R_elder' (by (with_reducible repeat (first | apply Kd.R_alloc | apply Kd.R_drewN | apply Kd.R_drew)); exact HO229.out) (Kd.R_base ho1) hb); have n2_ := Aside0.mk (Kd.R_lower (Kd.R_new' ho0 (Kd.R_lt (by (with_reducible repeat (first | apply Kd.R_alloc | apply Kd.R_drewN | apply Kd.R_drew)); exact HO226.out))) (below_size (by repeat (first | (with_reducible first | exact HB.out | apply below_alloc | apply pw_below_drewN | apply below_drew1 | refine below_set ?_ GE222.out) | exact HB.out)))); have n3_ := Aside0.mk (Kd.R_lower (Kd.R_new' ho1 (Kd.R_lt (by (with_reducible repeat (first | apply Kd.R_alloc | apply Kd.R_drewN | apply Kd.R_drew)); exact HO229.out))) (below_size (by repeat (first | (with_reducible first | exact HB.out | apply below_alloc | apply pw_below_drewN | apply below_drew1 | refine below_set ?_ GE222.out) | exact HB.out)))); have n4_ := Aside0.mk (blk_below (g := gb222) (o := .cells #[.slice A0_0 l0_0.length c0_0, .slice A0_1 l0_1.length c0_1] 57 (0, 0)) (by (with_reducible repeat (first | refine blk_drewN ?_ _ | refine blk_drew ?_ | refine blk_alloc ?_ _)); exact BK222.out) hb); have n5_ := Aside0.mk (below_step (by repeat (first | (with_reducible first | exact HB.out | apply below_alloc | apply pw_below_drewN | apply below_drew1 | refine below_set ?_ GE222.out) | exact HB.out)) hb); clear HO226; clear HO229; clear BK222; clear HB; have HO226 := n0_; have HO229 := n1_; have HO232 := n2_; have HO235 := n3_; have BK222 := n4_; have HB := n5_; clear n0_ n1_ n2_ n3_ n4_ n5_; (try clear hb); (try clear hb2); (try clear hk); (try clear hi); (try clear ho0); (try clear ho1)) | ((with_reducible refine gate_dst (N := 8) rfl ?_); refine box_event ?hg (N := 8) ?hd (cs := #[.slice none 0 0, .slice none 0 0]) (t := 36) ?hr ?_; (case hd => rfl); (case hg => rfl); (case hr => first | (go_simp; done) | (go_simp; rfl)); intro gb237 hg w24 hbox hb; have n0_ := Aside0.mk (Kd.R_below (by (with_reducible repeat (first | apply Kd.R_alloc | apply Kd.R_drewN | apply Kd.R_drew)); exact HO226.out) hb); have n1_ := Aside0.mk (Kd.R_below (by (with_reducible repeat (first | apply Kd.R_alloc | apply Kd.R_drewN | apply Kd.R_drew)); exact HO229.out) hb); have n2_ := Aside0.mk (Kd.R_below (by (with_reducible repeat (first | apply Kd.R_alloc | apply Kd.R_drewN | apply Kd.R_drew)); exact HO232.out) hb); have n3_ := Aside0.mk (Kd.R_below (by (with_reducible repeat (first | apply Kd.R_alloc | apply Kd.R_drewN | apply Kd.R_drew)); exact HO235.out) hb); have n4_ := Aside0.mk (blk_below (g := gb222) (o := .cells #[.slice A0_0 l0_0.length c0_0, .slice A0_1 l0_1.length c0_1] 57 (0, 0)) (by (with_reducible repeat (first | refine blk_drewN ?_ _ | refine blk_drew ?_ | refine blk_alloc ?_ _)); exact BK222.out) hb); have n5_ := Aside0.mk (below_step (by repeat (first | (with_reducible first | exact HB.out | apply below_alloc | apply pw_below_drewN | apply below_drew1 | refine below_set ?_ GE222.out) | exact HB.out)) hb); have n6_ := Aside0.mk (hbox); have n7_ := Aside0.mk ((by rw [hg]; exact (below_size (by repeat (first | (with_reducible first | exact HB.out | apply below_alloc | apply pw_below_drewN | apply below_drew1 | refine below_set ?_ GE222.out) | exact HB.out))) : w.heap.size ≤ gb237)); have n8_ := Aside0.mk ((by rw [hg]; exact (below_size (by repeat (first | (with_reducible first | exact HB.out | apply below_alloc | apply pw_below_drewN | apply below_drew1 | refine below_set ?_ GE222.out) | exact HB.out))) : w.heap.size ≤ gb237)); have n9_ := Aside0.mk ((by rw [hg]; exact Nat.ne_of_lt (blk_lt (g := gb222) (o := .cells #[.slice A0_0 l0_0.length c0_0, .slice A0_1 l0_1.length c0_1] 57 (0, 0)) (by (with_reducible repeat (first | refine blk_drewN ?_ _ | refine blk_drew ?_ | refine blk_alloc ?_ _)); exact BK222.out)) : gb222 ≠ gb237)); have n10_ := Aside0.mk ((by rw [hg]; exact Nat.ne_of_gt (blk_lt (g := gb222) (o := .cells #[.slice A0_0 l0_0.length c0_0, .slice A0_1 l0_1.length c0_1] 57 (0, 0)) (by (with_reducible repeat (first | refine blk_drewN ?_ _ | refine blk_drew ?_ | refine blk_alloc ?_ _)); exact BK222.out)) : gb237 ≠ gb222)); clear HO226; clear HO229; clear HO232; clear HO235; clear BK222; clear HB; have HO226 := n0_; have HO229 := n1_; have HO232 := n2_; have HO235 := n3_; have BK222 := n4_; have HB := n5_; have BK237 := n6_; have GW237 := n7_; have GE237 := n8_; have NB222_237 := n9_; have NB237_222 := n10_; clear n0_ n1_ n2_ n3_ n4_ n5_ n6_ n7_ n8_ n9_ n10_; clear hb hbox hg; obtain ⟨Ao25, co25, eo25⟩ := Kd.R_slice HO232.out; subst eo25; have hnb26 := NB237_222.out; have hnc26 := NB222_237.out; have hcz27_0 : w24.cell? ⟨gb237, 0, none⟩ = some (.slice none 0 0) := (blk_cell BK237.out 0).trans rfl; have hcz27_1 : w24.cell? ⟨gb237, 1, none⟩ = some (.slice none 0 0) := (blk_cell BK237.out 1).trans rfl; have hfz27_0 := blk_frozen BK237.out 0; have hfz27_1 := blk_frozen BK237.out 1; obtain ⟨Ao28, co28, eo28⟩ := Kd.R_slice HO235.out; subst eo28; have hcz29_0 : w24.cell? ⟨gb222, 0, none⟩ = some (.slice A0_0 l0_0.length c0_0) := (blk_cell BK222.out 0).trans rfl; have hcz29_1 : w24.cell? ⟨gb222, 1, none⟩ = some (.slice A0_1 l0_1.length c0_1) := (blk_cell BK222.out 1).trans rfl; have hfz29_0 := blk_frozen BK222.out 0; have hfz29_1 := blk_frozen BK222.out 1) | ((with_reducible refine gate_callee (f := 33) rfl ?_); refine goesL_ (some 35) rfl rfl Try.func33 (by kernel_rfl) rfl #[.agg #[.slice A0_0 l0_0.length c0_0, .slice A0_1 l0_1.length c0_1]] rfl (by (try simp only [List.map_toArray, List.map_cons, List.map_nil]); first | done | rfl | (simp only [List.length_drop, List.length_take]; rfl)) ?_; (with_reducible refine (laws_toDisk.calls k _ _ l0_0 _ _ l0_1 t238 t241 _ ?side1 ?side2 ?side3 ?side4 A13.out).mono ?_); (case side1 => exact Kd.C_below HR0_0.out (by repeat (first | (with_reducible first | exact HB.out | apply below_alloc | apply pw_below_drewN | apply below_drew1 | refine below_set ?_ GE222.out | refine below_set ?_ GE237.out) | exact HB.out))); (case side2 => exact HC0_0.out); (case side3 => exact Kd.C_below HR0_1.out (by repeat (first | (with_reducible first | exact HB.out | apply below_alloc | apply pw_below_drewN | apply below_drew1 | refine below_set ?_ GE222.out | refine below_set ?_ GE237.out) | exact HB.out))); (case side4 => exact HC0_1.out); rintro e w30 ⟨v239, v242, rfl, ho0, ho1, hb⟩; refine ⟨_, rfl, ?_⟩; have n0_ := Aside0.mk (Kd.R_elder' (by (with_reducible repeat (first | apply Kd.R_alloc | apply Kd.R_drewN | apply Kd.R_drew)); exact (Kd.R_mono (Kd.R_far (p := ⟨gb237, 1, none⟩) (Kd.R_far (p := ⟨gb237, 0, none⟩) (Kd.R_types HO226.out BK237.out (by decide)) (fun _ hk => hk.2) (.slice Ao25 t230.length co25)) (fun _ hk => hk.2) (.slice Ao28 t233.length co28)) (fun _ h_ => h_.1))) (Kd.R_base ho0) hb); have n1_ := Aside0.mk (Kd.R_elder' (by (with_reducible repeat (first | apply Kd.R_alloc | apply Kd.R_drewN | apply Kd.R_drew)); exact (Kd.R_mono (Kd.R_far (p := ⟨gb237, 1, none⟩) (Kd.R_far (p := ⟨gb237, 0, none⟩) (Kd.R_types HO229.out BK237.out (by decide)) (fun _ hk => hk.2) (.slice Ao25 t230.length co25)) (fun _ hk => hk.2) (.slice Ao28 t233.length co28)) (fun _ h_ => h_.1))) (Kd.R_base ho1) hb); have n2_ := Aside0.mk (Kd.R_elder' (by (with_reducible repeat (first | apply Kd.R_alloc | apply Kd.R_drewN | apply Kd.R_drew)); exact (Kd.R_mono (Kd.R_far (p := ⟨gb237, 1, none⟩) (Kd.R_far (p := ⟨gb237, 0, none⟩) (Kd.R_types HO232.out BK237.out (by decide)) (fun _ hk => hk.2) (.slice Ao25 t230.length co25)) (fun _ hk => hk.2) (.slice Ao28 t233.length co28)) (fun _ h_ => h_.1))) (Kd.R_base ho0) hb); have n3_ := Aside0.mk (Kd.R_elder' (by (with_reducible repeat (first | apply Kd.R_alloc | apply Kd.R_drewN | apply Kd.R_drew)); exact (Kd.R_mono (Kd.R_far (p := ⟨gb237, 1, none⟩) (Kd.R_far (p := ⟨gb237, 0, none⟩) (Kd.R_types HO235.out BK237.out (by decide)) (fun _ hk => hk.2) (.slice Ao25 t230.length co25)) (fun _ hk => hk.2) (.slice Ao28 t233.length co28)) (fun _ h_ => h_.1))) (Kd.R_base ho1) hb); have n4_ := Aside0.mk (Kd.R_lower (Kd.R_new' (Kd.R_new' ho0 (Kd.R_lt (by (with_reducible repeat (first | apply Kd.R_alloc | apply Kd.R_drewN | apply Kd.R_drew)); exact (Kd.R_mono (Kd.R_far (p := ⟨gb237, 1, none⟩) (Kd.R_far (p := ⟨gb237, 0, none⟩) (Kd.R_types HO226.out BK237.out (by decide)) (fun _ hk => hk.2) (.slice Ao25 t230.length co25)) (fun _ hk => hk.2) (.slice Ao28 t233.length co28)) (fun _ h_ => h_.1))))) (Kd.R_lt (by (with_reducible repeat (first | apply Kd.R_alloc | apply Kd.R_drewN | apply Kd.R_drew)); exact (Kd.R_mono (Kd.R_far (p := ⟨gb237, 1, none⟩) (Kd.R_far (p := ⟨gb237, 0, none⟩) (Kd.R_types HO232.out BK237.out (by decide)) (fun _ hk => hk.2) (.slice Ao25 t230.length co25)) (fun _ hk => hk.2) (.slice Ao28 t233.length co28)) (fun _ h_ => h_.1))))) (below_size (by repeat (first | (with_reducible first | exact HB.out | apply below_alloc | apply pw_below_drewN | apply below_drew1 | refine below_set ?_ GE222.out | refine below_set ?_ GE237.out) | exact HB.out)))); have n5_ := Aside0.mk (Kd.R_lower (Kd.R_new' (Kd.R_new' ho1 (Kd.R_lt (by (with_reducible repeat (first | apply Kd.R_alloc | apply Kd.R_drewN | apply Kd.R_drew)); exact (Kd.R_mono (Kd.R_far (p := ⟨gb237, 1, none⟩) (Kd.R_far (p := ⟨gb237, 0, none⟩) (Kd.R_types HO229.out BK237.out (by decide)) (fun _ hk => hk.2) (.slice Ao25 t230.length co25)) (fun _ hk => hk.2) (.slice Ao28 t233.length co28)) (fun _ h_ => h_.1))))) (Kd.R_lt (by (with_reducible repeat (first | apply Kd.R_alloc | apply Kd.R_drewN | apply Kd.R_drew)); exact (Kd.R_mono (Kd.R_far (p := ⟨gb237, 1, none⟩) (Kd.R_far (p := ⟨gb237, 0, none⟩) (Kd.R_types HO235.out BK237.out (by decide)) (fun _ hk => hk.2) (.slice Ao25 t230.length co25)) (fun _ hk => hk.2) (.slice Ao28 t233.length co28)) (fun _ h_ => h_.1))))) (below_size (by repeat (first | (with_reducible first | exact HB.out | apply below_alloc | apply pw_below_drewN | apply below_drew1 | refine below_set ?_ GE222.out | refine below_set ?_ GE237.out) | exact HB.out)))); have n6_ := Aside0.mk (blk_below (g := gb222) (o := .cells #[.slice A0_0 l0_0.length c0_0, .slice A0_1 l0_1.length c0_1] 57 (0, 0)) (by (with_reducible repeat (first | refine blk_drewN ?_ _ | refine blk_drew ?_ | refine blk_alloc ?_ _)); refine blk_far ?_ NB222_237.out _; (with_reducible repeat (first | refine blk_drewN ?_ _ | refine blk_drew ?_ | refine blk_alloc ?_ _)); refine blk_far ?_ NB222_237.out _; (with_reducible repeat (first | refine blk_drewN ?_ _ | refine blk_drew ?_ | refine blk_alloc ?_ _)); exact BK222.out) hb); have n7_ := Aside0.mk (blk_below (g := gb237) (o := .cells #[.slice Ao25 t230.length co25, .slice Ao28 t233.length co28] 36 (0, 0)) (by (with_reducible repeat (first | refine blk_drewN ?_ _ | refine blk_drew ?_ | refine blk_alloc ?_ _)); refine blk_put (cs := #[.slice Ao25 t230.length co25, .slice none 0 0]) ?_ 1 _ rfl; (with_reducible repeat (first | refine blk_drewN ?_ _ | refine blk_drew ?_ | refine blk_alloc ?_ _)); refine blk_put (cs := #[.slice none 0 0, .slice none 0 0]) ?_ 0 _ rfl; (with_reducible repeat (first | refine blk_drewN ?_ _ | refine blk_drew ?_ | refine blk_alloc ?_ _)); exact BK237.out) hb); have n8_ := Aside0.mk (below_step (by repeat (first | (with_reducible first | exact HB.out | apply below_alloc | apply pw_below_drewN | apply below_drew1 | refine below_set ?_ GE222.out | refine below_set ?_ GE237.out) | exact HB.out)) hb); clear HO226; clear HO229; clear HO232; clear HO235; clear BK222; clear BK237; clear HB; have HO226 := n0_; have HO229 := n1_; have HO232 := n2_; have HO235 := n3_; have HO240 := n4_; have HO243 := n5_; have BK222 := n6_; have BK237 := n7_; have HB := n8_; clear n0_ n1_ n2_ n3_ n4_ n5_ n6_ n7_ n8_; (try clear hb); (try clear hb2); (try clear hk); (try clear hi); (try clear ho0); (try clear ho1)) | ((with_reducible refine gate_dst (N := 10) rfl ?_); refine box_event ?hg (N := 10) ?hd (cs := #[.slice none 0 0, .slice none 0 0]) (t := 36) ?hr ?_; (case hd => rfl); (case hg => rfl); (case hr => first | (go_simp; done) | (go_simp; rfl)); intro gb244 hg w31 hbox hb; have n0_ := Aside0.mk (Kd.R_below (by (with_reducible repeat (first | apply Kd.R_alloc | apply Kd.R_drewN | apply Kd.R_drew)); exact HO226.out) hb); have n1_ := Aside0.mk (Kd.R_below (by (with_reducible repeat (first | apply Kd.R_alloc | apply Kd.R_drewN | apply Kd.R_drew)); exact HO229.out) hb); have n2_ := Aside0.mk (Kd.R_below (by (with_reducible repeat (first | apply Kd.R_alloc | apply Kd.R_drewN | apply Kd.R_drew)); exact HO232.out) hb); have n3_ := Aside0.mk (Kd.R_below (by (with_reducible repeat (first | apply Kd.R_alloc | apply Kd.R_drewN | apply Kd.R_drew)); exact HO235.out) hb); have n4_ := Aside0.mk (Kd.R_below (by (with_reducible repeat (first | apply Kd.R_alloc | apply Kd.R_drewN | apply Kd.R_drew)); exact HO240.out) hb); have n5_ := Aside0.mk (Kd.R_below (by (with_reducible repeat (first | apply Kd.R_alloc | apply Kd.R_drewN | apply Kd.R_drew)); exact HO243.out) hb); have n6_ := Aside0.mk (blk_below (g := gb222) (o := .cells #[.slice A0_0 l0_0.length c0_0, .slice A0_1 l0_1.length c0_1] 57 (0, 0)) (by (with_reducible repeat (first | refine blk_drewN ?_ _ | refine blk_drew ?_ | refine blk_alloc ?_ _)); exact BK222.out) hb); have n7_ := Aside0.mk (blk_below (g := gb237) (o := .cells #[.slice Ao25 t230.length co25, .slice Ao28 t233.length co28] 36 (0, 0)) (by (with_reducible repeat (first | refine blk_drewN ?_ _ | refine blk_drew ?_ | refine blk_alloc ?_ _)); exact BK237.out) hb); have n8_ := Aside0.mk (below_step (by repeat (first | (with_reducible first | exact HB.out | apply below_alloc | apply pw_below_drewN | apply below_drew1 | refine below_set ?_ GE222.out | refine below_set ?_ GE237.out) | exact HB.out)) hb); have n9_ := Aside0.mk (hbox); have n10_ := Aside0.mk ((by rw [hg]; exact (below_size (by repeat (first | (with_reducible first | exact HB.out | apply below_alloc | apply pw_below_drewN | apply below_drew1 | refine below_set ?_ GE222.out | refine below_set ?_ GE237.out) | exact HB.out))) : w.heap.size ≤ gb244)); have n11_ := Aside0.mk ((by rw [hg]; exact (below_size (by repeat (first | (with_reducible first | exact HB.out | apply below_alloc | apply pw_below_drewN | apply below_drew1 | refine below_set ?_ GE222.out | refine below_set ?_ GE237.out) | exact HB.out))) : w.heap.size ≤ gb244)); have n12_ := Aside0.mk ((by rw [hg]; exact Nat.ne_of_lt (blk_lt (g := gb222) (o := .cells #[.slice A0_0 l0_0.length c0_0, .slice A0_1 l0_1.length c0_1] 57 (0, 0)) (by (with_reducible repeat (first | refine blk_drewN ?_ _ | refine blk_drew ?_ | refine blk_alloc ?_ _)); exact BK222.out)) : gb222 ≠ gb244)); have n13_ := Aside0.mk ((by rw [hg]; exact Nat.ne_of_gt (blk_lt (g := gb222) (o := .cells #[.slice A0_0 l0_0.length c0_0, .slice A0_1 l0_1.length c0_1] 57 (0, 0)) (by (with_reducible repeat (first | refine blk_drewN ?_ _ | refine blk_drew ?_ | refine blk_alloc ?_ _)); exact BK222.out)) : gb244 ≠ gb222)); have n14_ := Aside0.mk ((by rw [hg]; exact Nat.ne_of_lt (blk_lt (g := gb237) (o := .cells #[.slice Ao25 t230.length co25, .slice Ao28 t233.length co28] 36 (0, 0)) (by (with_reducible repeat (first | refine blk_drewN ?_ _ | refine blk_drew ?_ | refine blk_alloc ?_ _)); exact BK237.out)) : gb237 ≠ gb244)); have n15_ := Aside0.mk ((by rw [hg]; exact Nat.ne_of_gt (blk_lt (g := gb237) (o := .cells #[.slice Ao25 t230.length co25, .slice Ao28 t233.length co28] 36 (0, 0)) (by (with_reducible repeat (first | refine blk_drewN ?_ _ | refine blk_drew ?_ | refine blk_alloc ?_ _)); exact BK237.out)) : gb244 ≠ gb237)); clear HO226; clear HO229; clear HO232; clear HO235; clear HO240; clear HO243; clear BK222; clear BK237; clear HB; have HO226 := n0_; have HO229 := n1_; have HO232 := n2_; have HO235 := n3_; have HO240 := n4_; have HO243 := n5_; have BK222 := n6_; have BK237 := n7_; have HB := n8_; have BK244 := n9_; have GW244 := n10_; have GE244 := n11_; have NB222_244 := n12_; have NB244_222 := n13_; have NB237_244 := n14_; have NB244_237 := n15_; clear n0_ n1_ n2_ n3_ n4_ n5_ n6_ n7_ n8_ n9_ n10_ n11_ n12_ n13_ n14_ n15_; clear hb hbox hg; obtain ⟨Ao32, co32, eo32⟩ := Kd.R_slice HO240.out; subst eo32; have hnb33 := NB244_222.out; have hnc33 := NB222_244.out; have hnb34 := NB244_237.out; have hnc34 := NB237_244.out; have hcz35_0 : w31.cell? ⟨gb244, 0, none⟩ = some (.slice none 0 0) := (blk_cell BK244.out 0).trans rfl; have hcz35_1 : w31.cell? ⟨gb244, 1, none⟩ = some (.slice none 0 0) := (blk_cell BK244.out 1).trans rfl; have hfz35_0 := blk_frozen BK244.out 0; have hfz35_1 := blk_frozen BK244.out 1; obtain ⟨Ao36, co36, eo36⟩ := Kd.R_slice HO243.out; subst eo36) | ((with_reducible refine gate_callee (f := 21) rfl ?_); refine goesL_ (some 40) rfl rfl Try.func21 (by kernel_rfl) rfl #[.agg #[.slice Ao32 t238.length co32, .slice Ao36 t241.length co36], .int .i64 a1, .string a2] rfl (by (try simp only [List.map_toArray, List.map_cons, List.map_nil]); first | done | rfl | (simp only [List.length_drop, List.length_take]; rfl)) ?_; (with_reducible refine (impl_WritePage.calls _ _ t238 _ _ t241 a1 a2 t245 t248 t251 _ ?side1 ?side2 ?side3 ?side4 A14.out).mono ?_); (case side1 => refine (Kd.R_reads' (e := 9) (base := w.heap.size) (ok := fun k_ => ((True ∧ some k_ ≠ (.slice Ao21 t224.length co21 : Value).ownBlock) ∧ some k_ ≠ (.slice Ao25 t230.length co25 : Value).ownBlock)) (n := t238.length) (c := co32) ?_).2.2; exact (by (with_reducible repeat (first | apply Kd.R_alloc | apply Kd.R_drewN | apply Kd.R_drew)); exact (Kd.R_mono (Kd.R_far (p := ⟨gb244, 1, none⟩) (Kd.R_far (p := ⟨gb244, 0, none⟩) (Kd.R_types HO240.out BK244.out (by decide)) (fun _ hk => hk.2) (.slice Ao32 t238.length co32)) (fun _ hk => hk.2) (.slice Ao36 t241.length co36)) (fun _ h_ => h_.1)))); (case side2 => exact (Kd.R_reads' HO240.out).2.1); (case side3 => refine (Kd.R_reads' (e := 74) (base := w.heap.size) (ok := fun k_ => ((True ∧ some k_ ≠ (.slice Ao22 t227.length co22 : Value).ownBlock) ∧ some k_ ≠ (.slice Ao28 t233.length co28 : Value).ownBlock)) (n := t241.length) (c := co36) ?_).2.2; exact (by (with_reducible repeat (first | apply Kd.R_alloc | apply Kd.R_drewN | apply Kd.R_drew)); exact (Kd.R_mono (Kd.R_far (p := ⟨gb244, 1, none⟩) (Kd.R_far (p := ⟨gb244, 0, none⟩) (Kd.R_types HO243.out BK244.out (by decide)) (fun _ hk => hk.2) (.slice Ao32 t238.length co32)) (fun _ hk => hk.2) (.slice Ao36 t241.length co36)) (fun _ h_ => h_.1)))); (case side4 => exact (Kd.R_reads' HO243.out).2.1); rintro e w37 ⟨v246, v249, rfl, ho0, ho1, hb⟩; refine ⟨_, rfl, ?_⟩; have n0_ := Aside0.mk (Kd.R_elder' (by (with_reducible repeat (first | apply Kd.R_alloc | apply Kd.R_drewN | apply Kd.R_drew)); exact (Kd.R_mono (Kd.R_far (p := ⟨gb244, 1, none⟩) (Kd.R_far (p := ⟨gb244, 0, none⟩) (Kd.R_types HO226.out BK244.out (by decide)) (fun _ hk => hk.2) (.slice Ao32 t238.length co32)) (fun _ hk => hk.2) (.slice Ao36 t241.length co36)) (fun _ h_ => h_.1))) (Kd.R_base ho0) hb); have n1_ := Aside0.mk (Kd.R_elder' (by (with_reducible repeat (first | apply Kd.R_alloc | apply Kd.R_drewN | apply Kd.R_drew)); exact (Kd.R_mono (Kd.R_far (p := ⟨gb244, 1, none⟩) (Kd.R_far (p := ⟨gb244, 0, none⟩) (Kd.R_types HO229.out BK244.out (by decide)) (fun _ hk => hk.2) (.slice Ao32 t238.length co32)) (fun _ hk => hk.2) (.slice Ao36 t241.length co36)) (fun _ h_ => h_.1))) (Kd.R_base ho1) hb); have n2_ := Aside0.mk (Kd.R_elder' (by (with_reducible repeat (first | apply Kd.R_alloc | apply Kd.R_drewN | apply Kd.R_drew)); exact (Kd.R_mono (Kd.R_far (p := ⟨gb244, 1, none⟩) (Kd.R_far (p := ⟨gb244, 0, none⟩) (Kd.R_types HO232.out BK244.out (by decide)) (fun _ hk => hk.2) (.slice Ao32 t238.length co32)) (fun _ hk => hk.2) (.slice Ao36 t241.length co36)) (fun _ h_ => h_.1))) (Kd.R_base ho0) hb); have n3_ := Aside0.mk (Kd.R_elder' (by (with_reducible repeat (first | apply Kd.R_alloc | apply Kd.R_drewN | apply Kd.R_drew)); exact (Kd.R_mono (Kd.R_far (p := ⟨gb244, 1, none⟩) (Kd.R_far (p := ⟨gb244, 0, none⟩) (Kd.R_types HO235.out BK244.out (by decide)) (fun _ hk => hk.2) (.slice Ao32 t238.length co32)) (fun _ hk => hk.2) (.slice Ao36 t241.length co36)) (fun _ h_ => h_.1))) (Kd.R_base ho1) hb); have n4_ := Aside0.mk (Kd.R_elder' (by (with_reducible repeat (first | apply Kd.R_alloc | apply Kd.R_drewN | apply Kd.R_drew)); exact (Kd.R_mono (Kd.R_far (p := ⟨gb244, 1, none⟩) (Kd.R_far (p := ⟨gb244, 0, none⟩) (Kd.R_types HO240.out BK244.out (by decide)) (fun _ hk => hk.2) (.slice Ao32 t238.length co32)) (fun _ hk => hk.2) (.slice Ao36 t241.length co36)) (fun _ h_ => h_.1))) (Kd.R_base ho0) hb); have n5_ := Aside0.mk (Kd.R_elder' (by (with_reducible repeat (first | apply Kd.R_alloc | apply Kd.R_drewN | apply Kd.R_drew)); exact (Kd.R_mono (Kd.R_far (p := ⟨gb244, 1, none⟩) (Kd.R_far (p := ⟨gb244, 0, none⟩) (Kd.R_types HO243.out BK244.out (by decide)) (fun _ hk => hk.2) (.slice Ao32 t238.length co32)) (fun _ hk => hk.2) (.slice Ao36 t241.length co36)) (fun _ h_ => h_.1))) (Kd.R_base ho1) hb); have n6_ := Aside0.mk (Kd.R_lower (Kd.R_new' (Kd.R_new' (Kd.R_new' ho0 (Kd.R_lt (by (with_reducible repeat (first | apply Kd.R_alloc | apply Kd.R_drewN | apply Kd.R_drew)); exact (Kd.R_mono (Kd.R_far (p := ⟨gb244, 1, none⟩) (Kd.R_far (p := ⟨gb244, 0, none⟩) (Kd.R_types HO226.out BK244.out (by decide)) (fun _ hk => hk.2) (.slice Ao32 t238.length co32)) (fun _ hk => hk.2) (.slice Ao36 t241.length co36)) (fun _ h_ => h_.1))))) (Kd.R_lt (by (with_reducible repeat (first | apply Kd.R_alloc | apply Kd.R_drewN | apply Kd.R_drew)); exact (Kd.R_mono (Kd.R_far (p := ⟨gb244, 1, none⟩) (Kd.R_far (p := ⟨gb244, 0, none⟩) (Kd.R_types HO232.out BK244.out (by decide)) (fun _ hk => hk.2) (.slice Ao32 t238.length co32)) (fun _ hk => hk.2) (.slice Ao36 t241.length co36)) (fun _ h_ => h_.1))))) (Kd.R_lt (by (with_reducible repeat (first | apply Kd.R_alloc | apply Kd.R_drewN | apply Kd.R_drew)); exact (Kd.R_mono (Kd.R_far (p := ⟨gb244, 1, none⟩) (Kd.R_far (p := ⟨gb244, 0, none⟩) (Kd.R_types HO240.out BK244.out (by decide)) (fun _ hk => hk.2) (.slice Ao32 t238.length co32)) (fun _ hk => hk.2) (.slice Ao36 t241.length co36)) (fun _ h_ => h_.1))))) (below_size (by repeat (first | (with_reducible first | exact HB.out | apply below_alloc | apply pw_below_drewN | apply below_drew1 | refine below_set ?_ GE222.out | refine below_set ?_ GE237.out | refine below_set ?_ GE244.out) | exact HB.out)))); have n7_ := Aside0.mk (Kd.R_lower (Kd.R_new' (Kd.R_new' (Kd.R_new' ho1 (Kd.R_lt (by (with_reducible repeat (first | apply Kd.R_alloc | apply Kd.R_drewN | apply Kd.R_drew)); exact (Kd.R_mono (Kd.R_far (p := ⟨gb244, 1, none⟩) (Kd.R_far (p := ⟨gb244, 0, none⟩) (Kd.R_types HO229.out BK244.out (by decide)) (fun _ hk => hk.2) (.slice Ao32 t238.length co32)) (fun _ hk => hk.2) (.slice Ao36 t241.length co36)) (fun _ h_ => h_.1))))) (Kd.R_lt (by (with_reducible repeat (first | apply Kd.R_alloc | apply Kd.R_drewN | apply Kd.R_drew)); exact (Kd.R_mono (Kd.R_far (p := ⟨gb244, 1, none⟩) (Kd.R_far (p := ⟨gb244, 0, none⟩) (Kd.R_types HO235.out BK244.out (by decide)) (fun _ hk => hk.2) (.slice Ao32 t238.length co32)) (fun _ hk => hk.2) (.slice Ao36 t241.length co36)) (fun _ h_ => h_.1))))) (Kd.R_lt (by (with_reducible repeat (first | apply Kd.R_alloc | apply Kd.R_drewN | apply Kd.R_drew)); exact (Kd.R_mono (Kd.R_far (p := ⟨gb244, 1, none⟩) (Kd.R_far (p := ⟨gb244, 0, none⟩) (Kd.R_types HO243.out BK244.out (by decide)) (fun _ hk => hk.2) (.slice Ao32 t238.length co32)) (fun _ hk => hk.2) (.slice Ao36 t241.length co36)) (fun _ h_ => h_.1))))) (below_size (by repeat (first | (with_reducible first | exact HB.out | apply below_alloc | apply pw_below_drewN | apply below_drew1 | refine below_set ?_ GE222.out | refine below_set ?_ GE237.out | refine below_set ?_ GE244.out) | exact HB.out)))); have n8_ := Aside0.mk (blk_below (g := gb222) (o := .cells #[.slice A0_0 l0_0.length c0_0, .slice A0_1 l0_1.length c0_1] 57 (0, 0)) (by (with_reducible repeat (first | refine blk_drewN ?_ _ | refine blk_drew ?_ | refine blk_alloc ?_ _)); refine blk_far ?_ NB222_244.out _; (with_reducible repeat (first | refine blk_drewN ?_ _ | refine blk_drew ?_ | refine blk_alloc ?_ _)); refine blk_far ?_ NB222_244.out _; (with_reducible repeat (first | refine blk_drewN ?_ _ | refine blk_drew ?_ | refine blk_alloc ?_ _)); exact BK222.out) hb); have n9_ := Aside0.mk (blk_below (g := gb237) (o := .cells #[.slice Ao25 t230.length co25, .slice Ao28 t233.length co28] 36 (0, 0)) (by (with_reducible repeat (first | refine blk_drewN ?_ _ | refine blk_drew ?_ | refine blk_alloc ?_ _)); refine blk_far ?_ NB237_244.out _; (with_reducible repeat (first | refine blk_drewN ?_ _ | refine blk_drew ?_ | refine blk_alloc ?_ _)); refine blk_far ?_ NB237_244.out _; (with_reducible repeat (first | refine blk_drewN ?_ _ | refine blk_drew ?_ | refine blk_alloc ?_ _)); exact BK237.out) hb); have n10_ := Aside0.mk (blk_below (g := gb244) (o := .cells #[.slice Ao32 t238.length co32, .slice Ao36 t241.length co36] 36 (0, 0)) (by (with_reducible repeat (first | refine blk_drewN ?_ _ | refine blk_drew ?_ | refine blk_alloc ?_ _)); refine blk_put (cs := #[.slice Ao32 t238.length co32, .slice none 0 0]) ?_ 1 _ rfl; (with_reducible repeat (first | refine blk_drewN ?_ _ | refine blk_drew ?_ | refine blk_alloc ?_ _)); refine blk_put (cs := #[.slice none 0 0, .slice none 0 0]) ?_ 0 _ rfl; (with_reducible repeat (first | refine blk_drewN ?_ _ | refine blk_drew ?_ | refine blk_alloc ?_ _)); exact BK244.out) hb); have n11_ := Aside0.mk (below_step (by repeat (first | (with_reducible first | exact HB.out | apply below_alloc | apply pw_below_drewN | apply below_drew1 | refine below_set ?_ GE222.out | refine below_set ?_ GE237.out | refine below_set ?_ GE244.out) | exact HB.out)) hb); clear HO226; clear HO229; clear HO232; clear HO235; clear HO240; clear HO243; clear BK222; clear BK237; clear BK244; clear HB; have HO226 := n0_; have HO229 := n1_; have HO232 := n2_; have HO235 := n3_; have HO240 := n4_; have HO243 := n5_; have HO247 := n6_; have HO250 := n7_; have BK222 := n8_; have BK237 := n9_; have BK244 := n10_; have HB := n11_; clear n0_ n1_ n2_ n3_ n4_ n5_ n6_ n7_ n8_ n9_ n10_ n11_; (try clear hb); (try clear hb2); (try clear hk); (try clear hi); (try clear ho0); (try clear ho1)) | ((with_reducible refine gate_dst (N := 11) rfl ?_); refine box_event ?hg (N := 11) ?hd (cs := #[.slice none 0 0, .slice none 0 0]) (t := 36) ?hr ?_; (case hd => rfl); (case hg => rfl); (case hr => first | (go_simp; done) | (go_simp; rfl)); intro gb252 hg w38 hbox hb; have n0_ := Aside0.mk (Kd.R_below (by (with_reducible repeat (first | apply Kd.R_alloc | apply Kd.R_drewN | apply Kd.R_drew)); exact HO226.out) hb); have n1_ := Aside0.mk (Kd.R_below (by (with_reducible repeat (first | apply Kd.R_alloc | apply Kd.R_drewN | apply Kd.R_drew)); exact HO229.out) hb); have n2_ := Aside0.mk (Kd.R_below (by (with_reducible repeat (first | apply Kd.R_alloc | apply Kd.R_drewN | apply Kd.R_drew)); exact HO232.out) hb); have n3_ := Aside0.mk (Kd.R_below (by (with_reducible repeat (first | apply Kd.R_alloc | apply Kd.R_drewN | apply Kd.R_drew)); exact HO235.out) hb); have n4_ := Aside0.mk (Kd.R_below (by (with_reducible repeat (first | apply Kd.R_alloc | apply Kd.R_drewN | apply Kd.R_drew)); exact HO240.out) hb); have n5_ := Aside0.mk (Kd.R_below (by (with_reducible repeat (first | apply Kd.R_alloc | apply Kd.R_drewN | apply Kd.R_drew)); exact HO243.out) hb); have n6_ := Aside0.mk (Kd.R_below (by (with_reducible repeat (first | apply Kd.R_alloc | apply Kd.R_drewN | apply Kd.R_drew)); exact HO247.out) hb); have n7_ := Aside0.mk (Kd.R_below (by (with_reducible repeat (first | apply Kd.R_alloc | apply Kd.R_drewN | apply Kd.R_drew)); exact HO250.out) hb); have n8_ := Aside0.mk (blk_below (g := gb222) (o := .cells #[.slice A0_0 l0_0.length c0_0, .slice A0_1 l0_1.length c0_1] 57 (0, 0)) (by (with_reducible repeat (first | refine blk_drewN ?_ _ | refine blk_drew ?_ | refine blk_alloc ?_ _)); exact BK222.out) hb); have n9_ := Aside0.mk (blk_below (g := gb237) (o := .cells #[.slice Ao25 t230.length co25, .slice Ao28 t233.length co28] 36 (0, 0)) (by (with_reducible repeat (first | refine blk_drewN ?_ _ | refine blk_drew ?_ | refine blk_alloc ?_ _)); exact BK237.out) hb); have n10_ := Aside0.mk (blk_below (g := gb244) (o := .cells #[.slice Ao32 t238.length co32, .slice Ao36 t241.length co36] 36 (0, 0)) (by (with_reducible repeat (first | refine blk_drewN ?_ _ | refine blk_drew ?_ | refine blk_alloc ?_ _)); exact BK244.out) hb); have n11_ := Aside0.mk (below_step (by repeat (first | (with_reducible first | exact HB.out | apply below_alloc | apply pw_below_drewN | apply below_drew1 | refine below_set ?_ GE222.out | refine below_set ?_ GE237.out | refine below_set ?_ GE244.out) | exact HB.out)) hb); have n12_ := Aside0.mk (hbox); have n13_ := Aside0.mk ((by rw [hg]; exact (below_size (by repeat (first | (with_reducible first | exact HB.out | apply below_alloc | apply pw_below_drewN | apply below_drew1 | refine below_set ?_ GE222.out | refine below_set ?_ GE237.out | refine below_set ?_ GE244.out) | exact HB.out))) : w.heap.size ≤ gb252)); have n14_ := Aside0.mk ((by rw [hg]; exact (below_size (by repeat (first | (with_reducible first | exact HB.out | apply below_alloc | apply pw_below_drewN | apply below_drew1 | refine below_set ?_ GE222.out | refine below_set ?_ GE237.out | refine below_set ?_ GE244.out) | exact HB.out))) : w.heap.size ≤ gb252)); have n15_ := Aside0.mk ((by rw [hg]; exact Nat.ne_of_lt (blk_lt (g := gb222) (o := .cells #[.slice A0_0 l0_0.length c0_0, .slice A0_1 l0_1.length c0_1] 57 (0, 0)) (by (with_reducible repeat (first | refine blk_drewN ?_ _ | refine blk_drew ?_ | refine blk_alloc ?_ _)); exact BK222.out)) : gb222 ≠ gb252)); have n16_ := Aside0.mk ((by rw [hg]; exact Nat.ne_of_gt (blk_lt (g := gb222) (o := .cells #[.slice A0_0 l0_0.length c0_0, .slice A0_1 l0_1.length c0_1] 57 (0, 0)) (by (with_reducible repeat (first | refine blk_drewN ?_ _ | refine blk_drew ?_ | refine blk_alloc ?_ _)); exact BK222.out)) : gb252 ≠ gb222)); have n17_ := Aside0.mk ((by rw [hg]; exact Nat.ne_of_lt (blk_lt (g := gb237) (o := .cells #[.slice Ao25 t230.length co25, .slice Ao28 t233.length co28] 36 (0, 0)) (by (with_reducible repeat (first | refine blk_drewN ?_ _ | refine blk_drew ?_ | refine blk_alloc ?_ _)); exact BK237.out)) : gb237 ≠ gb252)); have n18_ := Aside0.mk ((by rw [hg]; exact Nat.ne_of_gt (blk_lt (g := gb237) (o := .cells #[.slice Ao25 t230.length co25, .slice Ao28 t233.length co28] 36 (0, 0)) (by (with_reducible repeat (first | refine blk_drewN ?_ _ | refine blk_drew ?_ | refine blk_alloc ?_ _)); exact BK237.out)) : gb252 ≠ gb237)); have n19_ := Aside0.mk ((by rw [hg]; exact Nat.ne_of_lt (blk_lt (g := gb244) (o := .cells #[.slice Ao32 t238.length co32, .slice Ao36 t241.length co36] 36 (0, 0)) (by (with_reducible repeat (first | refine blk_drewN ?_ _ | refine blk_drew ?_ | refine blk_alloc ?_ _)); exact BK244.out)) : gb244 ≠ gb252)); have n20_ := Aside0.mk ((by rw [hg]; exact Nat.ne_of_gt (blk_lt (g := gb244) (o := .cells #[.slice Ao32 t238.length co32, .slice Ao36 t241.length co36] 36 (0, 0)) (by (with_reducible repeat (first | refine blk_drewN ?_ _ | refine blk_drew ?_ | refine blk_alloc ?_ _)); exact BK244.out)) : gb252 ≠ gb244)); clear HO226; clear HO229; clear HO232; clear HO235; clear HO240; clear HO243; clear HO247; clear HO250; clear BK222; clear BK237; clear BK244; clear HB; have HO226 := n0_; have HO229 := n1_; have HO232 := n2_; have HO235 := n3_; have HO240 := n4_; have HO243 := n5_; have HO247 := n6_; have HO250 := n7_; have BK222 := n8_; have BK237 := n9_; have BK244 := n10_; have HB := n11_; have BK252 := n12_; have GW252 := n13_; have GE252 := n14_; have NB222_252 := n15_; have NB252_222 := n16_; have NB237_252 := n17_; have NB252_237 := n18_; have NB244_252 := n19_; have NB252_244 := n20_; clear n0_ n1_ n2_ n3_ n4_ n5_ n6_ n7_ n8_ n9_ n10_ n11_ n12_ n13_ n14_ n15_ n16_ n17_ n18_ n19_ n20_; clear hb hbox hg; obtain ⟨Ao39, co39, eo39⟩ := Kd.R_slice HO247.out; subst eo39; have hnb40 := NB252_222.out; have hnc40 := NB222_252.out; have hnb41 := NB252_237.out; have hnc41 := NB237_252.out; have hnb42 := NB252_244.out; have hnc42 := NB244_252.out; have hcz43_0 : w38.cell? ⟨gb252, 0, none⟩ = some (.slice none 0 0) := (blk_cell BK252.out 0).trans rfl; have hcz43_1 : w38.cell? ⟨gb252, 1, none⟩ = some (.slice none 0 0) := (blk_cell BK252.out 1).trans rfl; have hfz43_0 := blk_frozen BK252.out 0; have hfz43_1 := blk_frozen BK252.out 1; obtain ⟨Ao44, co44, eo44⟩ := Kd.R_slice HO250.out; subst eo44))
      (try simp only [Act.put, List.setIfInBounds_toArray, List.set_cons_zero, List.set_cons_succ])
      go_cut [51] (fun v51 wc => ∃ (kq : Nat) (x51_14 : Bool), v51 = .bool x51_14 ∧ Aside0 (laws_FnExactWritePage.j0 kq a1 a2 t236 t251 x51_14 l0_0 l0_1 t230 t233 t238 t241 t245 t248 = some r) ∧ Aside0 (kq ≤ k) ∧ Aside0 (Kd.R Kd.string 9 wc w.heap.size (fun k_ => some k_ ≠ ((.slice Ao32 t238.length co32) : Value).ownBlock ∧ some k_ ≠ ((.slice Ao39 t245.length co39) : Value).ownBlock) (.slice Ao25 t230.length co25) t230) ∧ Aside0 (Kd.R k74 74 wc w.heap.size (fun k_ => some k_ ≠ ((.slice Ao36 t241.length co36) : Value).ownBlock ∧ some k_ ≠ ((.slice Ao44 t248.length co44) : Value).ownBlock) (.slice Ao28 t233.length co28) t233) ∧ Aside0 (Kd.R Kd.string 9 wc w.heap.size (fun k_ => some k_ ≠ ((.slice Ao25 t230.length co25) : Value).ownBlock ∧ some k_ ≠ ((.slice Ao39 t245.length co39) : Value).ownBlock) (.slice Ao32 t238.length co32) t238) ∧ Aside0 (Kd.R k74 74 wc w.heap.size (fun k_ => some k_ ≠ ((.slice Ao28 t233.length co28) : Value).ownBlock ∧ some k_ ≠ ((.slice Ao44 t248.length co44) : Value).ownBlock) (.slice Ao36 t241.length co36) t241) ∧ Aside0 (Kd.R Kd.string 9 wc w.heap.size (fun k_ => some k_ ≠ ((.slice Ao25 t230.length co25) : Value).ownBlock ∧ some k_ ≠ ((.slice Ao32 t238.length co32) : Value).ownBlock) (.slice Ao39 t245.length co39) t245) ∧ Aside0 (Kd.R k74 74 wc w.heap.size (fun k_ => some k_ ≠ ((.slice Ao28 t233.length co28) : Value).ownBlock ∧ some k_ ≠ ((.slice Ao36 t241.length co36) : Value).ownBlock) (.slice Ao44 t248.length co44) t248) ∧ Aside0 (wc.heap[gb222]? = some (.cells #[(.slice A0_0 l0_0.length c0_0), (.slice A0_1 l0_1.length c0_1)] 57 (0, 0))) ∧ Aside0 (wc.heap[gb237]? = some (.cells #[(.slice Ao25 t230.length co25), (.slice Ao28 t233.length co28)] 36 (0, 0))) ∧ Aside0 (wc.heap[gb244]? = some (.cells #[(.slice Ao32 t238.length co32), (.slice Ao36 t241.length co36)] 36 (0, 0))) ∧ Aside0 (wc.heap[gb252]? = some (.cells #[(.slice Ao39 t245.length co39), (.slice Ao44 t248.length co44)] 36 (0, 0))) ∧ Aside0 (Below w.heap.size w wc))
      case first =>
        have H := HC15.out
        clear HC15
        replace H := Option.bind_eq_some_iff.mp H
        obtain ⟨t253, A450, H⟩ := H
        replace H : (if t253 = true then (laws_FnExactWritePage.j0 k a1 a2 t236 t251 (t251 != t236) l0_0 l0_1 t230 t233 t238 t241 t245 t248) else (none)) = some r := H
        have A45 := Aside0.mk A450
        clear A450
        by_cases c46 : t253 = true
        · subst c46
          have H1 : (laws_FnExactWritePage.j0 k a1 a2 t236 t251 (t251 != t236) l0_0 l0_1 t230 t233 t238 t241 t245 t248) = some r := by rw [if_pos rfl] at H; exact H
          clear H
          have H := H1
          clear H1
          have H' := Aside0.mk H
          clear H
          have hnb47 := NB252_222.out
          have hnc47 := NB222_252.out
          have hnb48 := NB252_237.out
          have hnc48 := NB237_252.out
          have hnb49 := NB252_244.out
          have hnc49 := NB244_252.out
          have hcz50_0 : w38.cell? ⟨gb252, 0, none⟩ = some (.slice none 0 0) := (blk_cell BK252.out 0).trans rfl
          have hcz50_1 : w38.cell? ⟨gb252, 1, none⟩ = some (.slice none 0 0) := (blk_cell BK252.out 1).trans rfl
          have hfz50_0 := blk_frozen BK252.out 0
          have hfz50_1 := blk_frozen BK252.out 1
          have hnb51 := NB237_222.out
          have hnc51 := NB222_237.out
          have hnb52 := NB237_244.out
          have hnc52 := NB244_237.out
          have hcz53_0 : w38.cell? ⟨gb237, 0, none⟩ = some (.slice Ao25 t230.length co25) := (blk_cell BK237.out 0).trans rfl
          have hcz53_1 : w38.cell? ⟨gb237, 1, none⟩ = some (.slice Ao28 t233.length co28) := (blk_cell BK237.out 1).trans rfl
          have hfz53_0 := blk_frozen BK237.out 0
          have hfz53_1 := blk_frozen BK237.out 1
          go_wp2_with (first | ((with_reducible refine gate_callee (f := 34) rfl ?_); refine goesL_ (some 45) rfl rfl Try.func34 (by kernel_rfl) rfl #[.agg #[.slice Ao39 t245.length co39, .slice Ao44 t248.length co44], .agg #[.slice Ao25 t230.length co25, .slice Ao28 t233.length co28]] rfl (by (try simp only [List.map_toArray, List.map_cons, List.map_nil]); first | done | rfl | (simp only [List.length_drop, List.length_take]; rfl)) ?_; (with_reducible refine (laws_eqDisk.calls k _ _ t245 _ _ t248 _ _ t230 _ _ t233 true _ ?side1 ?side2 ?side3 ?side4 ?side5 ?side6 ?side7 ?side8 A45.out).mono ?_); (case side1 => refine (Kd.R_reads' (e := 9) (base := w.heap.size) (ok := fun k_ => (((True ∧ some k_ ≠ (.slice Ao21 t224.length co21 : Value).ownBlock) ∧ some k_ ≠ (.slice Ao25 t230.length co25 : Value).ownBlock) ∧ some k_ ≠ (.slice Ao32 t238.length co32 : Value).ownBlock)) (n := t245.length) (c := co39) ?_).2.2; exact (by (with_reducible repeat (first | apply Kd.R_alloc | apply Kd.R_drewN | apply Kd.R_drew)); exact (Kd.R_mono (Kd.R_far (p := ⟨gb252, 1, none⟩) (Kd.R_far (p := ⟨gb252, 0, none⟩) (Kd.R_types HO247.out BK252.out (by decide)) (fun _ hk => hk.2) (.slice Ao39 t245.length co39)) (fun _ hk => hk.2) (.slice Ao44 t248.length co44)) (fun _ h_ => h_.1)))); (case side2 => exact (Kd.R_reads' HO247.out).2.1); (case side3 => refine (Kd.R_reads' (e := 74) (base := w.heap.size) (ok := fun k_ => (((True ∧ some k_ ≠ (.slice Ao22 t227.length co22 : Value).ownBlock) ∧ some k_ ≠ (.slice Ao28 t233.length co28 : Value).ownBlock) ∧ some k_ ≠ (.slice Ao36 t241.length co36 : Value).ownBlock)) (n := t248.length) (c := co44) ?_).2.2; exact (by (with_reducible repeat (first | apply Kd.R_alloc | apply Kd.R_drewN | apply Kd.R_drew)); exact (Kd.R_mono (Kd.R_far (p := ⟨gb252, 1, none⟩) (Kd.R_far (p := ⟨gb252, 0, none⟩) (Kd.R_types HO250.out BK252.out (by decide)) (fun _ hk => hk.2) (.slice Ao39 t245.length co39)) (fun _ hk => hk.2) (.slice Ao44 t248.length co44)) (fun _ h_ => h_.1)))); (case side4 => exact (Kd.R_reads' HO250.out).2.1); (case side5 => refine (Kd.R_reads' (e := 9) (base := w.heap.size) (ok := fun k_ => (((True ∧ some k_ ≠ (.slice Ao21 t224.length co21 : Value).ownBlock) ∧ some k_ ≠ (.slice Ao32 t238.length co32 : Value).ownBlock) ∧ some k_ ≠ (.slice Ao39 t245.length co39 : Value).ownBlock)) (n := t230.length) (c := co25) ?_).2.2; exact (by (with_reducible repeat (first | apply Kd.R_alloc | apply Kd.R_drewN | apply Kd.R_drew)); exact (Kd.R_mono (Kd.R_far (p := ⟨gb252, 1, none⟩) (Kd.R_far (p := ⟨gb252, 0, none⟩) (Kd.R_types HO232.out BK252.out (by decide)) (fun _ hk => hk.2) (.slice Ao39 t245.length co39)) (fun _ hk => hk.2) (.slice Ao44 t248.length co44)) (fun _ h_ => h_.1)))); (case side6 => exact (Kd.R_reads' HO232.out).2.1); (case side7 => refine (Kd.R_reads' (e := 74) (base := w.heap.size) (ok := fun k_ => (((True ∧ some k_ ≠ (.slice Ao22 t227.length co22 : Value).ownBlock) ∧ some k_ ≠ (.slice Ao36 t241.length co36 : Value).ownBlock) ∧ some k_ ≠ (.slice Ao44 t248.length co44 : Value).ownBlock)) (n := t233.length) (c := co28) ?_).2.2; exact (by (with_reducible repeat (first | apply Kd.R_alloc | apply Kd.R_drewN | apply Kd.R_drew)); exact (Kd.R_mono (Kd.R_far (p := ⟨gb252, 1, none⟩) (Kd.R_far (p := ⟨gb252, 0, none⟩) (Kd.R_types HO235.out BK252.out (by decide)) (fun _ hk => hk.2) (.slice Ao39 t245.length co39)) (fun _ hk => hk.2) (.slice Ao44 t248.length co44)) (fun _ h_ => h_.1)))); (case side8 => exact (Kd.R_reads' HO235.out).2.1); rintro e w54 ⟨rfl, hb⟩; refine ⟨_, rfl, ?_⟩; have n0_ := Aside0.mk (Kd.R_below (by (with_reducible repeat (first | apply Kd.R_alloc | apply Kd.R_drewN | apply Kd.R_drew)); exact (Kd.R_mono (Kd.R_far (p := ⟨gb252, 1, none⟩) (Kd.R_far (p := ⟨gb252, 0, none⟩) (Kd.R_types HO226.out BK252.out (by decide)) (fun _ hk => hk.2) (.slice Ao39 t245.length co39)) (fun _ hk => hk.2) (.slice Ao44 t248.length co44)) (fun _ h_ => h_.1))) hb); have n1_ := Aside0.mk (Kd.R_below (by (with_reducible repeat (first | apply Kd.R_alloc | apply Kd.R_drewN | apply Kd.R_drew)); exact (Kd.R_mono (Kd.R_far (p := ⟨gb252, 1, none⟩) (Kd.R_far (p := ⟨gb252, 0, none⟩) (Kd.R_types HO229.out BK252.out (by decide)) (fun _ hk => hk.2) (.slice Ao39 t245.length co39)) (fun _ hk => hk.2) (.slice Ao44 t248.length co44)) (fun _ h_ => h_.1))) hb); have n2_ := Aside0.mk (Kd.R_below (by (with_reducible repeat (first | apply Kd.R_alloc | apply Kd.R_drewN | apply Kd.R_drew)); exact (Kd.R_mono (Kd.R_far (p := ⟨gb252, 1, none⟩) (Kd.R_far (p := ⟨gb252, 0, none⟩) (Kd.R_types HO232.out BK252.out (by decide)) (fun _ hk => hk.2) (.slice Ao39 t245.length co39)) (fun _ hk => hk.2) (.slice Ao44 t248.length co44)) (fun _ h_ => h_.1))) hb); have n3_ := Aside0.mk (Kd.R_below (by (with_reducible repeat (first | apply Kd.R_alloc | apply Kd.R_drewN | apply Kd.R_drew)); exact (Kd.R_mono (Kd.R_far (p := ⟨gb252, 1, none⟩) (Kd.R_far (p := ⟨gb252, 0, none⟩) (Kd.R_types HO235.out BK252.out (by decide)) (fun _ hk => hk.2) (.slice Ao39 t245.length co39)) (fun _ hk => hk.2) (.slice Ao44 t248.length co44)) (fun _ h_ => h_.1))) hb); have n4_ := Aside0.mk (Kd.R_below (by (with_reducible repeat (first | apply Kd.R_alloc | apply Kd.R_drewN | apply Kd.R_drew)); exact (Kd.R_mono (Kd.R_far (p := ⟨gb252, 1, none⟩) (Kd.R_far (p := ⟨gb252, 0, none⟩) (Kd.R_types HO240.out BK252.out (by decide)) (fun _ hk => hk.2) (.slice Ao39 t245.length co39)) (fun _ hk => hk.2) (.slice Ao44 t248.length co44)) (fun _ h_ => h_.1))) hb); have n5_ := Aside0.mk (Kd.R_below (by (with_reducible repeat (first | apply Kd.R_alloc | apply Kd.R_drewN | apply Kd.R_drew)); exact (Kd.R_mono (Kd.R_far (p := ⟨gb252, 1, none⟩) (Kd.R_far (p := ⟨gb252, 0, none⟩) (Kd.R_types HO243.out BK252.out (by decide)) (fun _ hk => hk.2) (.slice Ao39 t245.length co39)) (fun _ hk => hk.2) (.slice Ao44 t248.length co44)) (fun _ h_ => h_.1))) hb); have n6_ := Aside0.mk (Kd.R_below (by (with_reducible repeat (first | apply Kd.R_alloc | apply Kd.R_drewN | apply Kd.R_drew)); exact (Kd.R_mono (Kd.R_far (p := ⟨gb252, 1, none⟩) (Kd.R_far (p := ⟨gb252, 0, none⟩) (Kd.R_types HO247.out BK252.out (by decide)) (fun _ hk => hk.2) (.slice Ao39 t245.length co39)) (fun _ hk => hk.2) (.slice Ao44 t248.length co44)) (fun _ h_ => h_.1))) hb); have n7_ := Aside0.mk (Kd.R_below (by (with_reducible repeat (first | apply Kd.R_alloc | apply Kd.R_drewN | apply Kd.R_drew)); exact (Kd.R_mono (Kd.R_far (p := ⟨gb252, 1, none⟩) (Kd.R_far (p := ⟨gb252, 0, none⟩) (Kd.R_types HO250.out BK252.out (by decide)) (fun _ hk => hk.2) (.slice Ao39 t245.length co39)) (fun _ hk => hk.2) (.slice Ao44 t248.length co44)) (fun _ h_ => h_.1))) hb); have n8_ := Aside0.mk (blk_below (g := gb222) (o := .cells #[.slice A0_0 l0_0.length c0_0, .slice A0_1 l0_1.length c0_1] 57 (0, 0)) (by (with_reducible repeat (first | refine blk_drewN ?_ _ | refine blk_drew ?_ | refine blk_alloc ?_ _)); refine blk_far ?_ NB222_252.out _; (with_reducible repeat (first | refine blk_drewN ?_ _ | refine blk_drew ?_ | refine blk_alloc ?_ _)); refine blk_far ?_ NB222_252.out _; (with_reducible repeat (first | refine blk_drewN ?_ _ | refine blk_drew ?_ | refine blk_alloc ?_ _)); exact BK222.out) hb); have n9_ := Aside0.mk (blk_below (g := gb237) (o := .cells #[.slice Ao25 t230.length co25, .slice Ao28 t233.length co28] 36 (0, 0)) (by (with_reducible repeat (first | refine blk_drewN ?_ _ | refine blk_drew ?_ | refine blk_alloc ?_ _)); refine blk_far ?_ NB237_252.out _; (with_reducible repeat (first | refine blk_drewN ?_ _ | refine blk_drew ?_ | refine blk_alloc ?_ _)); refine blk_far ?_ NB237_252.out _; (with_reducible repeat (first | refine blk_drewN ?_ _ | refine blk_drew ?_ | refine blk_alloc ?_ _)); exact BK237.out) hb); have n10_ := Aside0.mk (blk_below (g := gb244) (o := .cells #[.slice Ao32 t238.length co32, .slice Ao36 t241.length co36] 36 (0, 0)) (by (with_reducible repeat (first | refine blk_drewN ?_ _ | refine blk_drew ?_ | refine blk_alloc ?_ _)); refine blk_far ?_ NB244_252.out _; (with_reducible repeat (first | refine blk_drewN ?_ _ | refine blk_drew ?_ | refine blk_alloc ?_ _)); refine blk_far ?_ NB244_252.out _; (with_reducible repeat (first | refine blk_drewN ?_ _ | refine blk_drew ?_ | refine blk_alloc ?_ _)); exact BK244.out) hb); have n11_ := Aside0.mk (blk_below (g := gb252) (o := .cells #[.slice Ao39 t245.length co39, .slice Ao44 t248.length co44] 36 (0, 0)) (by (with_reducible repeat (first | refine blk_drewN ?_ _ | refine blk_drew ?_ | refine blk_alloc ?_ _)); refine blk_put (cs := #[.slice Ao39 t245.length co39, .slice none 0 0]) ?_ 1 _ rfl; (with_reducible repeat (first | refine blk_drewN ?_ _ | refine blk_drew ?_ | refine blk_alloc ?_ _)); refine blk_put (cs := #[.slice none 0 0, .slice none 0 0]) ?_ 0 _ rfl; (with_reducible repeat (first | refine blk_drewN ?_ _ | refine blk_drew ?_ | refine blk_alloc ?_ _)); exact BK252.out) hb); have n12_ := Aside0.mk (below_step (by repeat (first | (with_reducible first | exact HB.out | apply below_alloc | apply pw_below_drewN | apply below_drew1 | refine below_set ?_ GE222.out | refine below_set ?_ GE237.out | refine below_set ?_ GE244.out | refine below_set ?_ GE252.out) | exact HB.out)) hb); clear HO226; clear HO229; clear HO232; clear HO235; clear HO240; clear HO243; clear HO247; clear HO250; clear BK222; clear BK237; clear BK244; clear BK252; clear HB; have HO226 := n0_; have HO229 := n1_; have HO232 := n2_; have HO235 := n3_; have HO240 := n4_; have HO243 := n5_; have HO247 := n6_; have HO250 := n7_; have BK222 := n8_; have BK237 := n9_; have BK244 := n10_; have BK252 := n11_; have HB := n12_; clear n0_ n1_ n2_ n3_ n4_ n5_ n6_ n7_ n8_ n9_ n10_ n11_ n12_; (try clear hb); (try clear hb2); (try clear hk); (try clear hi)))
          go_meet
          case rel => exact ⟨_, ((t251 != t236)), (by first | rfl | (simp; done) | (simp [*]; done)), H', ⟨by first | omega | exact Nat.le_refl _⟩, ⟨by (with_reducible repeat (first | apply Kd.R_alloc | apply Kd.R_drewN | apply Kd.R_drew)); exact Kd.R_mono HO232.out (fun _ hk => ⟨hk.1.2, hk.2⟩)⟩, ⟨by (with_reducible repeat (first | apply Kd.R_alloc | apply Kd.R_drewN | apply Kd.R_drew)); exact Kd.R_mono HO235.out (fun _ hk => ⟨hk.1.2, hk.2⟩)⟩, ⟨by (with_reducible repeat (first | apply Kd.R_alloc | apply Kd.R_drewN | apply Kd.R_drew)); exact Kd.R_mono HO240.out (fun _ hk => ⟨hk.1.2, hk.2⟩)⟩, ⟨by (with_reducible repeat (first | apply Kd.R_alloc | apply Kd.R_drewN | apply Kd.R_drew)); exact Kd.R_mono HO243.out (fun _ hk => ⟨hk.1.2, hk.2⟩)⟩, ⟨by (with_reducible repeat (first | apply Kd.R_alloc | apply Kd.R_drewN | apply Kd.R_drew)); exact Kd.R_mono HO247.out (fun _ hk => ⟨hk.1.2, hk.2⟩)⟩, ⟨by (with_reducible repeat (first | apply Kd.R_alloc | apply Kd.R_drewN | apply Kd.R_drew)); exact Kd.R_mono HO250.out (fun _ hk => ⟨hk.1.2, hk.2⟩)⟩, ⟨by (with_reducible repeat (first | refine blk_drewN ?_ _ | refine blk_drew ?_ | refine blk_alloc ?_ _)); exact BK222.out⟩, ⟨by (with_reducible repeat (first | refine blk_drewN ?_ _ | refine blk_drew ?_ | refine blk_alloc ?_ _)); exact BK237.out⟩, ⟨by (with_reducible repeat (first | refine blk_drewN ?_ _ | refine blk_drew ?_ | refine blk_alloc ?_ _)); exact BK244.out⟩, ⟨by (with_reducible repeat (first | refine blk_drewN ?_ _ | refine blk_drew ?_ | refine blk_alloc ?_ _)); exact BK252.out⟩, ⟨by repeat (first | (with_reducible first | exact HB.out | apply below_alloc | apply pw_below_drewN | apply below_drew1 | refine below_set ?_ GE222.out | refine below_set ?_ GE237.out | refine below_set ?_ GE244.out | refine below_set ?_ GE252.out) | exact HB.out)⟩⟩
        · replace c46 := Bool.eq_false_iff.mpr c46
          subst c46
          have H1 : (none) = some r := by rw [if_neg (show ¬ (false = true) by decide)] at H; exact H
          clear H
          have H := H1
          clear H1
          exact absurd H (by simp)
      case rest =>
        clear HC15
        try clear c1
        try clear c2
        try clear p2
        try clear c3
        try clear c4
        try clear c4b0
        try clear c4b1
        try clear c5
        try clear c7
        try clear c7b0
        try clear c10
        try clear c21
        try clear c26
        try clear c31
        try clear c33
        try clear c34
        try clear c40
        try clear c41
        try clear c42
        try clear c46
        try clear c47
        try clear c48
        try clear c49
        try clear c51
        try clear c52
        try clear hcz17_0
        try clear hcz17_1
        try clear hcz19_0
        try clear hcz19_1
        try clear hcz27_0
        try clear hcz27_1
        try clear hcz29_0
        try clear hcz29_1
        try clear hcz35_0
        try clear hcz35_1
        try clear hcz43_0
        try clear hcz43_1
        try clear hcz50_0
        try clear hcz50_1
        try clear hcz53_0
        try clear hcz53_1
        try clear hcz9_0
        try clear hcz9_1
        try clear hfz17_0
        try clear hfz17_1
        try clear hfz19_0
        try clear hfz19_1
        try clear hfz27_0
        try clear hfz27_1
        try clear hfz29_0
        try clear hfz29_1
        try clear hfz35_0
        try clear hfz35_1
        try clear hfz43_0
        try clear hfz43_1
        try clear hfz50_0
        try clear hfz50_1
        try clear hfz53_0
        try clear hfz53_1
        try clear hfz9_0
        try clear hfz9_1
        obtain ⟨kq, x51_14, rfl, HA, HJ14, HO_238000, HO_238001, HO_245000, HO_245001, HO_253000, HO_253001, BK222, BK237, BK244, BK252, HB⟩ := hcut
        cases kq with
        | zero => exact absurd HA.out (by simp [laws_FnExactWritePage.j0])
        | succ kj14 =>
          have H := HA.out
          clear HA
          simp only [laws_FnExactWritePage.j0] at H
          by_cases c55 : x51_14 = true
          · subst c55
            have H1 : (none) = some r := by rw [if_pos rfl] at H; exact H
            clear H
            have H := H1
            clear H1
            exact absurd H (by simp)
          · replace c55 := Bool.eq_false_iff.mpr c55
            subst c55
            have H1 : ((laws_toDisk.f kj14 l0_0 l0_1).bind fun bt254 => ((laws_eqDisk.f kj14 t238 t241 bt254.1 bt254.2).bind fun t260 => (if t260 = true then ((laws_markDisk.f kj14 t238 t241 1).bind fun bt261 => (if bt261.1 < 0 then (none) else ((laws_eqDisk.f kj14 t245 t248 t230 t233).bind fun t264 => (if t264 = true then (laws_FnExactWritePage.j1 kj14 a1 a2 t236 (t251 != t236) l0_0 l0_1 t230 t233 t245 t248) else (none))))) else (none)))) = some r := by rw [if_neg (show ¬ (false = true) by decide)] at H; exact H
            clear H
            have H := H1
            clear H1
            replace H := Option.bind_eq_some_iff.mp H
            obtain ⟨⟨t254, t257⟩, A560, H⟩ := H
            replace H : ((laws_eqDisk.f kj14 t238 t241 t254 t257).bind fun t260 => (if t260 = true then ((laws_markDisk.f kj14 t238 t241 1).bind fun bt261 => (if bt261.1 < 0 then (none) else ((laws_eqDisk.f kj14 t245 t248 t230 t233).bind fun t264 => (if t264 = true then (laws_FnExactWritePage.j1 kj14 a1 a2 t236 (t251 != t236) l0_0 l0_1 t230 t233 t245 t248) else (none))))) else (none))) = some r := H
            have A56 := Aside0.mk A560
            clear A560
            replace H := Option.bind_eq_some_iff.mp H
            obtain ⟨t260, A570, H⟩ := H
            replace H : (if t260 = true then ((laws_markDisk.f kj14 t238 t241 1).bind fun bt261 => (if bt261.1 < 0 then (none) else ((laws_eqDisk.f kj14 t245 t248 t230 t233).bind fun t264 => (if t264 = true then (laws_FnExactWritePage.j1 kj14 a1 a2 t236 (t251 != t236) l0_0 l0_1 t230 t233 t245 t248) else (none))))) else (none)) = some r := H
            have A57 := Aside0.mk A570
            clear A570
            by_cases c58 : t260 = true
            · subst c58
              have H1 : ((laws_markDisk.f kj14 t238 t241 1).bind fun bt261 => (if bt261.1 < 0 then (none) else ((laws_eqDisk.f kj14 t245 t248 t230 t233).bind fun t264 => (if t264 = true then (laws_FnExactWritePage.j1 kj14 a1 a2 t236 (t251 != t236) l0_0 l0_1 t230 t233 t245 t248) else (none))))) = some r := by rw [if_pos rfl] at H; exact H
              clear H
              have H := H1
              clear H1
              replace H := Option.bind_eq_some_iff.mp H
              obtain ⟨⟨t261, t262, t263⟩, A590, H⟩ := H
              replace H : (if t261 < 0 then (none) else ((laws_eqDisk.f kj14 t245 t248 t230 t233).bind fun t264 => (if t264 = true then (laws_FnExactWritePage.j1 kj14 a1 a2 t236 (t251 != t236) l0_0 l0_1 t230 t233 t245 t248) else (none)))) = some r := H
              have A59 := Aside0.mk A590
              clear A590
              have HC60 := Aside0.mk H
              clear H
              try go_wp2
              have n0_ := Aside0.mk (Kd.R_drew HO_238000.out)
              have n1_ := Aside0.mk (Kd.R_drew HO_238001.out)
              have n2_ := Aside0.mk (Kd.R_drew HO_245000.out)
              have n3_ := Aside0.mk (Kd.R_drew HO_245001.out)
              have n4_ := Aside0.mk (Kd.R_drew HO_253000.out)
              have n5_ := Aside0.mk (Kd.R_drew HO_253001.out)
              have n6_ := Aside0.mk (blk_drew BK222.out)
              have n7_ := Aside0.mk (blk_drew BK237.out)
              have n8_ := Aside0.mk (blk_drew BK244.out)
              have n9_ := Aside0.mk (blk_drew BK252.out)
              have n10_ := Aside0.mk (below_drew1 HB.out)
              clear HO_238000
              clear HO_238001
              clear HO_245000
              clear HO_245001
              clear HO_253000
              clear HO_253001
              clear BK222
              clear BK237
              clear BK244
              clear BK252
              clear HB
              have HO_238000 := n0_
              have HO_238001 := n1_
              have HO_245000 := n2_
              have HO_245001 := n3_
              have HO_253000 := n4_
              have HO_253001 := n5_
              have BK222 := n6_
              have BK237 := n7_
              have BK244 := n8_
              have BK252 := n9_
              have HB := n10_
              clear n0_ n1_ n2_ n3_ n4_ n5_ n6_ n7_ n8_ n9_ n10_
              refine start_ (n := 5) (S := fun w' => w'.cell? ⟨gb244, 0, none⟩ = some (.slice Ao32 t238.length co32) ∧ w'.cell? ⟨gb244, 1, none⟩ = some (.slice Ao36 t241.length co36) ∧ w'.cell? ⟨gb222, 0, none⟩ = some (.slice A0_0 l0_0.length c0_0) ∧ w'.cell? ⟨gb222, 1, none⟩ = some (.slice A0_1 l0_1.length c0_1)) (ds := []) #[false, false, false, false, false] (by kernel_rfl) rfl rfl ⟨(blk_cell BK244.out 0).trans rfl, (blk_cell BK244.out 1).trans rfl, (blk_cell BK222.out 0).trans rfl, (blk_cell BK222.out 1).trans rfl⟩ (fun hHeld => ?_)
              generalize wc.drew = w61 at HO_238000 HO_238001 HO_245000 HO_245001 HO_253000 HO_253001 BK222 BK237 BK244 BK252 HB hHeld ⊢
              refine take_ (i := 0) (N := some 52) (v := ?_) (a' := ?_) #[true, false, false, false, false] rfl rfl (by kernel_rfl) (fun _ _ _ h => h) (Or.inl ⟨by rfl, ?_⟩) hHeld ?_ ?_
              rotate_left
              · rintro w' ⟨s0, s1, s2, s3⟩
                go_simp
                with_reducible rfl
              rotate_left
              · simp only [Act.put, List.setIfInBounds_toArray, List.set_cons_zero, List.set_cons_succ, i64_w, i32_w]
                rfl
              refine take_ (i := 1) (N := some 53) (v := ?_) (a' := ?_) #[true, true, false, false, false] rfl rfl (by kernel_rfl) (fun _ _ _ h => h) (Or.inl ⟨by rfl, ?_⟩) hHeld ?_ ?_
              rotate_left
              · rintro w' ⟨s0, s1, s2, s3⟩
                go_simp
                with_reducible rfl
              rotate_left
              · simp only [Act.put, List.setIfInBounds_toArray, List.set_cons_zero, List.set_cons_succ, i64_w, i32_w]
                rfl
              refine one_ (i := 2) (N := some 54) #[true, true, true, false, false] rfl rfl (by kernel_rfl) (by decide) (fun K hK => ?_)
              refine goes_ Try.func33 (by kernel_rfl) rfl #[.agg #[.slice A0_0 l0_0.length c0_0, .slice A0_1 l0_1.length c0_1]] (by rfl) rfl rfl (by (try simp only [List.map_toArray, List.map_cons, List.map_nil]); first | done | rfl | (simp only [List.length_drop, List.length_take]; rfl)) ?_
              with_reducible refine (laws_toDisk.calls kj14 _ _ l0_0 _ _ l0_1 t254 t257 _ ?side1 ?side2 ?side3 ?side4 A56.out).mono ?_
              (case side1 => repeat (first | exact (Kd.C_below HR0_0.out HB.out) | (with_reducible refine Kd.C_alloc ?_ _) | (with_reducible refine Kd.C_drewN ?_ _) | (with_reducible refine Kd.C_drew ?_)))
              (case side2 => exact HC0_0.out)
              (case side3 => repeat (first | exact (Kd.C_below HR0_1.out HB.out) | (with_reducible refine Kd.C_alloc ?_ _) | (with_reducible refine Kd.C_drewN ?_ _) | (with_reducible refine Kd.C_drew ?_)))
              (case side4 => exact HC0_1.out)
              rintro e w62 ⟨v255, v258, rfl, ho0, ho1, hb⟩
              refine ⟨_, rfl, ?_⟩
              have n0_ := Aside0.mk (Kd.R_elder' (by (with_reducible repeat (first | apply Kd.R_alloc | apply Kd.R_drewN | apply Kd.R_drew)); exact HO_238000.out) (Kd.R_base ho0) hb)
              have n1_ := Aside0.mk (Kd.R_elder' (by (with_reducible repeat (first | apply Kd.R_alloc | apply Kd.R_drewN | apply Kd.R_drew)); exact HO_238001.out) (Kd.R_base ho1) hb)
              have n2_ := Aside0.mk (Kd.R_elder' (by (with_reducible repeat (first | apply Kd.R_alloc | apply Kd.R_drewN | apply Kd.R_drew)); exact HO_245000.out) (Kd.R_base ho0) hb)
              have n3_ := Aside0.mk (Kd.R_elder' (by (with_reducible repeat (first | apply Kd.R_alloc | apply Kd.R_drewN | apply Kd.R_drew)); exact HO_245001.out) (Kd.R_base ho1) hb)
              have n4_ := Aside0.mk (Kd.R_elder' (by (with_reducible repeat (first | apply Kd.R_alloc | apply Kd.R_drewN | apply Kd.R_drew)); exact HO_253000.out) (Kd.R_base ho0) hb)
              have n5_ := Aside0.mk (Kd.R_elder' (by (with_reducible repeat (first | apply Kd.R_alloc | apply Kd.R_drewN | apply Kd.R_drew)); exact HO_253001.out) (Kd.R_base ho1) hb)
              have n6_ := Aside0.mk (Kd.R_lower (Kd.R_new' (Kd.R_new' (Kd.R_new' ho0 (Kd.R_lt (by (with_reducible repeat (first | apply Kd.R_alloc | apply Kd.R_drewN | apply Kd.R_drew)); exact HO_238000.out))) (Kd.R_lt (by (with_reducible repeat (first | apply Kd.R_alloc | apply Kd.R_drewN | apply Kd.R_drew)); exact HO_245000.out))) (Kd.R_lt (by (with_reducible repeat (first | apply Kd.R_alloc | apply Kd.R_drewN | apply Kd.R_drew)); exact HO_253000.out))) (below_size (by repeat (first | (with_reducible first | exact HB.out | apply below_alloc | apply pw_below_drewN | apply below_drew1 | refine below_set ?_ GE222.out | refine below_set ?_ GE237.out | refine below_set ?_ GE244.out | refine below_set ?_ GE252.out) | exact HB.out))))
              have n7_ := Aside0.mk (Kd.R_lower (Kd.R_new' (Kd.R_new' (Kd.R_new' ho1 (Kd.R_lt (by (with_reducible repeat (first | apply Kd.R_alloc | apply Kd.R_drewN | apply Kd.R_drew)); exact HO_238001.out))) (Kd.R_lt (by (with_reducible repeat (first | apply Kd.R_alloc | apply Kd.R_drewN | apply Kd.R_drew)); exact HO_245001.out))) (Kd.R_lt (by (with_reducible repeat (first | apply Kd.R_alloc | apply Kd.R_drewN | apply Kd.R_drew)); exact HO_253001.out))) (below_size (by repeat (first | (with_reducible first | exact HB.out | apply below_alloc | apply pw_below_drewN | apply below_drew1 | refine below_set ?_ GE222.out | refine below_set ?_ GE237.out | refine below_set ?_ GE244.out | refine below_set ?_ GE252.out) | exact HB.out))))
              have n8_ := Aside0.mk (blk_below (g := gb222) (o := .cells #[.slice A0_0 l0_0.length c0_0, .slice A0_1 l0_1.length c0_1] 57 (0, 0)) (by (with_reducible repeat (first | refine blk_drewN ?_ _ | refine blk_drew ?_ | refine blk_alloc ?_ _)); exact BK222.out) hb)
              have n9_ := Aside0.mk (blk_below (g := gb237) (o := .cells #[.slice Ao25 t230.length co25, .slice Ao28 t233.length co28] 36 (0, 0)) (by (with_reducible repeat (first | refine blk_drewN ?_ _ | refine blk_drew ?_ | refine blk_alloc ?_ _)); exact BK237.out) hb)
              have n10_ := Aside0.mk (blk_below (g := gb244) (o := .cells #[.slice Ao32 t238.length co32, .slice Ao36 t241.length co36] 36 (0, 0)) (by (with_reducible repeat (first | refine blk_drewN ?_ _ | refine blk_drew ?_ | refine blk_alloc ?_ _)); exact BK244.out) hb)
              have n11_ := Aside0.mk (blk_below (g := gb252) (o := .cells #[.slice Ao39 t245.length co39, .slice Ao44 t248.length co44] 36 (0, 0)) (by (with_reducible repeat (first | refine blk_drewN ?_ _ | refine blk_drew ?_ | refine blk_alloc ?_ _)); exact BK252.out) hb)
              have n12_ := Aside0.mk (below_step (by repeat (first | (with_reducible first | exact HB.out | apply below_alloc | apply pw_below_drewN | apply below_drew1 | refine below_set ?_ GE222.out | refine below_set ?_ GE237.out | refine below_set ?_ GE244.out | refine below_set ?_ GE252.out) | exact HB.out)) hb)
              clear HO_238000
              clear HO_238001
              clear HO_245000
              clear HO_245001
              clear HO_253000
              clear HO_253001
              clear BK222
              clear BK237
              clear BK244
              clear BK252
              clear HB
              have HO_238000 := n0_
              have HO_238001 := n1_
              have HO_245000 := n2_
              have HO_245001 := n3_
              have HO_253000 := n4_
              have HO_253001 := n5_
              have HO256 := n6_
              have HO259 := n7_
              have BK222 := n8_
              have BK237 := n9_
              have BK244 := n10_
              have BK252 := n11_
              have HB := n12_
              clear n0_ n1_ n2_ n3_ n4_ n5_ n6_ n7_ n8_ n9_ n10_ n11_ n12_
              (try clear hb)
              (try clear hb2)
              (try clear hk)
              (try clear hi)
              (try clear ho0)
              (try clear ho1)
              obtain ⟨Ao63, co63, eo63⟩ := Kd.R_slice HO256.out
              (first | subst eo63 | (injection eo63 with f1_ f2_ f3_; have f4_ := f1_.symm; have f5_ := f3_.symm; clear f1_ f2_ f3_; subst f4_; subst f5_))
              obtain ⟨Ao64, co64, eo64⟩ := Kd.R_slice HO259.out
              (first | subst eo64 | (injection eo64 with f1_ f2_ f3_; have f4_ := f1_.symm; have f5_ := f3_.symm; clear f1_ f2_ f3_; subst f4_; subst f5_))
              refine hK.out _ _ ⟨(blk_cell BK244.out 0).trans rfl, (blk_cell BK244.out 1).trans rfl, (blk_cell BK222.out 0).trans rfl, (blk_cell BK222.out 1).trans rfl⟩ (fun hHeld => ?_)
              clear hK K
              refine norm_ (a' := ?_) ?_ ?_
              rotate_left
              · show Act.put _ (some 54) _ = _
                simp only [Act.put, List.setIfInBounds_toArray, List.set_cons_zero, List.set_cons_succ, i64_w, i32_w]
                rfl
              refine one_ (i := 3) (N := some 55) #[true, true, true, true, false] rfl rfl (by kernel_rfl) (by decide) (fun K hK => ?_)
              refine goes_ Try.func34 (by kernel_rfl) rfl #[.agg #[.slice Ao32 t238.length co32, .slice Ao36 t241.length co36], .agg #[.slice Ao63 t254.length co63, .slice Ao64 t257.length co64]] (by rfl) rfl rfl (by (try simp only [List.map_toArray, List.map_cons, List.map_nil]); first | done | rfl | (simp only [List.length_drop, List.length_take]; rfl)) ?_
              with_reducible refine (laws_eqDisk.calls kj14 _ _ t238 _ _ t241 _ _ t254 _ _ t257 true _ ?side1 ?side2 ?side3 ?side4 ?side5 ?side6 ?side7 ?side8 A57.out).mono ?_
              (case side1 => repeat (first | exact (Kd.R_reads' HO_245000.out).2.2 | (with_reducible refine Kd.C_alloc ?_ _) | (with_reducible refine Kd.C_drewN ?_ _) | (with_reducible refine Kd.C_drew ?_)))
              (case side2 => exact (Kd.R_reads' HO_245000.out).2.1)
              (case side3 => repeat (first | exact (Kd.R_reads' HO_245001.out).2.2 | (with_reducible refine Kd.C_alloc ?_ _) | (with_reducible refine Kd.C_drewN ?_ _) | (with_reducible refine Kd.C_drew ?_)))
              (case side4 => exact (Kd.R_reads' HO_245001.out).2.1)
              (case side5 => repeat (first | exact (Kd.R_reads' HO256.out).2.2 | (with_reducible refine Kd.C_alloc ?_ _) | (with_reducible refine Kd.C_drewN ?_ _) | (with_reducible refine Kd.C_drew ?_)))
              (case side6 => exact (Kd.R_reads' HO256.out).2.1)
              (case side7 => repeat (first | exact (Kd.R_reads' HO259.out).2.2 | (with_reducible refine Kd.C_alloc ?_ _) | (with_reducible refine Kd.C_drewN ?_ _) | (with_reducible refine Kd.C_drew ?_)))
              (case side8 => exact (Kd.R_reads' HO259.out).2.1)
              rintro e w65 ⟨rfl, hb⟩
              refine ⟨_, rfl, ?_⟩
              have n0_ := Aside0.mk (Kd.R_below (by (with_reducible repeat (first | apply Kd.R_alloc | apply Kd.R_drewN | apply Kd.R_drew)); exact HO_238000.out) hb)
              have n1_ := Aside0.mk (Kd.R_below (by (with_reducible repeat (first | apply Kd.R_alloc | apply Kd.R_drewN | apply Kd.R_drew)); exact HO_238001.out) hb)
              have n2_ := Aside0.mk (Kd.R_below (by (with_reducible repeat (first | apply Kd.R_alloc | apply Kd.R_drewN | apply Kd.R_drew)); exact HO_245000.out) hb)
              have n3_ := Aside0.mk (Kd.R_below (by (with_reducible repeat (first | apply Kd.R_alloc | apply Kd.R_drewN | apply Kd.R_drew)); exact HO_245001.out) hb)
              have n4_ := Aside0.mk (Kd.R_below (by (with_reducible repeat (first | apply Kd.R_alloc | apply Kd.R_drewN | apply Kd.R_drew)); exact HO_253000.out) hb)
              have n5_ := Aside0.mk (Kd.R_below (by (with_reducible repeat (first | apply Kd.R_alloc | apply Kd.R_drewN | apply Kd.R_drew)); exact HO_253001.out) hb)
              have n6_ := Aside0.mk (Kd.R_below (by (with_reducible repeat (first | apply Kd.R_alloc | apply Kd.R_drewN | apply Kd.R_drew)); exact HO256.out) hb)
              have n7_ := Aside0.mk (Kd.R_below (by (with_reducible repeat (first | apply Kd.R_alloc | apply Kd.R_drewN | apply Kd.R_drew)); exact HO259.out) hb)
              have n8_ := Aside0.mk (blk_below (g := gb222) (o := .cells #[.slice A0_0 l0_0.length c0_0, .slice A0_1 l0_1.length c0_1] 57 (0, 0)) (by (with_reducible repeat (first | refine blk_drewN ?_ _ | refine blk_drew ?_ | refine blk_alloc ?_ _)); exact BK222.out) hb)
              have n9_ := Aside0.mk (blk_below (g := gb237) (o := .cells #[.slice Ao25 t230.length co25, .slice Ao28 t233.length co28] 36 (0, 0)) (by (with_reducible repeat (first | refine blk_drewN ?_ _ | refine blk_drew ?_ | refine blk_alloc ?_ _)); exact BK237.out) hb)
              have n10_ := Aside0.mk (blk_below (g := gb244) (o := .cells #[.slice Ao32 t238.length co32, .slice Ao36 t241.length co36] 36 (0, 0)) (by (with_reducible repeat (first | refine blk_drewN ?_ _ | refine blk_drew ?_ | refine blk_alloc ?_ _)); exact BK244.out) hb)
              have n11_ := Aside0.mk (blk_below (g := gb252) (o := .cells #[.slice Ao39 t245.length co39, .slice Ao44 t248.length co44] 36 (0, 0)) (by (with_reducible repeat (first | refine blk_drewN ?_ _ | refine blk_drew ?_ | refine blk_alloc ?_ _)); exact BK252.out) hb)
              have n12_ := Aside0.mk (below_step (by repeat (first | (with_reducible first | exact HB.out | apply below_alloc | apply pw_below_drewN | apply below_drew1 | refine below_set ?_ GE222.out | refine below_set ?_ GE237.out | refine below_set ?_ GE244.out | refine below_set ?_ GE252.out) | exact HB.out)) hb)
              clear HO_238000
              clear HO_238001
              clear HO_245000
              clear HO_245001
              clear HO_253000
              clear HO_253001
              clear HO256
              clear HO259
              clear BK222
              clear BK237
              clear BK244
              clear BK252
              clear HB
              have HO_238000 := n0_
              have HO_238001 := n1_
              have HO_245000 := n2_
              have HO_245001 := n3_
              have HO_253000 := n4_
              have HO_253001 := n5_
              have HO256 := n6_
              have HO259 := n7_
              have BK222 := n8_
              have BK237 := n9_
              have BK244 := n10_
              have BK252 := n11_
              have HB := n12_
              clear n0_ n1_ n2_ n3_ n4_ n5_ n6_ n7_ n8_ n9_ n10_ n11_ n12_
              (try clear hb)
              (try clear hb2)
              (try clear hk)
              (try clear hi)
              refine hK.out _ _ ⟨(blk_cell BK244.out 0).trans rfl, (blk_cell BK244.out 1).trans rfl, (blk_cell BK222.out 0).trans rfl, (blk_cell BK222.out 1).trans rfl⟩ (fun hHeld => ?_)
              clear hK K
              refine norm_ (a' := ?_) ?_ ?_
              rotate_left
              · show Act.put _ (some 55) _ = _
                simp only [Act.put, List.setIfInBounds_toArray, List.set_cons_zero, List.set_cons_succ, i64_w, i32_w]
                rfl
              refine pure_ (i := 4) (N := some 56) (v := ?_) (a' := ?_) #[true, true, true, true, true] rfl rfl (by kernel_rfl) (fun _ _ _ h => h) (Or.inl ⟨by rfl, ?_⟩) ?_ ?_
              rotate_left
              · intro w'
                go_simp
                with_reducible rfl
              rotate_left
              · simp only [Act.put, List.setIfInBounds_toArray, List.set_cons_zero, List.set_cons_succ, i64_w, i32_w]
                rfl
              refine done_ (by kernel_rfl) ?_
              have hnb66 := NB244_222.out
              have hnc66 := NB222_244.out
              have hnb67 := NB244_237.out
              have hnc67 := NB237_244.out
              have hnb68 := NB244_252.out
              have hnc68 := NB252_244.out
              have hcz69_0 : w65.cell? ⟨gb244, 0, none⟩ = some (.slice Ao32 t238.length co32) := (blk_cell BK244.out 0).trans rfl
              have hcz69_1 : w65.cell? ⟨gb244, 1, none⟩ = some (.slice Ao36 t241.length co36) := (blk_cell BK244.out 1).trans rfl
              have hfz69_0 := blk_frozen BK244.out 0
              have hfz69_1 := blk_frozen BK244.out 1
              go_upto_region 16 with (first | ((with_reducible refine gate_callee (f := 35) rfl ?_); refine goesL_ (some 59) rfl rfl Try.func35 (by kernel_rfl) rfl #[.agg #[.slice Ao32 t238.length co32, .slice Ao36 t241.length co36], .int .i64 1] rfl (by (try simp only [List.map_toArray, List.map_cons, List.map_nil]); first | done | rfl | (simp only [List.length_drop, List.length_take]; rfl)) ?_; (with_reducible refine (laws_markDisk.calls kj14 (fun k_ => some k_ = (.slice Ao32 t238.length co32 : Value).ownBlock) (.slice Ao32 t238.length co32) t238 (fun k_ => some k_ = (.slice Ao36 t241.length co36 : Value).ownBlock) (.slice Ao36 t241.length co36) t241 1 t261 t262 t263 w _ ?side1 ?side2 ?side3 A59.out).mono ?_); (case side1 => repeat (first | (with_reducible first | exact HB.out | apply below_alloc | apply pw_below_drewN | apply below_drew1 | refine below_set ?_ GE222.out | refine below_set ?_ GE237.out | refine below_set ?_ GE244.out | refine below_set ?_ GE252.out) | exact HB.out)); (case side2 => exact Kd.R_tight rfl HO_245000.out); (case side3 => exact Kd.R_tight rfl HO_245001.out); rintro e w70 ⟨rfl, hy0, hy1, hb, hkp⟩; refine ⟨_, rfl, ?_⟩; have n0_ := Aside0.mk (Kd.R_mono (ok' := fun k_ => some k_ ≠ (.slice Ao32 t238.length co32 : Value).ownBlock ∧ some k_ ≠ (.slice Ao39 t245.length co39 : Value).ownBlock ∧ some k_ ≠ (.slice Ao63 t254.length co63 : Value).ownBlock) (Kd.R_keptB ((Kd.R_apart' HO_238000.out (Kd.R_typed HO_245001.out) (by decide))) hkp (fun k_ hk_ hs_ => Or.elim hs_ (fun e_ => (hk_.1.1.1) e_) (fun e_ => (hk_.2) e_))) (fun k_ hk_ => ⟨hk_.1.1.1.1, hk_.1.1.1.2, hk_.1.1.2⟩)); have n1_ := Aside0.mk (Kd.R_mono (ok' := fun k_ => some k_ ≠ (.slice Ao36 t241.length co36 : Value).ownBlock ∧ some k_ ≠ (.slice Ao44 t248.length co44 : Value).ownBlock ∧ some k_ ≠ (.slice Ao64 t257.length co64 : Value).ownBlock) (Kd.R_keptB ((Kd.R_apart' HO_238001.out (Kd.R_typed HO_245000.out) (by decide))) hkp (fun k_ hk_ hs_ => Or.elim hs_ (fun e_ => (hk_.2) e_) (fun e_ => (hk_.1.1.1) e_))) (fun k_ hk_ => ⟨hk_.1.1.1.1, hk_.1.1.1.2, hk_.1.1.2⟩)); have n2_ := Aside0.mk (Kd.R_reok rfl hy0 (fun k_ e_ => HO_245000.out.1 k_ e_)); have n3_ := Aside0.mk (Kd.R_reok rfl hy1 (fun k_ e_ => HO_245001.out.1 k_ e_)); have n4_ := Aside0.mk (Kd.R_mono (ok' := fun k_ => some k_ ≠ (.slice Ao25 t230.length co25 : Value).ownBlock ∧ some k_ ≠ (.slice Ao32 t238.length co32 : Value).ownBlock ∧ some k_ ≠ (.slice Ao63 t254.length co63 : Value).ownBlock) (Kd.R_keptB ((Kd.R_apart' HO_253000.out (Kd.R_typed HO_245001.out) (by decide))) hkp (fun k_ hk_ hs_ => Or.elim hs_ (fun e_ => (hk_.1.1.2) e_) (fun e_ => (hk_.2) e_))) (fun k_ hk_ => ⟨hk_.1.1.1.1, hk_.1.1.1.2, hk_.1.1.2⟩)); have n5_ := Aside0.mk (Kd.R_mono (ok' := fun k_ => some k_ ≠ (.slice Ao28 t233.length co28 : Value).ownBlock ∧ some k_ ≠ (.slice Ao36 t241.length co36 : Value).ownBlock ∧ some k_ ≠ (.slice Ao64 t257.length co64 : Value).ownBlock) (Kd.R_keptB ((Kd.R_apart' HO_253001.out (Kd.R_typed HO_245000.out) (by decide))) hkp (fun k_ hk_ hs_ => Or.elim hs_ (fun e_ => (hk_.2) e_) (fun e_ => (hk_.1.1.2) e_))) (fun k_ hk_ => ⟨hk_.1.1.1.1, hk_.1.1.1.2, hk_.1.1.2⟩)); have n6_ := Aside0.mk (blk_kept (by (with_reducible repeat (first | refine blk_drewN ?_ _ | refine blk_drew ?_ | refine blk_alloc ?_ _)); exact BK222.out) hkp (fun hs_ => Or.elim hs_ (fun e_ => (fun e_ => (Kd.R_ne HO_245000.out BK222.out (by decide)) e_) e_) (fun e_ => (fun e_ => (Kd.R_ne HO_245001.out BK222.out (by decide)) e_) e_))); have n7_ := Aside0.mk (blk_kept (by (with_reducible repeat (first | refine blk_drewN ?_ _ | refine blk_drew ?_ | refine blk_alloc ?_ _)); exact BK237.out) hkp (fun hs_ => Or.elim hs_ (fun e_ => (fun e_ => (Kd.R_ne HO_245000.out BK237.out (by decide)) e_) e_) (fun e_ => (fun e_ => (Kd.R_ne HO_245001.out BK237.out (by decide)) e_) e_))); have n8_ := Aside0.mk (blk_kept (by (with_reducible repeat (first | refine blk_drewN ?_ _ | refine blk_drew ?_ | refine blk_alloc ?_ _)); exact BK244.out) hkp (fun hs_ => Or.elim hs_ (fun e_ => (fun e_ => (Kd.R_ne HO_245000.out BK244.out (by decide)) e_) e_) (fun e_ => (fun e_ => (Kd.R_ne HO_245001.out BK244.out (by decide)) e_) e_))); have n9_ := Aside0.mk (blk_kept (by (with_reducible repeat (first | refine blk_drewN ?_ _ | refine blk_drew ?_ | refine blk_alloc ?_ _)); exact BK252.out) hkp (fun hs_ => Or.elim hs_ (fun e_ => (fun e_ => (Kd.R_ne HO_245000.out BK252.out (by decide)) e_) e_) (fun e_ => (fun e_ => (Kd.R_ne HO_245001.out BK252.out (by decide)) e_) e_))); have n10_ := Aside0.mk (Kd.R_mono (ok' := fun k_ => some k_ ≠ (.slice Ao25 t230.length co25 : Value).ownBlock ∧ some k_ ≠ (.slice Ao32 t238.length co32 : Value).ownBlock ∧ some k_ ≠ (.slice Ao39 t245.length co39 : Value).ownBlock) (Kd.R_keptB ((Kd.R_apart' HO256.out (Kd.R_typed HO_245001.out) (by decide))) hkp (fun k_ hk_ hs_ => Or.elim hs_ (fun e_ => (hk_.1.1.2) e_) (fun e_ => (hk_.2) e_))) (fun k_ hk_ => ⟨hk_.1.1.1.1.2, hk_.1.1.1.2, hk_.1.1.2⟩)); have n11_ := Aside0.mk (Kd.R_mono (ok' := fun k_ => some k_ ≠ (.slice Ao28 t233.length co28 : Value).ownBlock ∧ some k_ ≠ (.slice Ao36 t241.length co36 : Value).ownBlock ∧ some k_ ≠ (.slice Ao44 t248.length co44 : Value).ownBlock) (Kd.R_keptB ((Kd.R_apart' HO259.out (Kd.R_typed HO_245000.out) (by decide))) hkp (fun k_ hk_ hs_ => Or.elim hs_ (fun e_ => (hk_.2) e_) (fun e_ => (hk_.1.1.2) e_))) (fun k_ hk_ => ⟨hk_.1.1.1.1.2, hk_.1.1.1.2, hk_.1.1.2⟩)); have n12_ := Aside0.mk (hb); clear HO_238000; clear HO_238001; clear HO_245000; clear HO_245001; clear HO_253000; clear HO_253001; clear BK222; clear BK237; clear BK244; clear BK252; clear HO256; clear HO259; clear HB; have HO_238000 := n0_; have HO_238001 := n1_; have HO_245000 := n2_; have HO_245001 := n3_; have HO_253000 := n4_; have HO_253001 := n5_; have BK222 := n6_; have BK237 := n7_; have BK244 := n8_; have BK252 := n9_; have HO256 := n10_; have HO259 := n11_; have HB := n12_; clear n0_ n1_ n2_ n3_ n4_ n5_ n6_ n7_ n8_ n9_ n10_ n11_ n12_; (try clear hb); (try clear hkp); (try clear hy0); (try clear hy1)))
              (try simp only [Act.put, List.setIfInBounds_toArray, List.set_cons_zero, List.set_cons_succ])
              go_cut [72] (fun v72 wc => ∃ (kq : Nat) (x72_59 : Bool), v72 = .bool x72_59 ∧ Aside0 (laws_FnExactWritePage.j1 kq a1 a2 t236 x72_59 l0_0 l0_1 t230 t233 t245 t248 = some r) ∧ Aside0 (kq ≤ kj14) ∧ Aside0 (Kd.R Kd.string 9 wc w.heap.size (fun k_ => some k_ ≠ ((.slice Ao32 t238.length co32) : Value).ownBlock ∧ some k_ ≠ ((.slice Ao39 t245.length co39) : Value).ownBlock) (.slice Ao25 t230.length co25) t230) ∧ Aside0 (Kd.R k74 74 wc w.heap.size (fun k_ => some k_ ≠ ((.slice Ao36 t241.length co36) : Value).ownBlock ∧ some k_ ≠ ((.slice Ao44 t248.length co44) : Value).ownBlock) (.slice Ao28 t233.length co28) t233) ∧ Aside0 (Kd.R Kd.string 9 wc w.heap.size (fun k_ => some k_ ≠ ((.slice Ao25 t230.length co25) : Value).ownBlock ∧ some k_ ≠ ((.slice Ao39 t245.length co39) : Value).ownBlock) (.slice Ao32 t238.length co32) t262) ∧ Aside0 (Kd.R k74 74 wc w.heap.size (fun k_ => some k_ ≠ ((.slice Ao28 t233.length co28) : Value).ownBlock ∧ some k_ ≠ ((.slice Ao44 t248.length co44) : Value).ownBlock) (.slice Ao36 t241.length co36) t263) ∧ Aside0 (Kd.R Kd.string 9 wc w.heap.size (fun k_ => some k_ ≠ ((.slice Ao25 t230.length co25) : Value).ownBlock ∧ some k_ ≠ ((.slice Ao32 t238.length co32) : Value).ownBlock) (.slice Ao39 t245.length co39) t245) ∧ Aside0 (Kd.R k74 74 wc w.heap.size (fun k_ => some k_ ≠ ((.slice Ao28 t233.length co28) : Value).ownBlock ∧ some k_ ≠ ((.slice Ao36 t241.length co36) : Value).ownBlock) (.slice Ao44 t248.length co44) t248) ∧ Aside0 (wc.heap[gb222]? = some (.cells #[(.slice A0_0 l0_0.length c0_0), (.slice A0_1 l0_1.length c0_1)] 57 (0, 0))) ∧ Aside0 (wc.heap[gb237]? = some (.cells #[(.slice Ao25 t230.length co25), (.slice Ao28 t233.length co28)] 36 (0, 0))) ∧ Aside0 (wc.heap[gb244]? = some (.cells #[(.slice Ao32 t238.length co32), (.slice Ao36 t241.length co36)] 36 (0, 0))) ∧ Aside0 (wc.heap[gb252]? = some (.cells #[(.slice Ao39 t245.length co39), (.slice Ao44 t248.length co44)] 36 (0, 0))) ∧ Aside0 (Below w.heap.size w wc))
              case first =>
                have H := HC60.out
                clear HC60
                by_cases c71 : t261 < 0
                · rw [if_pos c71] at H
                  exact absurd H (by simp)
                · rw [if_neg c71] at H
                  have c71b0 : decide (t261 < 0) = false := decide_eq_false c71
                  clear c71
                  (first | rw [c71b0] | (simp only [i64_w, i32_w]; rw [c71b0]) | skip)
                  replace H := Option.bind_eq_some_iff.mp H
                  obtain ⟨t264, A720, H⟩ := H
                  replace H : (if t264 = true then (laws_FnExactWritePage.j1 kj14 a1 a2 t236 (t251 != t236) l0_0 l0_1 t230 t233 t245 t248) else (none)) = some r := H
                  have A72 := Aside0.mk A720
                  clear A720
                  by_cases c73 : t264 = true
                  · subst c73
                    have H1 : (laws_FnExactWritePage.j1 kj14 a1 a2 t236 (t251 != t236) l0_0 l0_1 t230 t233 t245 t248) = some r := by rw [if_pos rfl] at H; exact H
                    clear H
                    have H := H1
                    clear H1
                    have H' := Aside0.mk H
                    clear H
                    have hnb74 := NB252_222.out
                    have hnc74 := NB222_252.out
                    have hnb75 := NB252_237.out
                    have hnc75 := NB237_252.out
                    have hnb76 := NB252_244.out
                    have hnc76 := NB244_252.out
                    have hcz77_0 : w70.cell? ⟨gb252, 0, none⟩ = some (.slice Ao39 t245.length co39) := (blk_cell BK252.out 0).trans rfl
                    have hcz77_1 : w70.cell? ⟨gb252, 1, none⟩ = some (.slice Ao44 t248.length co44) := (blk_cell BK252.out 1).trans rfl
                    have hfz77_0 := blk_frozen BK252.out 0
                    have hfz77_1 := blk_frozen BK252.out 1
                    have hnb78 := NB237_222.out
                    have hnc78 := NB222_237.out
                    have hnb79 := NB237_244.out
                    have hnc79 := NB244_237.out
                    have hcz80_0 : w70.cell? ⟨gb237, 0, none⟩ = some (.slice Ao25 t230.length co25) := (blk_cell BK237.out 0).trans rfl
                    have hcz80_1 : w70.cell? ⟨gb237, 1, none⟩ = some (.slice Ao28 t233.length co28) := (blk_cell BK237.out 1).trans rfl
                    have hfz80_0 := blk_frozen BK237.out 0
                    have hfz80_1 := blk_frozen BK237.out 1
                    go_wp2_with (first | (go_at_call 34; (with_reducible refine (laws_eqDisk.calls kj14 _ _ t245 _ _ t248 _ _ t230 _ _ t233 true _ ?side1 ?side2 ?side3 ?side4 ?side5 ?side6 ?side7 ?side8 A72.out).mono ?_); (case side1 => repeat (first | exact (Kd.R_reads' HO_253000.out).2.2 | (with_reducible refine Kd.C_alloc ?_ _) | (with_reducible refine Kd.C_drewN ?_ _) | (with_reducible refine Kd.C_drew ?_))); (case side2 => exact (Kd.R_reads' HO_253000.out).2.1); (case side3 => repeat (first | exact (Kd.R_reads' HO_253001.out).2.2 | (with_reducible refine Kd.C_alloc ?_ _) | (with_reducible refine Kd.C_drewN ?_ _) | (with_reducible refine Kd.C_drew ?_))); (case side4 => exact (Kd.R_reads' HO_253001.out).2.1); (case side5 => repeat (first | exact (Kd.R_reads' HO_238000.out).2.2 | (with_reducible refine Kd.C_alloc ?_ _) | (with_reducible refine Kd.C_drewN ?_ _) | (with_reducible refine Kd.C_drew ?_))); (case side6 => exact (Kd.R_reads' HO_238000.out).2.1); (case side7 => repeat (first | exact (Kd.R_reads' HO_238001.out).2.2 | (with_reducible refine Kd.C_alloc ?_ _) | (with_reducible refine Kd.C_drewN ?_ _) | (with_reducible refine Kd.C_drew ?_))); (case side8 => exact (Kd.R_reads' HO_238001.out).2.1); rintro e w81 ⟨rfl, hb⟩; have n0_ := Aside0.mk (Kd.R_below (by (with_reducible repeat (first | apply Kd.R_alloc | apply Kd.R_drewN | apply Kd.R_drew)); exact HO_238000.out) hb); have n1_ := Aside0.mk (Kd.R_below (by (with_reducible repeat (first | apply Kd.R_alloc | apply Kd.R_drewN | apply Kd.R_drew)); exact HO_238001.out) hb); have n2_ := Aside0.mk (Kd.R_below (by (with_reducible repeat (first | apply Kd.R_alloc | apply Kd.R_drewN | apply Kd.R_drew)); exact HO_245000.out) hb); have n3_ := Aside0.mk (Kd.R_below (by (with_reducible repeat (first | apply Kd.R_alloc | apply Kd.R_drewN | apply Kd.R_drew)); exact HO_245001.out) hb); have n4_ := Aside0.mk (Kd.R_below (by (with_reducible repeat (first | apply Kd.R_alloc | apply Kd.R_drewN | apply Kd.R_drew)); exact HO_253000.out) hb); have n5_ := Aside0.mk (Kd.R_below (by (with_reducible repeat (first | apply Kd.R_alloc | apply Kd.R_drewN | apply Kd.R_drew)); exact HO_253001.out) hb); have n6_ := Aside0.mk (Kd.R_below (by (with_reducible repeat (first | apply Kd.R_alloc | apply Kd.R_drewN | apply Kd.R_drew)); exact HO256.out) hb); have n7_ := Aside0.mk (Kd.R_below (by (with_reducible repeat (first | apply Kd.R_alloc | apply Kd.R_drewN | apply Kd.R_drew)); exact HO259.out) hb); have n8_ := Aside0.mk (blk_below (g := gb222) (o := .cells #[.slice A0_0 l0_0.length c0_0, .slice A0_1 l0_1.length c0_1] 57 (0, 0)) (by (with_reducible repeat (first | refine blk_drewN ?_ _ | refine blk_drew ?_ | refine blk_alloc ?_ _)); exact BK222.out) hb); have n9_ := Aside0.mk (blk_below (g := gb237) (o := .cells #[.slice Ao25 t230.length co25, .slice Ao28 t233.length co28] 36 (0, 0)) (by (with_reducible repeat (first | refine blk_drewN ?_ _ | refine blk_drew ?_ | refine blk_alloc ?_ _)); exact BK237.out) hb); have n10_ := Aside0.mk (blk_below (g := gb244) (o := .cells #[.slice Ao32 t238.length co32, .slice Ao36 t241.length co36] 36 (0, 0)) (by (with_reducible repeat (first | refine blk_drewN ?_ _ | refine blk_drew ?_ | refine blk_alloc ?_ _)); exact BK244.out) hb); have n11_ := Aside0.mk (blk_below (g := gb252) (o := .cells #[.slice Ao39 t245.length co39, .slice Ao44 t248.length co44] 36 (0, 0)) (by (with_reducible repeat (first | refine blk_drewN ?_ _ | refine blk_drew ?_ | refine blk_alloc ?_ _)); exact BK252.out) hb); have n12_ := Aside0.mk (below_step (by repeat (first | (with_reducible first | exact HB.out | apply below_alloc | apply pw_below_drewN | apply below_drew1 | refine below_set ?_ GE222.out | refine below_set ?_ GE237.out | refine below_set ?_ GE244.out | refine below_set ?_ GE252.out) | exact HB.out)) hb); clear HO_238000; clear HO_238001; clear HO_245000; clear HO_245001; clear HO_253000; clear HO_253001; clear HO256; clear HO259; clear BK222; clear BK237; clear BK244; clear BK252; clear HB; have HO_238000 := n0_; have HO_238001 := n1_; have HO_245000 := n2_; have HO_245001 := n3_; have HO_253000 := n4_; have HO_253001 := n5_; have HO256 := n6_; have HO259 := n7_; have BK222 := n8_; have BK237 := n9_; have BK244 := n10_; have BK252 := n11_; have HB := n12_; clear n0_ n1_ n2_ n3_ n4_ n5_ n6_ n7_ n8_ n9_ n10_ n11_ n12_; (try clear hb); (try clear hb2); (try clear hk); (try clear hi)))
                    go_meet
                    case rel => exact ⟨_, ((t251 != t236)), (by first | rfl | (simp; done) | (simp [*]; done)), H', ⟨by have := HJ14.out; first | omega | exact Nat.le_refl _⟩, ⟨by (with_reducible repeat (first | apply Kd.R_alloc | apply Kd.R_drewN | apply Kd.R_drew)); exact Kd.R_mono HO_238000.out (fun _ hk => ⟨hk.1, hk.2.1⟩)⟩, ⟨by (with_reducible repeat (first | apply Kd.R_alloc | apply Kd.R_drewN | apply Kd.R_drew)); exact Kd.R_mono HO_238001.out (fun _ hk => ⟨hk.1, hk.2.1⟩)⟩, ⟨by (with_reducible repeat (first | apply Kd.R_alloc | apply Kd.R_drewN | apply Kd.R_drew)); exact Kd.R_mono HO_245000.out (fun _ hk => ⟨hk.1.1, hk.1.2⟩)⟩, ⟨by (with_reducible repeat (first | apply Kd.R_alloc | apply Kd.R_drewN | apply Kd.R_drew)); exact Kd.R_mono HO_245001.out (fun _ hk => ⟨hk.1.1, hk.1.2⟩)⟩, ⟨by (with_reducible repeat (first | apply Kd.R_alloc | apply Kd.R_drewN | apply Kd.R_drew)); exact Kd.R_mono HO_253000.out (fun _ hk => ⟨hk.1, hk.2.1⟩)⟩, ⟨by (with_reducible repeat (first | apply Kd.R_alloc | apply Kd.R_drewN | apply Kd.R_drew)); exact Kd.R_mono HO_253001.out (fun _ hk => ⟨hk.1, hk.2.1⟩)⟩, ⟨by (with_reducible repeat (first | refine blk_drewN ?_ _ | refine blk_drew ?_ | refine blk_alloc ?_ _)); exact BK222.out⟩, ⟨by (with_reducible repeat (first | refine blk_drewN ?_ _ | refine blk_drew ?_ | refine blk_alloc ?_ _)); exact BK237.out⟩, ⟨by (with_reducible repeat (first | refine blk_drewN ?_ _ | refine blk_drew ?_ | refine blk_alloc ?_ _)); exact BK244.out⟩, ⟨by (with_reducible repeat (first | refine blk_drewN ?_ _ | refine blk_drew ?_ | refine blk_alloc ?_ _)); exact BK252.out⟩, ⟨by repeat (first | (with_reducible first | exact HB.out | apply below_alloc | apply pw_below_drewN | apply below_drew1 | refine below_set ?_ GE222.out | refine below_set ?_ GE237.out | refine below_set ?_ GE244.out | refine below_set ?_ GE252.out) | exact HB.out)⟩⟩
                  · replace c73 := Bool.eq_false_iff.mpr c73
                    subst c73
                    have H1 : (none) = some r := by rw [if_neg (show ¬ (false = true) by decide)] at H; exact H
                    clear H
                    have H := H1
                    clear H1
                    exact absurd H (by simp)
              case rest =>
                clear HC60
                try clear c1
                try clear c2
                try clear p2
                try clear c3
                try clear c4
                try clear c4b0
                try clear c4b1
                try clear c5
                try clear c6
                try clear c7
                try clear c7b0
                try clear c10
                try clear c21
                try clear c26
                try clear c31
                try clear c33
                try clear c34
                try clear c35
                try clear c40
                try clear c41
                try clear c42
                try clear c46
                try clear c47
                try clear c48
                try clear c49
                try clear c51
                try clear c52
                try clear c55
                try clear c58
                try clear c66
                try clear c67
                try clear c68
                try clear c71
                try clear c71b0
                try clear c73
                try clear c74
                try clear c75
                try clear c76
                try clear c78
                try clear c79
                try clear hcz17_0
                try clear hcz17_1
                try clear hcz19_0
                try clear hcz19_1
                try clear hcz27_0
                try clear hcz27_1
                try clear hcz29_0
                try clear hcz29_1
                try clear hcz35_0
                try clear hcz35_1
                try clear hcz43_0
                try clear hcz43_1
                try clear hcz50_0
                try clear hcz50_1
                try clear hcz53_0
                try clear hcz53_1
                try clear hcz69_0
                try clear hcz69_1
                try clear hcz77_0
                try clear hcz77_1
                try clear hcz80_0
                try clear hcz80_1
                try clear hcz9_0
                try clear hcz9_1
                try clear hfz17_0
                try clear hfz17_1
                try clear hfz19_0
                try clear hfz19_1
                try clear hfz27_0
                try clear hfz27_1
                try clear hfz29_0
                try clear hfz29_1
                try clear hfz35_0
                try clear hfz35_1
                try clear hfz43_0
                try clear hfz43_1
                try clear hfz50_0
                try clear hfz50_1
                try clear hfz53_0
                try clear hfz53_1
                try clear hfz69_0
                try clear hfz69_1
                try clear hfz77_0
                try clear hfz77_1
                try clear hfz80_0
                try clear hfz80_1
                try clear hfz9_0
                try clear hfz9_1
                try clear p2
                obtain ⟨kq, x72_59, rfl, HA, HJ59, HO_238000, HO_238001, HO_245000, HO_245001, HO_253000, HO_253001, BK222, BK237, BK244, BK252, HB⟩ := hcut
                have hl245000_59 := (Kd.R_reads' HO_245000.out).1
                rw [hl245000_59] at HO_245000
                (try simp only [hl245000_59])
                (try simp only [hl245000_59] at BK222)
                (try simp only [hl245000_59] at BK237)
                (try simp only [hl245000_59] at BK244)
                (try simp only [hl245000_59] at BK252)
                (try simp only [hl245000_59] at HO_238000)
                (try simp only [hl245000_59] at HO_238001)
                (try simp only [hl245000_59] at HO_245001)
                (try simp only [hl245000_59] at HO_253000)
                (try simp only [hl245000_59] at HO_253001)
                have hl245001_59 := (Kd.R_reads' HO_245001.out).1
                rw [hl245001_59] at HO_245001
                (try simp only [hl245001_59])
                (try simp only [hl245001_59] at BK222)
                (try simp only [hl245001_59] at BK237)
                (try simp only [hl245001_59] at BK244)
                (try simp only [hl245001_59] at BK252)
                (try simp only [hl245001_59] at HO_238000)
                (try simp only [hl245001_59] at HO_238001)
                (try simp only [hl245001_59] at HO_245000)
                (try simp only [hl245001_59] at HO_253000)
                (try simp only [hl245001_59] at HO_253001)
                cases kq with
                | zero => exact absurd HA.out (by simp [laws_FnExactWritePage.j1])
                | succ kj59 =>
                  have H := HA.out
                  clear HA
                  simp only [laws_FnExactWritePage.j1] at H
                  by_cases c82 : x72_59 = true
                  · subst c82
                    have H1 : (none) = some r := by rw [if_pos rfl] at H; exact H
                    clear H
                    have H := H1
                    clear H1
                    exact absurd H (by simp)
                  · replace c82 := Bool.eq_false_iff.mpr c82
                    subst c82
                    have H1 : ((laws_markDisk.f kj59 t245 t248 1).bind fun bt265 => ((laws_heldDisk.f kj59 bt265.2.1 bt265.2.2 1).bind fun t268 => (if t268 < 0 then (none) else (if t268 = bt265.1 then ((laws_toDisk.f kj59 l0_0 l0_1).bind fun bt269 => ((impl_WritePage.f bt269.1 bt269.2 a1 a2).bind fun bt275 => ((laws_eqDisk.f kj59 bt275.1 bt275.2.1 t230 t233).bind fun t283 => (if t283 = true then (laws_FnExactWritePage.j2 kj59 bt265.1 (bt275.2.2 != t236) bt265.2.1 bt265.2.2) else (none))))) else (none))))) = some r := by rw [if_neg (show ¬ (false = true) by decide)] at H; exact H
                    clear H
                    have H := H1
                    clear H1
                    replace H := Option.bind_eq_some_iff.mp H
                    obtain ⟨⟨t265, t266, t267⟩, A830, H⟩ := H
                    replace H : ((laws_heldDisk.f kj59 t266 t267 1).bind fun t268 => (if t268 < 0 then (none) else (if t268 = t265 then ((laws_toDisk.f kj59 l0_0 l0_1).bind fun bt269 => ((impl_WritePage.f bt269.1 bt269.2 a1 a2).bind fun bt275 => ((laws_eqDisk.f kj59 bt275.1 bt275.2.1 t230 t233).bind fun t283 => (if t283 = true then (laws_FnExactWritePage.j2 kj59 t265 (bt275.2.2 != t236) t266 t267) else (none))))) else (none)))) = some r := H
                    have A83 := Aside0.mk A830
                    clear A830
                    replace H := Option.bind_eq_some_iff.mp H
                    obtain ⟨t268, A840, H⟩ := H
                    replace H : (if t268 < 0 then (none) else (if t268 = t265 then ((laws_toDisk.f kj59 l0_0 l0_1).bind fun bt269 => ((impl_WritePage.f bt269.1 bt269.2 a1 a2).bind fun bt275 => ((laws_eqDisk.f kj59 bt275.1 bt275.2.1 t230 t233).bind fun t283 => (if t283 = true then (laws_FnExactWritePage.j2 kj59 t265 (bt275.2.2 != t236) t266 t267) else (none))))) else (none))) = some r := H
                    have A84 := Aside0.mk A840
                    clear A840
                    by_cases c85 : t268 < 0
                    · rw [if_pos c85] at H
                      exact absurd H (by simp)
                    · rw [if_neg c85] at H
                      have c85b0 : decide (t268 < 0) = false := decide_eq_false c85
                      clear c85
                      by_cases c86 : t268 = t265
                      · rw [if_pos c86] at H
                        have c86b0 : (t268 == t265) = true := beq_iff_eq.mpr c86
                        have c86b1 : (t268 != t265) = false := bne_eq_false_iff_eq.mpr c86
                        clear c86
                        replace H := Option.bind_eq_some_iff.mp H
                        obtain ⟨⟨t269, t272⟩, A870, H⟩ := H
                        replace H : ((impl_WritePage.f t269 t272 a1 a2).bind fun bt275 => ((laws_eqDisk.f kj59 bt275.1 bt275.2.1 t230 t233).bind fun t283 => (if t283 = true then (laws_FnExactWritePage.j2 kj59 t265 (bt275.2.2 != t236) t266 t267) else (none)))) = some r := H
                        have A87 := Aside0.mk A870
                        clear A870
                        replace H := Option.bind_eq_some_iff.mp H
                        obtain ⟨⟨t275, t278, t281⟩, A880, H⟩ := H
                        replace H : ((laws_eqDisk.f kj59 t275 t278 t230 t233).bind fun t283 => (if t283 = true then (laws_FnExactWritePage.j2 kj59 t265 (t281 != t236) t266 t267) else (none))) = some r := H
                        have A88 := Aside0.mk A880
                        clear A880
                        have HC89 := Aside0.mk H
                        clear H
                        have hnb90 := NB252_222.out
                        have hnc90 := NB222_252.out
                        have hnb91 := NB252_237.out
                        have hnc91 := NB237_252.out
                        have hnb92 := NB252_244.out
                        have hnc92 := NB244_252.out
                        have hcz93_0 : wc.cell? ⟨gb252, 0, none⟩ = some (.slice Ao39 t245.length co39) := (blk_cell BK252.out 0).trans rfl
                        have hcz93_1 : wc.cell? ⟨gb252, 1, none⟩ = some (.slice Ao44 t248.length co44) := (blk_cell BK252.out 1).trans rfl
                        have hfz93_0 := blk_frozen BK252.out 0
                        have hfz93_1 := blk_frozen BK252.out 1
                        go_upto_region 27 with (first | ((with_reducible refine gate_callee (f := 35) rfl ?_); refine goesL_ (some 75) rfl rfl Try.func35 (by kernel_rfl) rfl #[.agg #[.slice Ao39 t245.length co39, .slice Ao44 t248.length co44], .int .i64 1] rfl (by (try simp only [List.map_toArray, List.map_cons, List.map_nil]); first | done | rfl | (simp only [List.length_drop, List.length_take]; rfl)) ?_; (with_reducible refine (laws_markDisk.calls kj59 (fun k_ => some k_ = (.slice Ao39 t245.length co39 : Value).ownBlock) (.slice Ao39 t245.length co39) t245 (fun k_ => some k_ = (.slice Ao44 t248.length co44 : Value).ownBlock) (.slice Ao44 t248.length co44) t248 1 t265 t266 t267 w _ ?side1 ?side2 ?side3 A83.out).mono ?_); (case side1 => repeat (first | (with_reducible first | exact HB.out | apply below_alloc | apply pw_below_drewN | apply below_drew1 | refine below_set ?_ GE222.out | refine below_set ?_ GE237.out | refine below_set ?_ GE244.out | refine below_set ?_ GE252.out) | exact HB.out)); (case side2 => exact Kd.R_tight rfl HO_253000.out); (case side3 => exact Kd.R_tight rfl HO_253001.out); rintro e w94 ⟨rfl, hy0, hy1, hb, hkp⟩; refine ⟨_, rfl, ?_⟩; have n0_ := Aside0.mk (Kd.R_mono (ok' := fun k_ => some k_ ≠ (.slice Ao32 t262.length co32 : Value).ownBlock ∧ some k_ ≠ (.slice Ao39 t245.length co39 : Value).ownBlock) (Kd.R_keptB ((Kd.R_apart' HO_238000.out (Kd.R_typed HO_253001.out) (by decide))) hkp (fun k_ hk_ hs_ => Or.elim hs_ (fun e_ => (hk_.1.2) e_) (fun e_ => (hk_.2) e_))) (fun k_ hk_ => ⟨hk_.1.1.1, hk_.1.1.2⟩)); have n1_ := Aside0.mk (Kd.R_mono (ok' := fun k_ => some k_ ≠ (.slice Ao36 t263.length co36 : Value).ownBlock ∧ some k_ ≠ (.slice Ao44 t248.length co44 : Value).ownBlock) (Kd.R_keptB ((Kd.R_apart' HO_238001.out (Kd.R_typed HO_253000.out) (by decide))) hkp (fun k_ hk_ hs_ => Or.elim hs_ (fun e_ => (hk_.2) e_) (fun e_ => (hk_.1.2) e_))) (fun k_ hk_ => ⟨hk_.1.1.1, hk_.1.1.2⟩)); have n2_ := Aside0.mk (Kd.R_mono (ok' := fun k_ => some k_ ≠ (.slice Ao25 t230.length co25 : Value).ownBlock ∧ some k_ ≠ (.slice Ao39 t245.length co39 : Value).ownBlock) (Kd.R_keptB ((Kd.R_apart' HO_245000.out (Kd.R_typed HO_253001.out) (by decide))) hkp (fun k_ hk_ hs_ => Or.elim hs_ (fun e_ => (hk_.1.2) e_) (fun e_ => (hk_.2) e_))) (fun k_ hk_ => ⟨hk_.1.1.1, hk_.1.1.2⟩)); have n3_ := Aside0.mk (Kd.R_mono (ok' := fun k_ => some k_ ≠ (.slice Ao28 t233.length co28 : Value).ownBlock ∧ some k_ ≠ (.slice Ao44 t248.length co44 : Value).ownBlock) (Kd.R_keptB ((Kd.R_apart' HO_245001.out (Kd.R_typed HO_253000.out) (by decide))) hkp (fun k_ hk_ hs_ => Or.elim hs_ (fun e_ => (hk_.2) e_) (fun e_ => (hk_.1.2) e_))) (fun k_ hk_ => ⟨hk_.1.1.1, hk_.1.1.2⟩)); have n4_ := Aside0.mk (Kd.R_reok rfl hy0 (fun k_ e_ => HO_253000.out.1 k_ e_)); have n5_ := Aside0.mk (Kd.R_reok rfl hy1 (fun k_ e_ => HO_253001.out.1 k_ e_)); have n6_ := Aside0.mk (blk_kept (by (with_reducible repeat (first | refine blk_drewN ?_ _ | refine blk_drew ?_ | refine blk_alloc ?_ _)); exact BK222.out) hkp (fun hs_ => Or.elim hs_ (fun e_ => (fun e_ => (Kd.R_ne HO_253000.out BK222.out (by decide)) e_) e_) (fun e_ => (fun e_ => (Kd.R_ne HO_253001.out BK222.out (by decide)) e_) e_))); have n7_ := Aside0.mk (blk_kept (by (with_reducible repeat (first | refine blk_drewN ?_ _ | refine blk_drew ?_ | refine blk_alloc ?_ _)); exact BK237.out) hkp (fun hs_ => Or.elim hs_ (fun e_ => (fun e_ => (Kd.R_ne HO_253000.out BK237.out (by decide)) e_) e_) (fun e_ => (fun e_ => (Kd.R_ne HO_253001.out BK237.out (by decide)) e_) e_))); have n8_ := Aside0.mk (blk_kept (by (with_reducible repeat (first | refine blk_drewN ?_ _ | refine blk_drew ?_ | refine blk_alloc ?_ _)); exact BK244.out) hkp (fun hs_ => Or.elim hs_ (fun e_ => (fun e_ => (Kd.R_ne HO_253000.out BK244.out (by decide)) e_) e_) (fun e_ => (fun e_ => (Kd.R_ne HO_253001.out BK244.out (by decide)) e_) e_))); have n9_ := Aside0.mk (blk_kept (by (with_reducible repeat (first | refine blk_drewN ?_ _ | refine blk_drew ?_ | refine blk_alloc ?_ _)); exact BK252.out) hkp (fun hs_ => Or.elim hs_ (fun e_ => (fun e_ => (Kd.R_ne HO_253000.out BK252.out (by decide)) e_) e_) (fun e_ => (fun e_ => (Kd.R_ne HO_253001.out BK252.out (by decide)) e_) e_))); have n10_ := Aside0.mk (hb); clear HO_238000; clear HO_238001; clear HO_245000; clear HO_245001; clear HO_253000; clear HO_253001; clear BK222; clear BK237; clear BK244; clear BK252; clear HB; have HO_238000 := n0_; have HO_238001 := n1_; have HO_245000 := n2_; have HO_245001 := n3_; have HO_253000 := n4_; have HO_253001 := n5_; have BK222 := n6_; have BK237 := n7_; have BK244 := n8_; have BK252 := n9_; have HB := n10_; clear n0_ n1_ n2_ n3_ n4_ n5_ n6_ n7_ n8_ n9_ n10_; (try clear hb); (try clear hkp); (try clear hy0); (try clear hy1); have hcz95_0 : w94.cell? ⟨gb252, 0, none⟩ = some (.slice Ao39 t245.length co39) := (blk_cell BK252.out 0).trans rfl; have hcz95_1 : w94.cell? ⟨gb252, 1, none⟩ = some (.slice Ao44 t248.length co44) := (blk_cell BK252.out 1).trans rfl; have hfz95_0 := blk_frozen BK252.out 0; have hfz95_1 := blk_frozen BK252.out 1) | ((with_reducible refine gate_callee (f := 36) rfl ?_); refine goesL_ (some 78) rfl rfl Try.func36 (by kernel_rfl) rfl #[.agg #[.slice Ao39 t266.length co39, .slice Ao44 t267.length co44], .int .i64 1] rfl (by (try simp only [List.map_toArray, List.map_cons, List.map_nil]); first | done | (rw [show t266.length = t245.length from (Kd.R_reads' HO_253000.out).1.symm, show t267.length = t248.length from (Kd.R_reads' HO_253001.out).1.symm] <;> rfl) | rfl | (simp only [List.length_drop, List.length_take]; rfl)) ?_; (with_reducible refine (laws_heldDisk.calls kj59 _ _ t266 _ _ t267 1 t268 _ ?side1 ?side2 ?side3 ?side4 A84.out).mono ?_); (case side1 => repeat (first | exact (Kd.R_reads' HO_253000.out).2.2 | (with_reducible refine Kd.C_alloc ?_ _) | (with_reducible refine Kd.C_drewN ?_ _) | (with_reducible refine Kd.C_drew ?_))); (case side2 => rw [show t266.length = t245.length from (Kd.R_reads' HO_253000.out).1.symm]; exact (Kd.R_reads' HO_253000.out).2.1); (case side3 => repeat (first | exact (Kd.R_reads' HO_253001.out).2.2 | (with_reducible refine Kd.C_alloc ?_ _) | (with_reducible refine Kd.C_drewN ?_ _) | (with_reducible refine Kd.C_drew ?_))); (case side4 => rw [show t267.length = t248.length from (Kd.R_reads' HO_253001.out).1.symm]; exact (Kd.R_reads' HO_253001.out).2.1); rintro e w96 ⟨rfl, hb⟩; refine ⟨_, rfl, ?_⟩; have n0_ := Aside0.mk (Kd.R_below (by (with_reducible repeat (first | apply Kd.R_alloc | apply Kd.R_drewN | apply Kd.R_drew)); exact HO_238000.out) hb); have n1_ := Aside0.mk (Kd.R_below (by (with_reducible repeat (first | apply Kd.R_alloc | apply Kd.R_drewN | apply Kd.R_drew)); exact HO_238001.out) hb); have n2_ := Aside0.mk (Kd.R_below (by (with_reducible repeat (first | apply Kd.R_alloc | apply Kd.R_drewN | apply Kd.R_drew)); exact HO_245000.out) hb); have n3_ := Aside0.mk (Kd.R_below (by (with_reducible repeat (first | apply Kd.R_alloc | apply Kd.R_drewN | apply Kd.R_drew)); exact HO_245001.out) hb); have n4_ := Aside0.mk (Kd.R_below (by (with_reducible repeat (first | apply Kd.R_alloc | apply Kd.R_drewN | apply Kd.R_drew)); exact HO_253000.out) hb); have n5_ := Aside0.mk (Kd.R_below (by (with_reducible repeat (first | apply Kd.R_alloc | apply Kd.R_drewN | apply Kd.R_drew)); exact HO_253001.out) hb); have n6_ := Aside0.mk (blk_below (g := gb222) (o := .cells #[.slice A0_0 l0_0.length c0_0, .slice A0_1 l0_1.length c0_1] 57 (0, 0)) (by (with_reducible repeat (first | refine blk_drewN ?_ _ | refine blk_drew ?_ | refine blk_alloc ?_ _)); exact BK222.out) hb); have n7_ := Aside0.mk (blk_below (g := gb237) (o := .cells #[.slice Ao25 t230.length co25, .slice Ao28 t233.length co28] 36 (0, 0)) (by (with_reducible repeat (first | refine blk_drewN ?_ _ | refine blk_drew ?_ | refine blk_alloc ?_ _)); exact BK237.out) hb); have n8_ := Aside0.mk (blk_below (g := gb244) (o := .cells #[.slice Ao32 t262.length co32, .slice Ao36 t263.length co36] 36 (0, 0)) (by (with_reducible repeat (first | refine blk_drewN ?_ _ | refine blk_drew ?_ | refine blk_alloc ?_ _)); exact BK244.out) hb); have n9_ := Aside0.mk (blk_below (g := gb252) (o := .cells #[.slice Ao39 t245.length co39, .slice Ao44 t248.length co44] 36 (0, 0)) (by (with_reducible repeat (first | refine blk_drewN ?_ _ | refine blk_drew ?_ | refine blk_alloc ?_ _)); exact BK252.out) hb); have n10_ := Aside0.mk (below_step (by repeat (first | (with_reducible first | exact HB.out | apply below_alloc | apply pw_below_drewN | apply below_drew1 | refine below_set ?_ GE222.out | refine below_set ?_ GE237.out | refine below_set ?_ GE244.out | refine below_set ?_ GE252.out) | exact HB.out)) hb); clear HO_238000; clear HO_238001; clear HO_245000; clear HO_245001; clear HO_253000; clear HO_253001; clear BK222; clear BK237; clear BK244; clear BK252; clear HB; have HO_238000 := n0_; have HO_238001 := n1_; have HO_245000 := n2_; have HO_245001 := n3_; have HO_253000 := n4_; have HO_253001 := n5_; have BK222 := n6_; have BK237 := n7_; have BK244 := n8_; have BK252 := n9_; have HB := n10_; clear n0_ n1_ n2_ n3_ n4_ n5_ n6_ n7_ n8_ n9_ n10_; (try clear hb); (try clear hb2); (try clear hk); (try clear hi); have hnb97 := NB222_237.out; have hnc97 := NB237_222.out; have hnb98 := NB222_244.out; have hnc98 := NB244_222.out; have hcz99_0 : w96.cell? ⟨gb222, 0, none⟩ = some (.slice A0_0 l0_0.length c0_0) := (blk_cell BK222.out 0).trans rfl; have hcz99_1 : w96.cell? ⟨gb222, 1, none⟩ = some (.slice A0_1 l0_1.length c0_1) := (blk_cell BK222.out 1).trans rfl; have hfz99_0 := blk_frozen BK222.out 0; have hfz99_1 := blk_frozen BK222.out 1) | ((with_reducible refine gate_callee (f := 33) rfl ?_); refine goesL_ (some 86) rfl rfl Try.func33 (by kernel_rfl) rfl #[.agg #[.slice A0_0 l0_0.length c0_0, .slice A0_1 l0_1.length c0_1]] rfl (by (try simp only [List.map_toArray, List.map_cons, List.map_nil]); first | done | rfl | (simp only [List.length_drop, List.length_take]; rfl)) ?_; (with_reducible refine (laws_toDisk.calls kj59 _ _ l0_0 _ _ l0_1 t269 t272 _ ?side1 ?side2 ?side3 ?side4 A87.out).mono ?_); (case side1 => repeat (first | exact (Kd.C_below HR0_0.out HB.out) | (with_reducible refine Kd.C_alloc ?_ _) | (with_reducible refine Kd.C_drewN ?_ _) | (with_reducible refine Kd.C_drew ?_))); (case side2 => exact HC0_0.out); (case side3 => repeat (first | exact (Kd.C_below HR0_1.out HB.out) | (with_reducible refine Kd.C_alloc ?_ _) | (with_reducible refine Kd.C_drewN ?_ _) | (with_reducible refine Kd.C_drew ?_))); (case side4 => exact HC0_1.out); rintro e w100 ⟨v270, v273, rfl, ho0, ho1, hb⟩; refine ⟨_, rfl, ?_⟩; have n0_ := Aside0.mk (Kd.R_elder' (by (with_reducible repeat (first | apply Kd.R_alloc | apply Kd.R_drewN | apply Kd.R_drew)); exact HO_238000.out) (Kd.R_base ho0) hb); have n1_ := Aside0.mk (Kd.R_elder' (by (with_reducible repeat (first | apply Kd.R_alloc | apply Kd.R_drewN | apply Kd.R_drew)); exact HO_238001.out) (Kd.R_base ho1) hb); have n2_ := Aside0.mk (Kd.R_elder' (by (with_reducible repeat (first | apply Kd.R_alloc | apply Kd.R_drewN | apply Kd.R_drew)); exact HO_245000.out) (Kd.R_base ho0) hb); have n3_ := Aside0.mk (Kd.R_elder' (by (with_reducible repeat (first | apply Kd.R_alloc | apply Kd.R_drewN | apply Kd.R_drew)); exact HO_245001.out) (Kd.R_base ho1) hb); have n4_ := Aside0.mk (Kd.R_elder' (by (with_reducible repeat (first | apply Kd.R_alloc | apply Kd.R_drewN | apply Kd.R_drew)); exact HO_253000.out) (Kd.R_base ho0) hb); have n5_ := Aside0.mk (Kd.R_elder' (by (with_reducible repeat (first | apply Kd.R_alloc | apply Kd.R_drewN | apply Kd.R_drew)); exact HO_253001.out) (Kd.R_base ho1) hb); have n6_ := Aside0.mk (Kd.R_lower (Kd.R_new' (Kd.R_new' (Kd.R_new' ho0 (Kd.R_lt (by (with_reducible repeat (first | apply Kd.R_alloc | apply Kd.R_drewN | apply Kd.R_drew)); exact HO_238000.out))) (Kd.R_lt (by (with_reducible repeat (first | apply Kd.R_alloc | apply Kd.R_drewN | apply Kd.R_drew)); exact HO_245000.out))) (Kd.R_lt (by (with_reducible repeat (first | apply Kd.R_alloc | apply Kd.R_drewN | apply Kd.R_drew)); exact HO_253000.out))) (below_size (by repeat (first | (with_reducible first | exact HB.out | apply below_alloc | apply pw_below_drewN | apply below_drew1 | refine below_set ?_ GE222.out | refine below_set ?_ GE237.out | refine below_set ?_ GE244.out | refine below_set ?_ GE252.out) | exact HB.out)))); have n7_ := Aside0.mk (Kd.R_lower (Kd.R_new' (Kd.R_new' (Kd.R_new' ho1 (Kd.R_lt (by (with_reducible repeat (first | apply Kd.R_alloc | apply Kd.R_drewN | apply Kd.R_drew)); exact HO_238001.out))) (Kd.R_lt (by (with_reducible repeat (first | apply Kd.R_alloc | apply Kd.R_drewN | apply Kd.R_drew)); exact HO_245001.out))) (Kd.R_lt (by (with_reducible repeat (first | apply Kd.R_alloc | apply Kd.R_drewN | apply Kd.R_drew)); exact HO_253001.out))) (below_size (by repeat (first | (with_reducible first | exact HB.out | apply below_alloc | apply pw_below_drewN | apply below_drew1 | refine below_set ?_ GE222.out | refine below_set ?_ GE237.out | refine below_set ?_ GE244.out | refine below_set ?_ GE252.out) | exact HB.out)))); have n8_ := Aside0.mk (blk_below (g := gb222) (o := .cells #[.slice A0_0 l0_0.length c0_0, .slice A0_1 l0_1.length c0_1] 57 (0, 0)) (by (with_reducible repeat (first | refine blk_drewN ?_ _ | refine blk_drew ?_ | refine blk_alloc ?_ _)); exact BK222.out) hb); have n9_ := Aside0.mk (blk_below (g := gb237) (o := .cells #[.slice Ao25 t230.length co25, .slice Ao28 t233.length co28] 36 (0, 0)) (by (with_reducible repeat (first | refine blk_drewN ?_ _ | refine blk_drew ?_ | refine blk_alloc ?_ _)); exact BK237.out) hb); have n10_ := Aside0.mk (blk_below (g := gb244) (o := .cells #[.slice Ao32 t262.length co32, .slice Ao36 t263.length co36] 36 (0, 0)) (by (with_reducible repeat (first | refine blk_drewN ?_ _ | refine blk_drew ?_ | refine blk_alloc ?_ _)); exact BK244.out) hb); have n11_ := Aside0.mk (blk_below (g := gb252) (o := .cells #[.slice Ao39 t245.length co39, .slice Ao44 t248.length co44] 36 (0, 0)) (by (with_reducible repeat (first | refine blk_drewN ?_ _ | refine blk_drew ?_ | refine blk_alloc ?_ _)); exact BK252.out) hb); have n12_ := Aside0.mk (below_step (by repeat (first | (with_reducible first | exact HB.out | apply below_alloc | apply pw_below_drewN | apply below_drew1 | refine below_set ?_ GE222.out | refine below_set ?_ GE237.out | refine below_set ?_ GE244.out | refine below_set ?_ GE252.out) | exact HB.out)) hb); clear HO_238000; clear HO_238001; clear HO_245000; clear HO_245001; clear HO_253000; clear HO_253001; clear BK222; clear BK237; clear BK244; clear BK252; clear HB; have HO_238000 := n0_; have HO_238001 := n1_; have HO_245000 := n2_; have HO_245001 := n3_; have HO_253000 := n4_; have HO_253001 := n5_; have HO271 := n6_; have HO274 := n7_; have BK222 := n8_; have BK237 := n9_; have BK244 := n10_; have BK252 := n11_; have HB := n12_; clear n0_ n1_ n2_ n3_ n4_ n5_ n6_ n7_ n8_ n9_ n10_ n11_ n12_; (try clear hb); (try clear hb2); (try clear hk); (try clear hi); (try clear ho0); (try clear ho1); obtain ⟨Ao101, co101, eo101⟩ := Kd.R_slice HO271.out; subst eo101; obtain ⟨Ao102, co102, eo102⟩ := Kd.R_slice HO274.out; subst eo102) | ((with_reducible refine gate_callee (f := 21) rfl ?_); refine goesL_ (some 89) rfl rfl Try.func21 (by kernel_rfl) rfl #[.agg #[.slice Ao101 t269.length co101, .slice Ao102 t272.length co102], .int .i64 a1, .string a2] rfl (by (try simp only [List.map_toArray, List.map_cons, List.map_nil]); first | done | rfl | (simp only [List.length_drop, List.length_take]; rfl)) ?_; (with_reducible refine (impl_WritePage.calls _ _ t269 _ _ t272 a1 a2 t275 t278 t281 _ ?side1 ?side2 ?side3 ?side4 A88.out).mono ?_); (case side1 => repeat (first | exact (Kd.R_reads' HO271.out).2.2 | (with_reducible refine Kd.C_alloc ?_ _) | (with_reducible refine Kd.C_drewN ?_ _) | (with_reducible refine Kd.C_drew ?_))); (case side2 => exact (Kd.R_reads' HO271.out).2.1); (case side3 => repeat (first | exact (Kd.R_reads' HO274.out).2.2 | (with_reducible refine Kd.C_alloc ?_ _) | (with_reducible refine Kd.C_drewN ?_ _) | (with_reducible refine Kd.C_drew ?_))); (case side4 => exact (Kd.R_reads' HO274.out).2.1); rintro e w103 ⟨v276, v279, rfl, ho0, ho1, hb⟩; refine ⟨_, rfl, ?_⟩; have n0_ := Aside0.mk (Kd.R_elder' (by (with_reducible repeat (first | apply Kd.R_alloc | apply Kd.R_drewN | apply Kd.R_drew)); exact HO_238000.out) (Kd.R_base ho0) hb); have n1_ := Aside0.mk (Kd.R_elder' (by (with_reducible repeat (first | apply Kd.R_alloc | apply Kd.R_drewN | apply Kd.R_drew)); exact HO_238001.out) (Kd.R_base ho1) hb); have n2_ := Aside0.mk (Kd.R_elder' (by (with_reducible repeat (first | apply Kd.R_alloc | apply Kd.R_drewN | apply Kd.R_drew)); exact HO_245000.out) (Kd.R_base ho0) hb); have n3_ := Aside0.mk (Kd.R_elder' (by (with_reducible repeat (first | apply Kd.R_alloc | apply Kd.R_drewN | apply Kd.R_drew)); exact HO_245001.out) (Kd.R_base ho1) hb); have n4_ := Aside0.mk (Kd.R_elder' (by (with_reducible repeat (first | apply Kd.R_alloc | apply Kd.R_drewN | apply Kd.R_drew)); exact HO_253000.out) (Kd.R_base ho0) hb); have n5_ := Aside0.mk (Kd.R_elder' (by (with_reducible repeat (first | apply Kd.R_alloc | apply Kd.R_drewN | apply Kd.R_drew)); exact HO_253001.out) (Kd.R_base ho1) hb); have n6_ := Aside0.mk (Kd.R_elder' (by (with_reducible repeat (first | apply Kd.R_alloc | apply Kd.R_drewN | apply Kd.R_drew)); exact HO271.out) (Kd.R_base ho0) hb); have n7_ := Aside0.mk (Kd.R_elder' (by (with_reducible repeat (first | apply Kd.R_alloc | apply Kd.R_drewN | apply Kd.R_drew)); exact HO274.out) (Kd.R_base ho1) hb); have n8_ := Aside0.mk (Kd.R_lower (Kd.R_new' (Kd.R_new' (Kd.R_new' (Kd.R_new' ho0 (Kd.R_lt (by (with_reducible repeat (first | apply Kd.R_alloc | apply Kd.R_drewN | apply Kd.R_drew)); exact HO_238000.out))) (Kd.R_lt (by (with_reducible repeat (first | apply Kd.R_alloc | apply Kd.R_drewN | apply Kd.R_drew)); exact HO_245000.out))) (Kd.R_lt (by (with_reducible repeat (first | apply Kd.R_alloc | apply Kd.R_drewN | apply Kd.R_drew)); exact HO_253000.out))) (Kd.R_lt (by (with_reducible repeat (first | apply Kd.R_alloc | apply Kd.R_drewN | apply Kd.R_drew)); exact HO271.out))) (below_size (by repeat (first | (with_reducible first | exact HB.out | apply below_alloc | apply pw_below_drewN | apply below_drew1 | refine below_set ?_ GE222.out | refine below_set ?_ GE237.out | refine below_set ?_ GE244.out | refine below_set ?_ GE252.out) | exact HB.out)))); have n9_ := Aside0.mk (Kd.R_lower (Kd.R_new' (Kd.R_new' (Kd.R_new' (Kd.R_new' ho1 (Kd.R_lt (by (with_reducible repeat (first | apply Kd.R_alloc | apply Kd.R_drewN | apply Kd.R_drew)); exact HO_238001.out))) (Kd.R_lt (by (with_reducible repeat (first | apply Kd.R_alloc | apply Kd.R_drewN | apply Kd.R_drew)); exact HO_245001.out))) (Kd.R_lt (by (with_reducible repeat (first | apply Kd.R_alloc | apply Kd.R_drewN | apply Kd.R_drew)); exact HO_253001.out))) (Kd.R_lt (by (with_reducible repeat (first | apply Kd.R_alloc | apply Kd.R_drewN | apply Kd.R_drew)); exact HO274.out))) (below_size (by repeat (first | (with_reducible first | exact HB.out | apply below_alloc | apply pw_below_drewN | apply below_drew1 | refine below_set ?_ GE222.out | refine below_set ?_ GE237.out | refine below_set ?_ GE244.out | refine below_set ?_ GE252.out) | exact HB.out)))); have n10_ := Aside0.mk (blk_below (g := gb222) (o := .cells #[.slice A0_0 l0_0.length c0_0, .slice A0_1 l0_1.length c0_1] 57 (0, 0)) (by (with_reducible repeat (first | refine blk_drewN ?_ _ | refine blk_drew ?_ | refine blk_alloc ?_ _)); exact BK222.out) hb); have n11_ := Aside0.mk (blk_below (g := gb237) (o := .cells #[.slice Ao25 t230.length co25, .slice Ao28 t233.length co28] 36 (0, 0)) (by (with_reducible repeat (first | refine blk_drewN ?_ _ | refine blk_drew ?_ | refine blk_alloc ?_ _)); exact BK237.out) hb); have n12_ := Aside0.mk (blk_below (g := gb244) (o := .cells #[.slice Ao32 t262.length co32, .slice Ao36 t263.length co36] 36 (0, 0)) (by (with_reducible repeat (first | refine blk_drewN ?_ _ | refine blk_drew ?_ | refine blk_alloc ?_ _)); exact BK244.out) hb); have n13_ := Aside0.mk (blk_below (g := gb252) (o := .cells #[.slice Ao39 t245.length co39, .slice Ao44 t248.length co44] 36 (0, 0)) (by (with_reducible repeat (first | refine blk_drewN ?_ _ | refine blk_drew ?_ | refine blk_alloc ?_ _)); exact BK252.out) hb); have n14_ := Aside0.mk (below_step (by repeat (first | (with_reducible first | exact HB.out | apply below_alloc | apply pw_below_drewN | apply below_drew1 | refine below_set ?_ GE222.out | refine below_set ?_ GE237.out | refine below_set ?_ GE244.out | refine below_set ?_ GE252.out) | exact HB.out)) hb); clear HO_238000; clear HO_238001; clear HO_245000; clear HO_245001; clear HO_253000; clear HO_253001; clear HO271; clear HO274; clear BK222; clear BK237; clear BK244; clear BK252; clear HB; have HO_238000 := n0_; have HO_238001 := n1_; have HO_245000 := n2_; have HO_245001 := n3_; have HO_253000 := n4_; have HO_253001 := n5_; have HO271 := n6_; have HO274 := n7_; have HO277 := n8_; have HO280 := n9_; have BK222 := n10_; have BK237 := n11_; have BK244 := n12_; have BK252 := n13_; have HB := n14_; clear n0_ n1_ n2_ n3_ n4_ n5_ n6_ n7_ n8_ n9_ n10_ n11_ n12_ n13_ n14_; (try clear hb); (try clear hb2); (try clear hk); (try clear hi); (try clear ho0); (try clear ho1)) | ((with_reducible refine gate_dst (N := 16) rfl ?_); refine box_event ?hg (N := 16) ?hd (cs := #[.slice none 0 0, .slice none 0 0]) (t := 36) ?hr ?_; (case hd => rfl); (case hg => rfl); (case hr => first | (go_simp; done) | (go_simp; rfl)); intro gb282 hg w104 hbox hb; have n0_ := Aside0.mk (Kd.R_below (by (with_reducible repeat (first | apply Kd.R_alloc | apply Kd.R_drewN | apply Kd.R_drew)); exact HO_238000.out) hb); have n1_ := Aside0.mk (Kd.R_below (by (with_reducible repeat (first | apply Kd.R_alloc | apply Kd.R_drewN | apply Kd.R_drew)); exact HO_238001.out) hb); have n2_ := Aside0.mk (Kd.R_below (by (with_reducible repeat (first | apply Kd.R_alloc | apply Kd.R_drewN | apply Kd.R_drew)); exact HO_245000.out) hb); have n3_ := Aside0.mk (Kd.R_below (by (with_reducible repeat (first | apply Kd.R_alloc | apply Kd.R_drewN | apply Kd.R_drew)); exact HO_245001.out) hb); have n4_ := Aside0.mk (Kd.R_below (by (with_reducible repeat (first | apply Kd.R_alloc | apply Kd.R_drewN | apply Kd.R_drew)); exact HO_253000.out) hb); have n5_ := Aside0.mk (Kd.R_below (by (with_reducible repeat (first | apply Kd.R_alloc | apply Kd.R_drewN | apply Kd.R_drew)); exact HO_253001.out) hb); have n6_ := Aside0.mk (Kd.R_below (by (with_reducible repeat (first | apply Kd.R_alloc | apply Kd.R_drewN | apply Kd.R_drew)); exact HO271.out) hb); have n7_ := Aside0.mk (Kd.R_below (by (with_reducible repeat (first | apply Kd.R_alloc | apply Kd.R_drewN | apply Kd.R_drew)); exact HO274.out) hb); have n8_ := Aside0.mk (Kd.R_below (by (with_reducible repeat (first | apply Kd.R_alloc | apply Kd.R_drewN | apply Kd.R_drew)); exact HO277.out) hb); have n9_ := Aside0.mk (Kd.R_below (by (with_reducible repeat (first | apply Kd.R_alloc | apply Kd.R_drewN | apply Kd.R_drew)); exact HO280.out) hb); have n10_ := Aside0.mk (blk_below (g := gb222) (o := .cells #[.slice A0_0 l0_0.length c0_0, .slice A0_1 l0_1.length c0_1] 57 (0, 0)) (by (with_reducible repeat (first | refine blk_drewN ?_ _ | refine blk_drew ?_ | refine blk_alloc ?_ _)); exact BK222.out) hb); have n11_ := Aside0.mk (blk_below (g := gb237) (o := .cells #[.slice Ao25 t230.length co25, .slice Ao28 t233.length co28] 36 (0, 0)) (by (with_reducible repeat (first | refine blk_drewN ?_ _ | refine blk_drew ?_ | refine blk_alloc ?_ _)); exact BK237.out) hb); have n12_ := Aside0.mk (blk_below (g := gb244) (o := .cells #[.slice Ao32 t262.length co32, .slice Ao36 t263.length co36] 36 (0, 0)) (by (with_reducible repeat (first | refine blk_drewN ?_ _ | refine blk_drew ?_ | refine blk_alloc ?_ _)); exact BK244.out) hb); have n13_ := Aside0.mk (blk_below (g := gb252) (o := .cells #[.slice Ao39 t245.length co39, .slice Ao44 t248.length co44] 36 (0, 0)) (by (with_reducible repeat (first | refine blk_drewN ?_ _ | refine blk_drew ?_ | refine blk_alloc ?_ _)); exact BK252.out) hb); have n14_ := Aside0.mk (below_step (by repeat (first | (with_reducible first | exact HB.out | apply below_alloc | apply pw_below_drewN | apply below_drew1 | refine below_set ?_ GE222.out | refine below_set ?_ GE237.out | refine below_set ?_ GE244.out | refine below_set ?_ GE252.out) | exact HB.out)) hb); have n15_ := Aside0.mk (hbox); have n16_ := Aside0.mk ((by rw [hg]; exact (below_size (by repeat (first | (with_reducible first | exact HB.out | apply below_alloc | apply pw_below_drewN | apply below_drew1 | refine below_set ?_ GE222.out | refine below_set ?_ GE237.out | refine below_set ?_ GE244.out | refine below_set ?_ GE252.out) | exact HB.out))) : w.heap.size ≤ gb282)); have n17_ := Aside0.mk ((by rw [hg]; exact (below_size (by repeat (first | (with_reducible first | exact HB.out | apply below_alloc | apply pw_below_drewN | apply below_drew1 | refine below_set ?_ GE222.out | refine below_set ?_ GE237.out | refine below_set ?_ GE244.out | refine below_set ?_ GE252.out) | exact HB.out))) : w.heap.size ≤ gb282)); have n18_ := Aside0.mk ((by rw [hg]; exact Nat.ne_of_lt (blk_lt (g := gb222) (o := .cells #[.slice A0_0 l0_0.length c0_0, .slice A0_1 l0_1.length c0_1] 57 (0, 0)) (by (with_reducible repeat (first | refine blk_drewN ?_ _ | refine blk_drew ?_ | refine blk_alloc ?_ _)); exact BK222.out)) : gb222 ≠ gb282)); have n19_ := Aside0.mk ((by rw [hg]; exact Nat.ne_of_gt (blk_lt (g := gb222) (o := .cells #[.slice A0_0 l0_0.length c0_0, .slice A0_1 l0_1.length c0_1] 57 (0, 0)) (by (with_reducible repeat (first | refine blk_drewN ?_ _ | refine blk_drew ?_ | refine blk_alloc ?_ _)); exact BK222.out)) : gb282 ≠ gb222)); have n20_ := Aside0.mk ((by rw [hg]; exact Nat.ne_of_lt (blk_lt (g := gb237) (o := .cells #[.slice Ao25 t230.length co25, .slice Ao28 t233.length co28] 36 (0, 0)) (by (with_reducible repeat (first | refine blk_drewN ?_ _ | refine blk_drew ?_ | refine blk_alloc ?_ _)); exact BK237.out)) : gb237 ≠ gb282)); have n21_ := Aside0.mk ((by rw [hg]; exact Nat.ne_of_gt (blk_lt (g := gb237) (o := .cells #[.slice Ao25 t230.length co25, .slice Ao28 t233.length co28] 36 (0, 0)) (by (with_reducible repeat (first | refine blk_drewN ?_ _ | refine blk_drew ?_ | refine blk_alloc ?_ _)); exact BK237.out)) : gb282 ≠ gb237)); have n22_ := Aside0.mk ((by rw [hg]; exact Nat.ne_of_lt (blk_lt (g := gb244) (o := .cells #[.slice Ao32 t262.length co32, .slice Ao36 t263.length co36] 36 (0, 0)) (by (with_reducible repeat (first | refine blk_drewN ?_ _ | refine blk_drew ?_ | refine blk_alloc ?_ _)); exact BK244.out)) : gb244 ≠ gb282)); have n23_ := Aside0.mk ((by rw [hg]; exact Nat.ne_of_gt (blk_lt (g := gb244) (o := .cells #[.slice Ao32 t262.length co32, .slice Ao36 t263.length co36] 36 (0, 0)) (by (with_reducible repeat (first | refine blk_drewN ?_ _ | refine blk_drew ?_ | refine blk_alloc ?_ _)); exact BK244.out)) : gb282 ≠ gb244)); have n24_ := Aside0.mk ((by rw [hg]; exact Nat.ne_of_lt (blk_lt (g := gb252) (o := .cells #[.slice Ao39 t245.length co39, .slice Ao44 t248.length co44] 36 (0, 0)) (by (with_reducible repeat (first | refine blk_drewN ?_ _ | refine blk_drew ?_ | refine blk_alloc ?_ _)); exact BK252.out)) : gb252 ≠ gb282)); have n25_ := Aside0.mk ((by rw [hg]; exact Nat.ne_of_gt (blk_lt (g := gb252) (o := .cells #[.slice Ao39 t245.length co39, .slice Ao44 t248.length co44] 36 (0, 0)) (by (with_reducible repeat (first | refine blk_drewN ?_ _ | refine blk_drew ?_ | refine blk_alloc ?_ _)); exact BK252.out)) : gb282 ≠ gb252)); clear HO_238000; clear HO_238001; clear HO_245000; clear HO_245001; clear HO_253000; clear HO_253001; clear HO271; clear HO274; clear HO277; clear HO280; clear BK222; clear BK237; clear BK244; clear BK252; clear HB; have HO_238000 := n0_; have HO_238001 := n1_; have HO_245000 := n2_; have HO_245001 := n3_; have HO_253000 := n4_; have HO_253001 := n5_; have HO271 := n6_; have HO274 := n7_; have HO277 := n8_; have HO280 := n9_; have BK222 := n10_; have BK237 := n11_; have BK244 := n12_; have BK252 := n13_; have HB := n14_; have BK282 := n15_; have GW282 := n16_; have GE282 := n17_; have NB222_282 := n18_; have NB282_222 := n19_; have NB237_282 := n20_; have NB282_237 := n21_; have NB244_282 := n22_; have NB282_244 := n23_; have NB252_282 := n24_; have NB282_252 := n25_; clear n0_ n1_ n2_ n3_ n4_ n5_ n6_ n7_ n8_ n9_ n10_ n11_ n12_ n13_ n14_ n15_ n16_ n17_ n18_ n19_ n20_ n21_ n22_ n23_ n24_ n25_; clear hb hbox hg; obtain ⟨Ao105, co105, eo105⟩ := Kd.R_slice HO277.out; subst eo105; have hnb106 := NB282_222.out; have hnc106 := NB222_282.out; have hnb107 := NB282_237.out; have hnc107 := NB237_282.out; have hnb108 := NB282_244.out; have hnc108 := NB244_282.out; have hnb109 := NB282_252.out; have hnc109 := NB252_282.out; have hcz110_0 : w104.cell? ⟨gb282, 0, none⟩ = some (.slice none 0 0) := (blk_cell BK282.out 0).trans rfl; have hcz110_1 : w104.cell? ⟨gb282, 1, none⟩ = some (.slice none 0 0) := (blk_cell BK282.out 1).trans rfl; have hfz110_0 := blk_frozen BK282.out 0; have hfz110_1 := blk_frozen BK282.out 1; obtain ⟨Ao111, co111, eo111⟩ := Kd.R_slice HO280.out; subst eo111))
                        (try simp only [Act.put, List.setIfInBounds_toArray, List.set_cons_zero, List.set_cons_succ])
                        go_cut [100] (fun v100 wc => ∃ (kq : Nat) (x100_88 : Bool), v100 = .bool x100_88 ∧ Aside0 (laws_FnExactWritePage.j2 kq t265 x100_88 t266 t267 = some r) ∧ Aside0 (kq ≤ kj59) ∧ Aside0 (Kd.R Kd.string 9 wc w.heap.size (fun k_ => some k_ ≠ ((.slice Ao32 t262.length co32) : Value).ownBlock ∧ some k_ ≠ ((.slice Ao39 t245.length co39) : Value).ownBlock ∧ some k_ ≠ ((.slice Ao105 t275.length co105) : Value).ownBlock) (.slice Ao25 t230.length co25) t230) ∧ Aside0 (Kd.R k74 74 wc w.heap.size (fun k_ => some k_ ≠ ((.slice Ao36 t263.length co36) : Value).ownBlock ∧ some k_ ≠ ((.slice Ao44 t248.length co44) : Value).ownBlock ∧ some k_ ≠ ((.slice Ao111 t278.length co111) : Value).ownBlock) (.slice Ao28 t233.length co28) t233) ∧ Aside0 (Kd.R Kd.string 9 wc w.heap.size (fun k_ => some k_ ≠ ((.slice Ao25 t230.length co25) : Value).ownBlock ∧ some k_ ≠ ((.slice Ao39 t245.length co39) : Value).ownBlock ∧ some k_ ≠ ((.slice Ao105 t275.length co105) : Value).ownBlock) (.slice Ao32 t262.length co32) t262) ∧ Aside0 (Kd.R k74 74 wc w.heap.size (fun k_ => some k_ ≠ ((.slice Ao28 t233.length co28) : Value).ownBlock ∧ some k_ ≠ ((.slice Ao44 t248.length co44) : Value).ownBlock ∧ some k_ ≠ ((.slice Ao111 t278.length co111) : Value).ownBlock) (.slice Ao36 t263.length co36) t263) ∧ Aside0 (Kd.R Kd.string 9 wc w.heap.size (fun k_ => some k_ ≠ ((.slice Ao25 t230.length co25) : Value).ownBlock ∧ some k_ ≠ ((.slice Ao32 t262.length co32) : Value).ownBlock ∧ some k_ ≠ ((.slice Ao105 t275.length co105) : Value).ownBlock) (.slice Ao39 t245.length co39) t266) ∧ Aside0 (Kd.R k74 74 wc w.heap.size (fun k_ => some k_ ≠ ((.slice Ao28 t233.length co28) : Value).ownBlock ∧ some k_ ≠ ((.slice Ao36 t263.length co36) : Value).ownBlock ∧ some k_ ≠ ((.slice Ao111 t278.length co111) : Value).ownBlock) (.slice Ao44 t248.length co44) t267) ∧ Aside0 (Kd.R Kd.string 9 wc w.heap.size (fun k_ => some k_ ≠ ((.slice Ao25 t230.length co25) : Value).ownBlock ∧ some k_ ≠ ((.slice Ao32 t262.length co32) : Value).ownBlock ∧ some k_ ≠ ((.slice Ao39 t245.length co39) : Value).ownBlock) (.slice Ao105 t275.length co105) t275) ∧ Aside0 (Kd.R k74 74 wc w.heap.size (fun k_ => some k_ ≠ ((.slice Ao28 t233.length co28) : Value).ownBlock ∧ some k_ ≠ ((.slice Ao36 t263.length co36) : Value).ownBlock ∧ some k_ ≠ ((.slice Ao44 t248.length co44) : Value).ownBlock) (.slice Ao111 t278.length co111) t278) ∧ Aside0 (wc.heap[gb222]? = some (.cells #[(.slice A0_0 l0_0.length c0_0), (.slice A0_1 l0_1.length c0_1)] 57 (0, 0))) ∧ Aside0 (wc.heap[gb237]? = some (.cells #[(.slice Ao25 t230.length co25), (.slice Ao28 t233.length co28)] 36 (0, 0))) ∧ Aside0 (wc.heap[gb244]? = some (.cells #[(.slice Ao32 t262.length co32), (.slice Ao36 t263.length co36)] 36 (0, 0))) ∧ Aside0 (wc.heap[gb252]? = some (.cells #[(.slice Ao39 t245.length co39), (.slice Ao44 t248.length co44)] 36 (0, 0))) ∧ Aside0 (wc.heap[gb282]? = some (.cells #[(.slice Ao105 t275.length co105), (.slice Ao111 t278.length co111)] 36 (0, 0))) ∧ Aside0 (Below w.heap.size w wc))
                        case first =>
                          have H := HC89.out
                          clear HC89
                          replace H := Option.bind_eq_some_iff.mp H
                          obtain ⟨t283, A1120, H⟩ := H
                          replace H : (if t283 = true then (laws_FnExactWritePage.j2 kj59 t265 (t281 != t236) t266 t267) else (none)) = some r := H
                          have A112 := Aside0.mk A1120
                          clear A1120
                          by_cases c113 : t283 = true
                          · subst c113
                            have H1 : (laws_FnExactWritePage.j2 kj59 t265 (t281 != t236) t266 t267) = some r := by rw [if_pos rfl] at H; exact H
                            clear H
                            have H := H1
                            clear H1
                            have H' := Aside0.mk H
                            clear H
                            have hnb114 := NB282_222.out
                            have hnc114 := NB222_282.out
                            have hnb115 := NB282_237.out
                            have hnc115 := NB237_282.out
                            have hnb116 := NB282_244.out
                            have hnc116 := NB244_282.out
                            have hnb117 := NB282_252.out
                            have hnc117 := NB252_282.out
                            have hcz118_0 : w104.cell? ⟨gb282, 0, none⟩ = some (.slice none 0 0) := (blk_cell BK282.out 0).trans rfl
                            have hcz118_1 : w104.cell? ⟨gb282, 1, none⟩ = some (.slice none 0 0) := (blk_cell BK282.out 1).trans rfl
                            have hfz118_0 := blk_frozen BK282.out 0
                            have hfz118_1 := blk_frozen BK282.out 1
                            have hnb119 := NB237_222.out
                            have hnc119 := NB222_237.out
                            have hnb120 := NB237_244.out
                            have hnc120 := NB244_237.out
                            have hnb121 := NB237_252.out
                            have hnc121 := NB252_237.out
                            have hcz122_0 : w104.cell? ⟨gb237, 0, none⟩ = some (.slice Ao25 t230.length co25) := (blk_cell BK237.out 0).trans rfl
                            have hcz122_1 : w104.cell? ⟨gb237, 1, none⟩ = some (.slice Ao28 t233.length co28) := (blk_cell BK237.out 1).trans rfl
                            have hfz122_0 := blk_frozen BK237.out 0
                            have hfz122_1 := blk_frozen BK237.out 1
                            go_wp2_with (first | ((with_reducible refine gate_callee (f := 34) rfl ?_); refine goesL_ (some 94) rfl rfl Try.func34 (by kernel_rfl) rfl #[.agg #[.slice Ao105 t275.length co105, .slice Ao111 t278.length co111], .agg #[.slice Ao25 t230.length co25, .slice Ao28 t233.length co28]] rfl (by (try simp only [List.map_toArray, List.map_cons, List.map_nil]); first | done | rfl | (simp only [List.length_drop, List.length_take]; rfl)) ?_; (with_reducible refine (laws_eqDisk.calls kj59 _ _ t275 _ _ t278 _ _ t230 _ _ t233 true _ ?side1 ?side2 ?side3 ?side4 ?side5 ?side6 ?side7 ?side8 A112.out).mono ?_); (case side1 => refine (Kd.R_reads' (e := 9) (base := w.heap.size) (ok := fun k_ => ((((True ∧ some k_ ≠ (.slice Ao25 t230.length co25 : Value).ownBlock) ∧ some k_ ≠ (.slice Ao32 t262.length co32 : Value).ownBlock) ∧ some k_ ≠ (.slice Ao39 t245.length co39 : Value).ownBlock) ∧ some k_ ≠ (.slice Ao101 t269.length co101 : Value).ownBlock)) (n := t275.length) (c := co105) ?_).2.2; exact (by (with_reducible repeat (first | apply Kd.R_alloc | apply Kd.R_drewN | apply Kd.R_drew)); exact (Kd.R_mono (Kd.R_far (p := ⟨gb282, 1, none⟩) (Kd.R_far (p := ⟨gb282, 0, none⟩) (Kd.R_types HO277.out BK282.out (by decide)) (fun _ hk => hk.2) (.slice Ao105 t275.length co105)) (fun _ hk => hk.2) (.slice Ao111 t278.length co111)) (fun _ h_ => h_.1)))); (case side2 => exact (Kd.R_reads' HO277.out).2.1); (case side3 => refine (Kd.R_reads' (e := 74) (base := w.heap.size) (ok := fun k_ => ((((True ∧ some k_ ≠ (.slice Ao28 t233.length co28 : Value).ownBlock) ∧ some k_ ≠ (.slice Ao36 t263.length co36 : Value).ownBlock) ∧ some k_ ≠ (.slice Ao44 t248.length co44 : Value).ownBlock) ∧ some k_ ≠ (.slice Ao102 t272.length co102 : Value).ownBlock)) (n := t278.length) (c := co111) ?_).2.2; exact (by (with_reducible repeat (first | apply Kd.R_alloc | apply Kd.R_drewN | apply Kd.R_drew)); exact (Kd.R_mono (Kd.R_far (p := ⟨gb282, 1, none⟩) (Kd.R_far (p := ⟨gb282, 0, none⟩) (Kd.R_types HO280.out BK282.out (by decide)) (fun _ hk => hk.2) (.slice Ao105 t275.length co105)) (fun _ hk => hk.2) (.slice Ao111 t278.length co111)) (fun _ h_ => h_.1)))); (case side4 => exact (Kd.R_reads' HO280.out).2.1); (case side5 => refine (Kd.R_reads' (e := 9) (base := w.heap.size) (ok := fun k_ => (((some k_ ≠ (.slice Ao32 t262.length co32 : Value).ownBlock ∧ some k_ ≠ (.slice Ao39 t245.length co39 : Value).ownBlock) ∧ some k_ ≠ (.slice Ao101 t269.length co101 : Value).ownBlock) ∧ some k_ ≠ (.slice Ao105 t275.length co105 : Value).ownBlock)) (n := t230.length) (c := co25) ?_).2.2; exact (by (with_reducible repeat (first | apply Kd.R_alloc | apply Kd.R_drewN | apply Kd.R_drew)); exact (Kd.R_mono (Kd.R_far (p := ⟨gb282, 1, none⟩) (Kd.R_far (p := ⟨gb282, 0, none⟩) (Kd.R_types HO_238000.out BK282.out (by decide)) (fun _ hk => hk.2) (.slice Ao105 t275.length co105)) (fun _ hk => hk.2) (.slice Ao111 t278.length co111)) (fun _ h_ => h_.1)))); (case side6 => exact (Kd.R_reads' HO_238000.out).2.1); (case side7 => refine (Kd.R_reads' (e := 74) (base := w.heap.size) (ok := fun k_ => (((some k_ ≠ (.slice Ao36 t263.length co36 : Value).ownBlock ∧ some k_ ≠ (.slice Ao44 t248.length co44 : Value).ownBlock) ∧ some k_ ≠ (.slice Ao102 t272.length co102 : Value).ownBlock) ∧ some k_ ≠ (.slice Ao111 t278.length co111 : Value).ownBlock)) (n := t233.length) (c := co28) ?_).2.2; exact (by (with_reducible repeat (first | apply Kd.R_alloc | apply Kd.R_drewN | apply Kd.R_drew)); exact (Kd.R_mono (Kd.R_far (p := ⟨gb282, 1, none⟩) (Kd.R_far (p := ⟨gb282, 0, none⟩) (Kd.R_types HO_238001.out BK282.out (by decide)) (fun _ hk => hk.2) (.slice Ao105 t275.length co105)) (fun _ hk => hk.2) (.slice Ao111 t278.length co111)) (fun _ h_ => h_.1)))); (case side8 => exact (Kd.R_reads' HO_238001.out).2.1); rintro e w123 ⟨rfl, hb⟩; refine ⟨_, rfl, ?_⟩; have n0_ := Aside0.mk (Kd.R_below (by (with_reducible repeat (first | apply Kd.R_alloc | apply Kd.R_drewN | apply Kd.R_drew)); exact (Kd.R_mono (Kd.R_far (p := ⟨gb282, 1, none⟩) (Kd.R_far (p := ⟨gb282, 0, none⟩) (Kd.R_types HO_238000.out BK282.out (by decide)) (fun _ hk => hk.2) (.slice Ao105 t275.length co105)) (fun _ hk => hk.2) (.slice Ao111 t278.length co111)) (fun _ h_ => h_.1))) hb); have n1_ := Aside0.mk (Kd.R_below (by (with_reducible repeat (first | apply Kd.R_alloc | apply Kd.R_drewN | apply Kd.R_drew)); exact (Kd.R_mono (Kd.R_far (p := ⟨gb282, 1, none⟩) (Kd.R_far (p := ⟨gb282, 0, none⟩) (Kd.R_types HO_238001.out BK282.out (by decide)) (fun _ hk => hk.2) (.slice Ao105 t275.length co105)) (fun _ hk => hk.2) (.slice Ao111 t278.length co111)) (fun _ h_ => h_.1))) hb); have n2_ := Aside0.mk (Kd.R_below (by (with_reducible repeat (first | apply Kd.R_alloc | apply Kd.R_drewN | apply Kd.R_drew)); exact (Kd.R_mono (Kd.R_far (p := ⟨gb282, 1, none⟩) (Kd.R_far (p := ⟨gb282, 0, none⟩) (Kd.R_types HO_245000.out BK282.out (by decide)) (fun _ hk => hk.2) (.slice Ao105 t275.length co105)) (fun _ hk => hk.2) (.slice Ao111 t278.length co111)) (fun _ h_ => h_.1))) hb); have n3_ := Aside0.mk (Kd.R_below (by (with_reducible repeat (first | apply Kd.R_alloc | apply Kd.R_drewN | apply Kd.R_drew)); exact (Kd.R_mono (Kd.R_far (p := ⟨gb282, 1, none⟩) (Kd.R_far (p := ⟨gb282, 0, none⟩) (Kd.R_types HO_245001.out BK282.out (by decide)) (fun _ hk => hk.2) (.slice Ao105 t275.length co105)) (fun _ hk => hk.2) (.slice Ao111 t278.length co111)) (fun _ h_ => h_.1))) hb); have n4_ := Aside0.mk (Kd.R_below (by (with_reducible repeat (first | apply Kd.R_alloc | apply Kd.R_drewN | apply Kd.R_drew)); exact (Kd.R_mono (Kd.R_far (p := ⟨gb282, 1, none⟩) (Kd.R_far (p := ⟨gb282, 0, none⟩) (Kd.R_types HO_253000.out BK282.out (by decide)) (fun _ hk => hk.2) (.slice Ao105 t275.length co105)) (fun _ hk => hk.2) (.slice Ao111 t278.length co111)) (fun _ h_ => h_.1))) hb); have n5_ := Aside0.mk (Kd.R_below (by (with_reducible repeat (first | apply Kd.R_alloc | apply Kd.R_drewN | apply Kd.R_drew)); exact (Kd.R_mono (Kd.R_far (p := ⟨gb282, 1, none⟩) (Kd.R_far (p := ⟨gb282, 0, none⟩) (Kd.R_types HO_253001.out BK282.out (by decide)) (fun _ hk => hk.2) (.slice Ao105 t275.length co105)) (fun _ hk => hk.2) (.slice Ao111 t278.length co111)) (fun _ h_ => h_.1))) hb); have n6_ := Aside0.mk (Kd.R_below (by (with_reducible repeat (first | apply Kd.R_alloc | apply Kd.R_drewN | apply Kd.R_drew)); exact (Kd.R_mono (Kd.R_far (p := ⟨gb282, 1, none⟩) (Kd.R_far (p := ⟨gb282, 0, none⟩) (Kd.R_types HO271.out BK282.out (by decide)) (fun _ hk => hk.2) (.slice Ao105 t275.length co105)) (fun _ hk => hk.2) (.slice Ao111 t278.length co111)) (fun _ h_ => h_.1))) hb); have n7_ := Aside0.mk (Kd.R_below (by (with_reducible repeat (first | apply Kd.R_alloc | apply Kd.R_drewN | apply Kd.R_drew)); exact (Kd.R_mono (Kd.R_far (p := ⟨gb282, 1, none⟩) (Kd.R_far (p := ⟨gb282, 0, none⟩) (Kd.R_types HO274.out BK282.out (by decide)) (fun _ hk => hk.2) (.slice Ao105 t275.length co105)) (fun _ hk => hk.2) (.slice Ao111 t278.length co111)) (fun _ h_ => h_.1))) hb); have n8_ := Aside0.mk (Kd.R_below (by (with_reducible repeat (first | apply Kd.R_alloc | apply Kd.R_drewN | apply Kd.R_drew)); exact (Kd.R_mono (Kd.R_far (p := ⟨gb282, 1, none⟩) (Kd.R_far (p := ⟨gb282, 0, none⟩) (Kd.R_types HO277.out BK282.out (by decide)) (fun _ hk => hk.2) (.slice Ao105 t275.length co105)) (fun _ hk => hk.2) (.slice Ao111 t278.length co111)) (fun _ h_ => h_.1))) hb); have n9_ := Aside0.mk (Kd.R_below (by (with_reducible repeat (first | apply Kd.R_alloc | apply Kd.R_drewN | apply Kd.R_drew)); exact (Kd.R_mono (Kd.R_far (p := ⟨gb282, 1, none⟩) (Kd.R_far (p := ⟨gb282, 0, none⟩) (Kd.R_types HO280.out BK282.out (by decide)) (fun _ hk => hk.2) (.slice Ao105 t275.length co105)) (fun _ hk => hk.2) (.slice Ao111 t278.length co111)) (fun _ h_ => h_.1))) hb); have n10_ := Aside0.mk (blk_below (g := gb222) (o := .cells #[.slice A0_0 l0_0.length c0_0, .slice A0_1 l0_1.length c0_1] 57 (0, 0)) (by (with_reducible repeat (first | refine blk_drewN ?_ _ | refine blk_drew ?_ | refine blk_alloc ?_ _)); refine blk_far ?_ NB222_282.out _; (with_reducible repeat (first | refine blk_drewN ?_ _ | refine blk_drew ?_ | refine blk_alloc ?_ _)); refine blk_far ?_ NB222_282.out _; (with_reducible repeat (first | refine blk_drewN ?_ _ | refine blk_drew ?_ | refine blk_alloc ?_ _)); exact BK222.out) hb); have n11_ := Aside0.mk (blk_below (g := gb237) (o := .cells #[.slice Ao25 t230.length co25, .slice Ao28 t233.length co28] 36 (0, 0)) (by (with_reducible repeat (first | refine blk_drewN ?_ _ | refine blk_drew ?_ | refine blk_alloc ?_ _)); refine blk_far ?_ NB237_282.out _; (with_reducible repeat (first | refine blk_drewN ?_ _ | refine blk_drew ?_ | refine blk_alloc ?_ _)); refine blk_far ?_ NB237_282.out _; (with_reducible repeat (first | refine blk_drewN ?_ _ | refine blk_drew ?_ | refine blk_alloc ?_ _)); exact BK237.out) hb); have n12_ := Aside0.mk (blk_below (g := gb244) (o := .cells #[.slice Ao32 t262.length co32, .slice Ao36 t263.length co36] 36 (0, 0)) (by (with_reducible repeat (first | refine blk_drewN ?_ _ | refine blk_drew ?_ | refine blk_alloc ?_ _)); refine blk_far ?_ NB244_282.out _; (with_reducible repeat (first | refine blk_drewN ?_ _ | refine blk_drew ?_ | refine blk_alloc ?_ _)); refine blk_far ?_ NB244_282.out _; (with_reducible repeat (first | refine blk_drewN ?_ _ | refine blk_drew ?_ | refine blk_alloc ?_ _)); exact BK244.out) hb); have n13_ := Aside0.mk (blk_below (g := gb252) (o := .cells #[.slice Ao39 t245.length co39, .slice Ao44 t248.length co44] 36 (0, 0)) (by (with_reducible repeat (first | refine blk_drewN ?_ _ | refine blk_drew ?_ | refine blk_alloc ?_ _)); refine blk_far ?_ NB252_282.out _; (with_reducible repeat (first | refine blk_drewN ?_ _ | refine blk_drew ?_ | refine blk_alloc ?_ _)); refine blk_far ?_ NB252_282.out _; (with_reducible repeat (first | refine blk_drewN ?_ _ | refine blk_drew ?_ | refine blk_alloc ?_ _)); exact BK252.out) hb); have n14_ := Aside0.mk (blk_below (g := gb282) (o := .cells #[.slice Ao105 t275.length co105, .slice Ao111 t278.length co111] 36 (0, 0)) (by (with_reducible repeat (first | refine blk_drewN ?_ _ | refine blk_drew ?_ | refine blk_alloc ?_ _)); refine blk_put (cs := #[.slice Ao105 t275.length co105, .slice none 0 0]) ?_ 1 _ rfl; (with_reducible repeat (first | refine blk_drewN ?_ _ | refine blk_drew ?_ | refine blk_alloc ?_ _)); refine blk_put (cs := #[.slice none 0 0, .slice none 0 0]) ?_ 0 _ rfl; (with_reducible repeat (first | refine blk_drewN ?_ _ | refine blk_drew ?_ | refine blk_alloc ?_ _)); exact BK282.out) hb); have n15_ := Aside0.mk (below_step (by repeat (first | (with_reducible first | exact HB.out | apply below_alloc | apply pw_below_drewN | apply below_drew1 | refine below_set ?_ GE222.out | refine below_set ?_ GE237.out | refine below_set ?_ GE244.out | refine below_set ?_ GE252.out | refine below_set ?_ GE282.out) | exact HB.out)) hb); clear HO_238000; clear HO_238001; clear HO_245000; clear HO_245001; clear HO_253000; clear HO_253001; clear HO271; clear HO274; clear HO277; clear HO280; clear BK222; clear BK237; clear BK244; clear BK252; clear BK282; clear HB; have HO_238000 := n0_; have HO_238001 := n1_; have HO_245000 := n2_; have HO_245001 := n3_; have HO_253000 := n4_; have HO_253001 := n5_; have HO271 := n6_; have HO274 := n7_; have HO277 := n8_; have HO280 := n9_; have BK222 := n10_; have BK237 := n11_; have BK244 := n12_; have BK252 := n13_; have BK282 := n14_; have HB := n15_; clear n0_ n1_ n2_ n3_ n4_ n5_ n6_ n7_ n8_ n9_ n10_ n11_ n12_ n13_ n14_ n15_; (try clear hb); (try clear hb2); (try clear hk); (try clear hi)))
                            go_meet
                            case rel => exact ⟨_, ((t281 != t236)), (by first | rfl | (simp; done) | (simp [*]; done)), H', ⟨by have := HJ14.out; have := HJ59.out; first | omega | exact Nat.le_refl _⟩, ⟨by (try simp only [hl245000_59]); (try simp only [hl245001_59]); (with_reducible repeat (first | apply Kd.R_alloc | apply Kd.R_drewN | apply Kd.R_drew)); exact Kd.R_mono HO_238000.out (fun _ hk => ⟨hk.1.1.1, ⟨hk.1.1.2, hk.2⟩⟩)⟩, ⟨by (try simp only [hl245000_59]); (try simp only [hl245001_59]); (with_reducible repeat (first | apply Kd.R_alloc | apply Kd.R_drewN | apply Kd.R_drew)); exact Kd.R_mono HO_238001.out (fun _ hk => ⟨hk.1.1.1, ⟨hk.1.1.2, hk.2⟩⟩)⟩, ⟨by (try simp only [hl245000_59]); (try simp only [hl245001_59]); (with_reducible repeat (first | apply Kd.R_alloc | apply Kd.R_drewN | apply Kd.R_drew)); exact Kd.R_mono HO_245000.out (fun _ hk => ⟨hk.1.1.1, ⟨hk.1.1.2, hk.2⟩⟩)⟩, ⟨by (try simp only [hl245000_59]); (try simp only [hl245001_59]); (with_reducible repeat (first | apply Kd.R_alloc | apply Kd.R_drewN | apply Kd.R_drew)); exact Kd.R_mono HO_245001.out (fun _ hk => ⟨hk.1.1.1, ⟨hk.1.1.2, hk.2⟩⟩)⟩, ⟨by (try simp only [hl245000_59]); (try simp only [hl245001_59]); (with_reducible repeat (first | apply Kd.R_alloc | apply Kd.R_drewN | apply Kd.R_drew)); exact Kd.R_mono HO_253000.out (fun _ hk => ⟨hk.1.1.1, ⟨hk.1.1.2, hk.2⟩⟩)⟩, ⟨by (try simp only [hl245000_59]); (try simp only [hl245001_59]); (with_reducible repeat (first | apply Kd.R_alloc | apply Kd.R_drewN | apply Kd.R_drew)); exact Kd.R_mono HO_253001.out (fun _ hk => ⟨hk.1.1.1, ⟨hk.1.1.2, hk.2⟩⟩)⟩, ⟨by (try simp only [hl245000_59]); (try simp only [hl245001_59]); (with_reducible repeat (first | apply Kd.R_alloc | apply Kd.R_drewN | apply Kd.R_drew)); exact Kd.R_mono HO277.out (fun _ hk => ⟨hk.1.1.1.2, ⟨hk.1.1.2, hk.1.2⟩⟩)⟩, ⟨by (try simp only [hl245000_59]); (try simp only [hl245001_59]); (with_reducible repeat (first | apply Kd.R_alloc | apply Kd.R_drewN | apply Kd.R_drew)); exact Kd.R_mono HO280.out (fun _ hk => ⟨hk.1.1.1.2, ⟨hk.1.1.2, hk.1.2⟩⟩)⟩, ⟨by (try simp only [hl245000_59]); (try simp only [hl245001_59]); (with_reducible repeat (first | refine blk_drewN ?_ _ | refine blk_drew ?_ | refine blk_alloc ?_ _)); exact BK222.out⟩, ⟨by (try simp only [hl245000_59]); (try simp only [hl245001_59]); (with_reducible repeat (first | refine blk_drewN ?_ _ | refine blk_drew ?_ | refine blk_alloc ?_ _)); exact BK237.out⟩, ⟨by (try simp only [hl245000_59]); (try simp only [hl245001_59]); (with_reducible repeat (first | refine blk_drewN ?_ _ | refine blk_drew ?_ | refine blk_alloc ?_ _)); exact BK244.out⟩, ⟨by (try simp only [hl245000_59]); (try simp only [hl245001_59]); (with_reducible repeat (first | refine blk_drewN ?_ _ | refine blk_drew ?_ | refine blk_alloc ?_ _)); exact BK252.out⟩, ⟨by (try simp only [hl245000_59]); (try simp only [hl245001_59]); (with_reducible repeat (first | refine blk_drewN ?_ _ | refine blk_drew ?_ | refine blk_alloc ?_ _)); exact BK282.out⟩, ⟨by repeat (first | (with_reducible first | exact HB.out | apply below_alloc | apply pw_below_drewN | apply below_drew1 | refine below_set ?_ GE222.out | refine below_set ?_ GE237.out | refine below_set ?_ GE244.out | refine below_set ?_ GE252.out | refine below_set ?_ GE282.out) | exact HB.out)⟩⟩
                          · replace c113 := Bool.eq_false_iff.mpr c113
                            subst c113
                            have H1 : (none) = some r := by rw [if_neg (show ¬ (false = true) by decide)] at H; exact H
                            clear H
                            have H := H1
                            clear H1
                            exact absurd H (by simp)
                        case rest =>
                          clear HC89
                          try clear c1
                          try clear c2
                          try clear p2
                          try clear c3
                          try clear c4
                          try clear c4b0
                          try clear c4b1
                          try clear c5
                          try clear c6
                          try clear c7
                          try clear c7b0
                          try clear c8
                          try clear c9
                          try clear c10
                          try clear c11
                          try clear c12
                          try clear c21
                          try clear c26
                          try clear c31
                          try clear c33
                          try clear c34
                          try clear c35
                          try clear c36
                          try clear c40
                          try clear c41
                          try clear c42
                          try clear c46
                          try clear c47
                          try clear c48
                          try clear c49
                          try clear c51
                          try clear c52
                          try clear c55
                          try clear c58
                          try clear c66
                          try clear c67
                          try clear c68
                          try clear c71
                          try clear c71b0
                          try clear c73
                          try clear c74
                          try clear c75
                          try clear c76
                          try clear c78
                          try clear c79
                          try clear c82
                          try clear c85
                          try clear c85b0
                          try clear c86
                          try clear c86b0
                          try clear c86b1
                          try clear c90
                          try clear c91
                          try clear c92
                          try clear c97
                          try clear c98
                          try clear c106
                          try clear c107
                          try clear c108
                          try clear c109
                          try clear c113
                          try clear c114
                          try clear c115
                          try clear c116
                          try clear c117
                          try clear c119
                          try clear c120
                          try clear c121
                          try clear hcz110_0
                          try clear hcz110_1
                          try clear hcz118_0
                          try clear hcz118_1
                          try clear hcz122_0
                          try clear hcz122_1
                          try clear hcz17_0
                          try clear hcz17_1
                          try clear hcz19_0
                          try clear hcz19_1
                          try clear hcz27_0
                          try clear hcz27_1
                          try clear hcz29_0
                          try clear hcz29_1
                          try clear hcz35_0
                          try clear hcz35_1
                          try clear hcz43_0
                          try clear hcz43_1
                          try clear hcz50_0
                          try clear hcz50_1
                          try clear hcz53_0
                          try clear hcz53_1
                          try clear hcz69_0
                          try clear hcz69_1
                          try clear hcz77_0
                          try clear hcz77_1
                          try clear hcz80_0
                          try clear hcz80_1
                          try clear hcz93_0
                          try clear hcz93_1
                          try clear hcz95_0
                          try clear hcz95_1
                          try clear hcz99_0
                          try clear hcz99_1
                          try clear hcz9_0
                          try clear hcz9_1
                          try clear hfz110_0
                          try clear hfz110_1
                          try clear hfz118_0
                          try clear hfz118_1
                          try clear hfz122_0
                          try clear hfz122_1
                          try clear hfz17_0
                          try clear hfz17_1
                          try clear hfz19_0
                          try clear hfz19_1
                          try clear hfz27_0
                          try clear hfz27_1
                          try clear hfz29_0
                          try clear hfz29_1
                          try clear hfz35_0
                          try clear hfz35_1
                          try clear hfz43_0
                          try clear hfz43_1
                          try clear hfz50_0
                          try clear hfz50_1
                          try clear hfz53_0
                          try clear hfz53_1
                          try clear hfz69_0
                          try clear hfz69_1
                          try clear hfz77_0
                          try clear hfz77_1
                          try clear hfz80_0
                          try clear hfz80_1
                          try clear hfz93_0
                          try clear hfz93_1
                          try clear hfz95_0
                          try clear hfz95_1
                          try clear hfz99_0
                          try clear hfz99_1
                          try clear hfz9_0
                          try clear hfz9_1
                          try clear p2
                          obtain ⟨kq, x100_88, rfl, HA, HJ88, HO_238000, HO_238001, HO_245000, HO_245001, HO_253000, HO_253001, HO_283000, HO_283001, BK222, BK237, BK244, BK252, BK282, HB⟩ := hcut
                          have hl253000_88 := (Kd.R_reads' HO_253000.out).1
                          rw [hl253000_88] at HO_253000
                          (try simp only [hl253000_88])
                          (try simp only [hl253000_88] at BK222)
                          (try simp only [hl253000_88] at BK237)
                          (try simp only [hl253000_88] at BK244)
                          (try simp only [hl253000_88] at BK252)
                          (try simp only [hl253000_88] at BK282)
                          (try simp only [hl253000_88] at HO_238000)
                          (try simp only [hl253000_88] at HO_238001)
                          (try simp only [hl253000_88] at HO_245000)
                          (try simp only [hl253000_88] at HO_245001)
                          (try simp only [hl253000_88] at HO_253001)
                          (try simp only [hl253000_88] at HO_283000)
                          (try simp only [hl253000_88] at HO_283001)
                          have hl253001_88 := (Kd.R_reads' HO_253001.out).1
                          rw [hl253001_88] at HO_253001
                          (try simp only [hl253001_88])
                          (try simp only [hl253001_88] at BK222)
                          (try simp only [hl253001_88] at BK237)
                          (try simp only [hl253001_88] at BK244)
                          (try simp only [hl253001_88] at BK252)
                          (try simp only [hl253001_88] at BK282)
                          (try simp only [hl253001_88] at HO_238000)
                          (try simp only [hl253001_88] at HO_238001)
                          (try simp only [hl253001_88] at HO_245000)
                          (try simp only [hl253001_88] at HO_245001)
                          (try simp only [hl253001_88] at HO_253000)
                          (try simp only [hl253001_88] at HO_283000)
                          (try simp only [hl253001_88] at HO_283001)
                          cases kq with
                          | zero => exact absurd HA.out (by simp [laws_FnExactWritePage.j2])
                          | succ kj88 =>
                            have H := HA.out
                            clear HA
                            simp only [laws_FnExactWritePage.j2] at H
                            by_cases c124 : x100_88 = true
                            · subst c124
                              have H1 : (none) = some r := by rw [if_pos rfl] at H; exact H
                              clear H
                              have H := H1
                              clear H1
                              exact absurd H (by simp)
                            · replace c124 := Bool.eq_false_iff.mpr c124
                              subst c124
                              have H1 : ((laws_heldDisk.f kj88 t266 t267 1).bind fun t284 => (if t284 < 0 then (none) else (if t284 = t265 then (some true) else (none)))) = some r := by rw [if_neg (show ¬ (false = true) by decide)] at H; exact H
                              clear H
                              have H := H1
                              clear H1
                              replace H := Option.bind_eq_some_iff.mp H
                              obtain ⟨t284, A1250, H⟩ := H
                              replace H : (if t284 < 0 then (none) else (if t284 = t265 then (some true) else (none))) = some r := H
                              have A125 := Aside0.mk A1250
                              clear A1250
                              by_cases c126 : t284 < 0
                              · rw [if_pos c126] at H
                                exact absurd H (by simp)
                              · rw [if_neg c126] at H
                                have c126b0 : decide (t284 < 0) = false := decide_eq_false c126
                                clear c126
                                by_cases c127 : t284 = t265
                                · rw [if_pos c127] at H
                                  have c127b0 : (t284 == t265) = true := beq_iff_eq.mpr c127
                                  have c127b1 : (t284 != t265) = false := bne_eq_false_iff_eq.mpr c127
                                  clear c127
                                  obtain rfl := Option.some.inj H
                                  have hnb128 := NB252_222.out
                                  have hnc128 := NB222_252.out
                                  have hnb129 := NB252_237.out
                                  have hnc129 := NB237_252.out
                                  have hnb130 := NB252_244.out
                                  have hnc130 := NB244_252.out
                                  have hnb131 := NB252_282.out
                                  have hnc131 := NB282_252.out
                                  have hcz132_0 : wc.cell? ⟨gb252, 0, none⟩ = some (.slice Ao39 t266.length co39) := (blk_cell BK252.out 0).trans rfl
                                  have hcz132_1 : wc.cell? ⟨gb252, 1, none⟩ = some (.slice Ao44 t267.length co44) := (blk_cell BK252.out 1).trans rfl
                                  have hfz132_0 := blk_frozen BK252.out 0
                                  have hfz132_1 := blk_frozen BK252.out 1
                                  go_wp2_with (first | ((with_reducible refine gate_callee (f := 36) rfl ?_); refine goesL_ (some 103) rfl rfl Try.func36 (by kernel_rfl) rfl #[.agg #[.slice Ao39 t266.length co39, .slice Ao44 t267.length co44], .int .i64 1] rfl (by (try simp only [List.map_toArray, List.map_cons, List.map_nil]); first | done | rfl | (simp only [List.length_drop, List.length_take]; rfl)) ?_; (with_reducible refine (laws_heldDisk.calls kj88 _ _ t266 _ _ t267 1 t284 _ ?side1 ?side2 ?side3 ?side4 A125.out).mono ?_); (case side1 => repeat (first | exact (Kd.R_reads' HO_253000.out).2.2 | (with_reducible refine Kd.C_alloc ?_ _) | (with_reducible refine Kd.C_drewN ?_ _) | (with_reducible refine Kd.C_drew ?_))); (case side2 => exact (Kd.R_reads' HO_253000.out).2.1); (case side3 => repeat (first | exact (Kd.R_reads' HO_253001.out).2.2 | (with_reducible refine Kd.C_alloc ?_ _) | (with_reducible refine Kd.C_drewN ?_ _) | (with_reducible refine Kd.C_drew ?_))); (case side4 => exact (Kd.R_reads' HO_253001.out).2.1); rintro e w133 ⟨rfl, hb⟩; refine ⟨_, rfl, ?_⟩; have n0_ := Aside0.mk (Kd.R_below (by (with_reducible repeat (first | apply Kd.R_alloc | apply Kd.R_drewN | apply Kd.R_drew)); exact HO_238000.out) hb); have n1_ := Aside0.mk (Kd.R_below (by (with_reducible repeat (first | apply Kd.R_alloc | apply Kd.R_drewN | apply Kd.R_drew)); exact HO_238001.out) hb); have n2_ := Aside0.mk (Kd.R_below (by (with_reducible repeat (first | apply Kd.R_alloc | apply Kd.R_drewN | apply Kd.R_drew)); exact HO_245000.out) hb); have n3_ := Aside0.mk (Kd.R_below (by (with_reducible repeat (first | apply Kd.R_alloc | apply Kd.R_drewN | apply Kd.R_drew)); exact HO_245001.out) hb); have n4_ := Aside0.mk (Kd.R_below (by (with_reducible repeat (first | apply Kd.R_alloc | apply Kd.R_drewN | apply Kd.R_drew)); exact HO_253000.out) hb); have n5_ := Aside0.mk (Kd.R_below (by (with_reducible repeat (first | apply Kd.R_alloc | apply Kd.R_drewN | apply Kd.R_drew)); exact HO_253001.out) hb); have n6_ := Aside0.mk (Kd.R_below (by (with_reducible repeat (first | apply Kd.R_alloc | apply Kd.R_drewN | apply Kd.R_drew)); exact HO_283000.out) hb); have n7_ := Aside0.mk (Kd.R_below (by (with_reducible repeat (first | apply Kd.R_alloc | apply Kd.R_drewN | apply Kd.R_drew)); exact HO_283001.out) hb); have n8_ := Aside0.mk (blk_below (g := gb222) (o := .cells #[.slice A0_0 l0_0.length c0_0, .slice A0_1 l0_1.length c0_1] 57 (0, 0)) (by (with_reducible repeat (first | refine blk_drewN ?_ _ | refine blk_drew ?_ | refine blk_alloc ?_ _)); exact BK222.out) hb); have n9_ := Aside0.mk (blk_below (g := gb237) (o := .cells #[.slice Ao25 t230.length co25, .slice Ao28 t233.length co28] 36 (0, 0)) (by (with_reducible repeat (first | refine blk_drewN ?_ _ | refine blk_drew ?_ | refine blk_alloc ?_ _)); exact BK237.out) hb); have n10_ := Aside0.mk (blk_below (g := gb244) (o := .cells #[.slice Ao32 t262.length co32, .slice Ao36 t263.length co36] 36 (0, 0)) (by (with_reducible repeat (first | refine blk_drewN ?_ _ | refine blk_drew ?_ | refine blk_alloc ?_ _)); exact BK244.out) hb); have n11_ := Aside0.mk (blk_below (g := gb252) (o := .cells #[.slice Ao39 t266.length co39, .slice Ao44 t267.length co44] 36 (0, 0)) (by (with_reducible repeat (first | refine blk_drewN ?_ _ | refine blk_drew ?_ | refine blk_alloc ?_ _)); exact BK252.out) hb); have n12_ := Aside0.mk (blk_below (g := gb282) (o := .cells #[.slice Ao105 t275.length co105, .slice Ao111 t278.length co111] 36 (0, 0)) (by (with_reducible repeat (first | refine blk_drewN ?_ _ | refine blk_drew ?_ | refine blk_alloc ?_ _)); exact BK282.out) hb); have n13_ := Aside0.mk (below_step (by repeat (first | (with_reducible first | exact HB.out | apply below_alloc | apply pw_below_drewN | apply below_drew1 | refine below_set ?_ GE222.out | refine below_set ?_ GE237.out | refine below_set ?_ GE244.out | refine below_set ?_ GE252.out | refine below_set ?_ GE282.out) | exact HB.out)) hb); clear HO_238000; clear HO_238001; clear HO_245000; clear HO_245001; clear HO_253000; clear HO_253001; clear HO_283000; clear HO_283001; clear BK222; clear BK237; clear BK244; clear BK252; clear BK282; clear HB; have HO_238000 := n0_; have HO_238001 := n1_; have HO_245000 := n2_; have HO_245001 := n3_; have HO_253000 := n4_; have HO_253001 := n5_; have HO_283000 := n6_; have HO_283001 := n7_; have BK222 := n8_; have BK237 := n9_; have BK244 := n10_; have BK252 := n11_; have BK282 := n12_; have HB := n13_; clear n0_ n1_ n2_ n3_ n4_ n5_ n6_ n7_ n8_ n9_ n10_ n11_ n12_ n13_; (try clear hb); (try clear hb2); (try clear hk); (try clear hi)))
                                  go_ret
                                  exact ⟨by first | rfl | (simp [errW_none, errW_some] <;> rfl) | (simp [*, errW_none, errW_some] <;> rfl), by repeat (first | (with_reducible first | exact HB.out | apply below_alloc | apply pw_below_drewN | apply below_drew1 | refine below_set ?_ GE222.out | refine below_set ?_ GE237.out | refine below_set ?_ GE244.out | refine below_set ?_ GE252.out | refine below_set ?_ GE282.out) | exact HB.out)⟩
                                · rw [if_neg c127] at H
                                  exact absurd H (by simp)
                      · rw [if_neg c86] at H
                        exact absurd H (by simp)
            · replace c58 := Bool.eq_false_iff.mpr c58
              subst c58
              have H1 : (none) = some r := by rw [if_neg (show ¬ (false = true) by decide)] at H; exact H
              clear H
              have H := H1
              clear H1
              exact absurd H (by simp)

end Go.Proofs.Ytbjlpmhhcigkdaa.VFnExactWritePage
