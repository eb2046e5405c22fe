-- Written by a program of this repo (wip/myprint.py), over the kit's print; functions that the print does not take stand in it by hand-proved contracts.
import Derived.Test.YtkobbccjjglfmaaVFnSchemasx0
import Derived.Test.YtkobbccjjglfmaaVFnSchemasx1
import Derived.Test.YtkobbccjjglfmaaVFnSchemasx2
import Derived.Test.YtkobbccjjglfmaaVFnSchemasx6
import Derived.Test.YtkobbccjjglfmaaVFnSchemasx9
namespace Go.Proofs.Ytkobbccjjglfmaa.VFnSchemas
open Go.RowKit Go.Proofs.YtkobbccjjglfmaaW.PrintWords Go.Proofs.YtkobbccjjglfmaaW.PrintLast Go.Proofs.YtkobbccjjglfmaaW.PrintMore
attribute [local go_sem] max2_int min2_int max_two min_two max_three min_three max_four min_four   -- for this text's walks alone
attribute [local go_sem high] str_leq str_gtr str_geq str_lss
set_option linter.unusedVariables false
set_option linter.unusedSimpArgs false

attribute [local go_sem high] eqA123
/-! ### spec_ReadSchema: function 34 -/
def spec_ReadSchema.l0 : Nat → ByteArray → List (S123) → ByteArray → Int → Bool → Option ((List (S123)) × Bool)
  | 0, _, _, _, _, _ => none
  | k + 1, x0, x5, x290000, x290001, x290002 => if x290001 < (x0.size : Int) then (if x290002 = true then ((spec_SchemaText.f k x5).bind fun bt293 => (some ((([] : List (S123))), false))) else (if (x5.length : Int) ≤ 3 then (if 0 ≤ x290001 then ((spec_l04ReadShort.f k x290000 (wrap64 (x290001 + 1)) x290002).bind fun bt299 => (if x5.length < 5864062014805 then (spec_ReadSchema.l0 k x0 (x5 ++ [(⟨bt299.1, wrap64 (bt x0 x290001)⟩ : S123)]) bt299.2.1 bt299.2.2.1 bt299.2.2.2) else (none))) else (none)) else ((spec_SchemaText.f k x5).bind fun bt306 => (if bt306.2 = true then (if bt306.1.toList = x0.toList then (some (x5, true)) else (some ((([] : List (S123))), false))) else (some ((([] : List (S123))), false)))))) else ((spec_SchemaText.f k x5).bind fun bt314 => (if x290002 = true then (some ((([] : List (S123))), false)) else (if bt314.2 = true then (if bt314.1.toList = x0.toList then (some (x5, true)) else (some ((([] : List (S123))), false))) else (some ((([] : List (S123))), false)))))
def spec_ReadSchema.f (k : Nat) (a0 : ByteArray) : Option ((List (S123)) × Bool) := spec_ReadSchema.l0 k a0 (([] : List (S123))) a0 0 false
theorem spec_ReadSchema.mono_l : ∀ k, (∀ y0 y1 y2 y3 y4, LeO (spec_ReadSchema.l0 k y0 y1 y2 y3 y4) (spec_ReadSchema.l0 (k + 1) y0 y1 y2 y3 y4))
  | 0 => fun _ _ _ _ _ r h => by simp [spec_ReadSchema.l0] at h
  | k + 1 => by
    have ih0 := spec_ReadSchema.mono_l k
    · intro y0 y1 y2 y3 y4
      unfold spec_ReadSchema.l0
      repeat' first
      | (with_reducible exact ih0 _ _ _ _ _)
      | (with_reducible exact spec_SchemaText.mono _ _)
      | (with_reducible exact spec_l04ReadShort.mono _ _ _ _)
      | (with_reducible exact LeO.refl _)
      | (with_reducible exact LeO.none _)
      | (with_reducible refine LeO.ite ?_ ?_)
      | (with_reducible refine LeO.bind ?_ (fun _ => ?_))
      | exact ih0 _ _ _ _ _
      | exact spec_SchemaText.mono _ _
      | exact spec_l04ReadShort.mono _ _ _ _
      | exact LeO.none _
      | refine LeO.ite ?_ ?_
      | refine LeO.bind ?_ (fun _ => ?_)
theorem spec_ReadSchema.mono : ∀ a0 k, LeO (spec_ReadSchema.f k a0) (spec_ReadSchema.f (k + 1) a0) := by
  intro a0 k
  have ih0 := spec_ReadSchema.mono_l k
  unfold spec_ReadSchema.f
  repeat' first
      | (with_reducible exact ih0 _ _ _ _ _)
      | (with_reducible exact spec_SchemaText.mono _ _)
      | (with_reducible exact spec_l04ReadShort.mono _ _ _ _)
      | (with_reducible exact LeO.refl _)
      | (with_reducible exact LeO.none _)
      | (with_reducible refine LeO.ite ?_ ?_)
      | (with_reducible refine LeO.bind ?_ (fun _ => ?_))
      | exact ih0 _ _ _ _ _
      | exact spec_SchemaText.mono _ _
      | exact spec_l04ReadShort.mono _ _ _ _
      | exact LeO.none _
      | refine LeO.ite ?_ ?_
      | refine LeO.bind ?_ (fun _ => ?_)
set_option maxHeartbeats 8000000 in
set_option maxRecDepth 100000 in
theorem spec_ReadSchema.calls (k : Nat) (a0 : ByteArray) (r1 : List (S123)) (r2 : Bool) (w : World) (h : spec_ReadSchema.f k a0 = some (r1, r2)) :
    Calls Try.prog 34 #[.string a0] w fun e w' => ∃ v0_ : Value, e = .returned (.tuple #[v0_, .bool r2]) ∧ Kd.R k123 123 w' w.heap.size (fun _ => True) v0_ r1 ∧ Below w.heap.size w w' := by
  have hu130 := Try.underlying130
  have hu123 := Try.underlying123
  have HB := Aside0.mk (Below.refl w.heap.size w)
  have H : (spec_ReadSchema.l0 k a0 (([] : List (S123))) a0 0 false) = some (r1, r2) := h
  clear h
  obtain ⟨y290, hy290⟩ : ∃ y_ : List (S123), y_ = (([] : List (S123))) := ⟨_, rfl⟩
  replace H : (spec_ReadSchema.l0 k a0 y290 a0 0 false) = some (r1, r2) := by first | (rw [hy290]; with_reducible exact H) | (have H2_ := (Option.bind_some _ _).symm.trans H; rw [hy290]; with_reducible exact H2_) | (have H2_ := (Option.bind_some _ _).symm.trans H; with_reducible exact H2_) | with_reducible exact H | (rw [hy290]; exact H) | exact H
  have Ny290 := Aside0.mk hy290
  clear hy290
  have H' := Aside0.mk H
  clear H
  go_enter Try.func34, Try.ntmps34
  go_wp2_with (first | ((with_reducible refine gate_dst (N := 11) rfl ?_); (try (refine gate_guard (by rfl) ?_; dsimp only)); refine box_event ?hg (N := 11) ?hd (cs := #[.string a0, .int .i64 0, .bool false]) (t := 130) ?hr ?_; (case hd => rfl); (case hg => rfl); (case hr => first | (go_simp; done) | (go_simp; rfl)); intro gb289 hg w2 hbox hb; have n0_ := Aside0.mk (below_step (by repeat (first | (with_reducible first | exact HB.out | apply below_alloc | apply pw_below_drewN | apply below_drew1) | exact HB.out)) hb); have n1_ := Aside0.mk ((show IsS130 w w2 gb289 a0 0 false from ⟨hbox, (by rw [hg]; exact (below_size (by repeat (first | (with_reducible first | exact HB.out | apply below_alloc | apply pw_below_drewN | apply below_drew1) | exact HB.out))) : w.heap.size ≤ gb289)⟩)); have n2_ := Aside0.mk ((by rw [hg]; exact (below_size (by repeat (first | (with_reducible first | exact HB.out | apply below_alloc | apply pw_below_drewN | apply below_drew1) | exact HB.out))) : w.heap.size ≤ gb289)); have n3_ := Aside0.mk ((by rw [hg]; exact (below_size (by repeat (first | (with_reducible first | exact HB.out | apply below_alloc | apply pw_below_drewN | apply below_drew1) | exact HB.out))) : w.heap.size ≤ gb289)); clear HB; have HB := n0_; have HI289 := n1_; have GW289 := n2_; have GE289 := n3_; clear n0_ n1_ n2_ n3_; clear hb hbox hg) | ((with_reducible refine gate_dst (N := 12) rfl ?_); (try (refine gate_guard (by rfl) ?_; dsimp only)); refine Kd.R_lit k123 _ 123 ?hg (N := 12) ?hd (xs := ([] : List (S123))) (inner := []) (ok := fun _ => True) (okp := fun _ => True) ?hr ?hp (fun _ hk => hk) trivial (Below.refl _ _) (Nat.le_refl _) (by simp) ?_; (case hd => rfl); (case hg => rfl); (case hr => first | (go_simp; done) | (go_simp; rfl)); (case hp => exact (Reps.none _ _)); intro v291 w3 ho4 hb hg_ hnew_; clear hg_ hnew_; (first | rw [← Ny290.out] at ho4 | (simp only [Int.reduceToNat] at ho4; rw [← Ny290.out] at ho4)); have n0_ := Aside0.mk (Kd.R_lower ho4 (below_size (by repeat (first | (with_reducible first | exact HB.out | apply below_alloc | apply pw_below_drewN | apply below_drew1 | refine below_set ?_ (IsS130.ge HI289.out)) | exact HB.out)))); have n1_ := Aside0.mk (IsS130.below (by repeat (first | (with_reducible first | exact HI289.out | apply IsS130.alloc | apply IsS130.drewN | apply IsS130.drew | apply IsS130.set_0 | apply IsS130.set_1 | apply IsS130.set_2) | exact HI289.out)) hb); have n2_ := Aside0.mk (below_step (by repeat (first | (with_reducible first | exact HB.out | apply below_alloc | apply pw_below_drewN | apply below_drew1 | refine below_set ?_ (IsS130.ge HI289.out)) | exact HB.out)) hb); clear HI289; clear HB; have HO292 := n0_; have HI289 := n1_; have HB := n2_; clear n0_ n1_ n2_; clear hb ho4))
  go_loopg [5] k (fun kq v5 w' => ∃ (x5_1 : List (S123)) (x290000_1 : ByteArray) (x290001_1 : Int) (x290002_1 : Bool), Aside0 (spec_ReadSchema.l0 kq a0 x5_1 x290000_1 x290001_1 x290002_1 = some (r1, r2)) ∧ Aside0 (kq ≤ k) ∧ Aside0 (Kd.R k123 123 w' w.heap.size (fun _ => True) v5 x5_1) ∧ Aside0 (IsS130 w w' gb289 x290000_1 x290001_1 x290002_1) ∧ Aside0 (Below w.heap.size w w'))
  case atStart => exact ⟨(y290), (a0), (0), (false), H', ⟨Nat.le_refl _⟩, ⟨by (with_reducible repeat (first | apply Kd.R_alloc | apply Kd.R_drewN | apply Kd.R_drew)); exact HO292.out⟩, ⟨by repeat (first | (with_reducible first | exact HI289.out | apply IsS130.alloc | apply IsS130.drewN | apply IsS130.drew | apply IsS130.set_0 | apply IsS130.set_1 | apply IsS130.set_2) | exact HI289.out)⟩, ⟨by repeat (first | (with_reducible first | exact HB.out | apply below_alloc | apply pw_below_drewN | apply below_drew1 | refine below_set ?_ (IsS130.ge HI289.out)) | exact HB.out)⟩⟩
  case round =>
    clear H'
    try clear p2
    try clear c3
    obtain ⟨x5_1, x290000_1, x290001_1, x290002_1, HA, HK1, HO_5, HI289, HB⟩ := hrel
    cases gk with
    | zero => exact absurd HA.out (by simp [spec_ReadSchema.l0])
    | succ k1 =>
      have H := HA.out
      clear HA
      simp only [spec_ReadSchema.l0] at H
      by_cases c5 : x290001_1 < (a0.size : Int)
      · rw [if_pos c5] at H
        have c5b0 : decide (x290001_1 < (a0.size : Int)) = true := decide_eq_true c5
        clear c5
        by_cases c6 : x290002_1 = true
        · subst c6
          have H1 : ((spec_SchemaText.f k1 x5_1).bind fun bt293 => (some ((([] : List (S123))), false))) = some (r1, r2) := by rw [if_pos rfl] at H; exact H
          clear H
          have H := H1
          clear H1
          replace H := Option.bind_eq_some_iff.mp H
          obtain ⟨⟨t293, t294⟩, A70, H⟩ := H
          replace H : (some ((([] : List (S123))), false)) = some (r1, r2) := H
          have A7 := Aside0.mk A70
          clear A70
          obtain ⟨y295, hy295⟩ : ∃ y_ : List (S123), y_ = (([] : List (S123))) := ⟨_, rfl⟩
          replace H : (some (y295, false)) = some (r1, r2) := by first | (rw [hy295]; with_reducible exact H) | (have H2_ := (Option.bind_some _ _).symm.trans H; rw [hy295]; with_reducible exact H2_) | (have H2_ := (Option.bind_some _ _).symm.trans H; with_reducible exact H2_) | with_reducible exact H | (rw [hy295]; exact H) | exact H
          have Ny295 := Aside0.mk hy295
          clear hy295
          simp only [Option.some.injEq, Prod.mk.injEq] at H
          obtain ⟨rfl, rfl⟩ := H
          obtain ⟨HGz8, hgz8⟩ := HI289.out
          have hcz8_0 := cellS130_0 HGz8
          have hcz8_1 := cellS130_1 HGz8
          have hcz8_2 := cellS130_2 HGz8
          have hfz8_0 := blk_frozen HGz8 0
          have hfz8_1 := blk_frozen HGz8 1
          have hfz8_2 := blk_frozen HGz8 2
          clear HGz8 hgz8
          obtain ⟨Ao9, co9, eo9⟩ := Kd.R_slice HO_5.out
          subst eo9
          go_wp2_with (first | ((with_reducible refine gate_callee (f := 105) rfl ?_); refine goesL_ (some 57) rfl rfl Try.func105 (by kernel_rfl) rfl #[.slice Ao9 x5_1.length co9] rfl (by (try simp only [List.map_toArray, List.map_cons, List.map_nil]); first | done | rfl | (simp only [List.length_drop, List.length_take]; rfl)) ?_; (with_reducible refine (spec_SchemaText.calls k1 _ _ x5_1 t293 t294 _ ?side1 ?side2 A7.out).mono ?_); (case side1 => repeat (first | exact (Kd.R_reads' HO_5.out).2.2 | (with_reducible refine Kd.C_alloc ?_ _) | (with_reducible refine Kd.C_drewN ?_ _) | (with_reducible refine Kd.C_drew ?_))); (case side2 => exact (Kd.R_reads' HO_5.out).2.1); rintro e w10 ⟨rfl, hb⟩; refine ⟨_, rfl, ?_⟩; have n0_ := Aside0.mk (Kd.R_below (by (with_reducible repeat (first | apply Kd.R_alloc | apply Kd.R_drewN | apply Kd.R_drew)); exact HO_5.out) hb); have n1_ := Aside0.mk (IsS130.below (by repeat (first | (with_reducible first | exact HI289.out | apply IsS130.alloc | apply IsS130.drewN | apply IsS130.drew | apply IsS130.set_0 | apply IsS130.set_1 | apply IsS130.set_2) | exact HI289.out)) hb); have n2_ := Aside0.mk (below_step (by repeat (first | (with_reducible first | exact HB.out | apply below_alloc | apply pw_below_drewN | apply below_drew1 | refine below_set ?_ (IsS130.ge HI289.out)) | exact HB.out)) hb); clear HO_5; clear HI289; clear HB; have HO_5 := n0_; have HI289 := n1_; have HB := n2_; clear n0_ n1_ n2_; (try clear hb); (try clear hb2); (try clear hk); (try clear hi); obtain ⟨HGz11, hgz11⟩ := HI289.out; have hcz11_0 := cellS130_0 HGz11; have hcz11_1 := cellS130_1 HGz11; have hcz11_2 := cellS130_2 HGz11; have hfz11_0 := blk_frozen HGz11 0; have hfz11_1 := blk_frozen HGz11 1; have hfz11_2 := blk_frozen HGz11 2; clear HGz11 hgz11) | ((with_reducible refine gate_dst (N := 73) rfl ?_); (try (refine gate_guard (by rfl) ?_; dsimp only)); refine Kd.R_lit k123 _ 123 ?hg (N := 73) ?hd (xs := ([] : List (S123))) (inner := []) (ok := fun _ => True) (okp := fun _ => True) ?hr ?hp (fun _ hk => hk) trivial (Below.refl _ _) (Nat.le_refl _) (by simp) ?_; (case hd => rfl); (case hg => rfl); (case hr => first | (go_simp; done) | (go_simp; rfl)); (case hp => exact (Reps.none _ _)); intro v296 w12 ho13 hb hg_ hnew_; clear hg_ hnew_; (first | rw [← Ny295.out] at ho13 | (simp only [Int.reduceToNat] at ho13; rw [← Ny295.out] at ho13)); have n0_ := Aside0.mk (Kd.R_elder' (by (with_reducible repeat (first | apply Kd.R_alloc | apply Kd.R_drewN | apply Kd.R_drew)); exact HO_5.out) (Kd.R_base ho13) hb); have n1_ := Aside0.mk (Kd.R_lower (Kd.R_new' ho13 (Kd.R_lt (by (with_reducible repeat (first | apply Kd.R_alloc | apply Kd.R_drewN | apply Kd.R_drew)); exact HO_5.out))) (below_size (by repeat (first | (with_reducible first | exact HB.out | apply below_alloc | apply pw_below_drewN | apply below_drew1 | refine below_set ?_ (IsS130.ge HI289.out)) | exact HB.out)))); have n2_ := Aside0.mk (IsS130.below (by repeat (first | (with_reducible first | exact HI289.out | apply IsS130.alloc | apply IsS130.drewN | apply IsS130.drew | apply IsS130.set_0 | apply IsS130.set_1 | apply IsS130.set_2) | exact HI289.out)) hb); have n3_ := Aside0.mk (below_step (by repeat (first | (with_reducible first | exact HB.out | apply below_alloc | apply pw_below_drewN | apply below_drew1 | refine below_set ?_ (IsS130.ge HI289.out)) | exact HB.out)) hb); clear HO_5; clear HI289; clear HB; have HO_5 := n0_; have HO297 := n1_; have HI289 := n2_; have HB := n3_; clear n0_ n1_ n2_ n3_; clear hb ho13))
          go_ret2
          exact ⟨_, by first | rfl | (simp [errW_none, errW_some] <;> rfl) | (simp [*, errW_none, errW_some] <;> rfl), by (with_reducible repeat (first | apply Kd.R_alloc | apply Kd.R_drewN | apply Kd.R_drew)); exact Kd.R_mono HO297.out (fun _ hk => trivial), by repeat (first | (with_reducible first | exact HB.out | apply below_alloc | apply pw_below_drewN | apply below_drew1 | refine below_set ?_ (IsS130.ge HI289.out)) | exact HB.out)⟩
        · replace c6 := Bool.eq_false_iff.mpr c6
          subst c6
          have H1 : (if (x5_1.length : Int) ≤ 3 then (if 0 ≤ x290001_1 then ((spec_l04ReadShort.f k1 x290000_1 (wrap64 (x290001_1 + 1)) false).bind fun bt299 => (if x5_1.length < 5864062014805 then (spec_ReadSchema.l0 k1 a0 (x5_1 ++ [(⟨bt299.1, wrap64 (bt a0 x290001_1)⟩ : S123)]) bt299.2.1 bt299.2.2.1 bt299.2.2.2) else (none))) else (none)) else ((spec_SchemaText.f k1 x5_1).bind fun bt306 => (if bt306.2 = true then (if bt306.1.toList = a0.toList then (some (x5_1, true)) else (some ((([] : List (S123))), false))) else (some ((([] : List (S123))), false))))) = some (r1, r2) := by rw [if_neg (show ¬ (false = true) by decide)] at H; exact H
          clear H
          have H := H1
          clear H1
          by_cases c14 : (x5_1.length : Int) ≤ 3
          · rw [if_pos c14] at H
            have c14b0 : decide ((x5_1.length : Int) ≤ 3) = true := decide_eq_true c14
            have c14b1 : decide (x5_1.length ≤ 3) = true := decide_eq_true (by omega)
            clear c14
            by_cases c15 : 0 ≤ x290001_1
            · rw [if_pos c15] at H
              have c15b0 : decide (0 ≤ x290001_1) = true := decide_eq_true c15
              clear c15
              replace H := Option.bind_eq_some_iff.mp H
              obtain ⟨⟨t299, t300, t301, t302⟩, A170, H⟩ := H
              replace H : (if x5_1.length < 5864062014805 then (spec_ReadSchema.l0 k1 a0 (x5_1 ++ [(⟨t299, wrap64 (bt a0 x290001_1)⟩ : S123)]) t300 t301 t302) else (none)) = some (r1, r2) := H
              have A17 := Aside0.mk A170
              clear A170
              by_cases c18 : x5_1.length < 5864062014805
              · rw [if_pos c18] at H
                have LMc18 := Aside0.mk c18
                clear c18
                obtain ⟨y303, hy303⟩ : ∃ y_ : List (S123), y_ = (x5_1 ++ [(⟨t299, wrap64 (bt a0 x290001_1)⟩ : S123)]) := ⟨_, rfl⟩
                replace H : (spec_ReadSchema.l0 k1 a0 y303 t300 t301 t302) = some (r1, r2) := by first | (rw [hy303]; with_reducible exact H) | (have H2_ := (Option.bind_some _ _).symm.trans H; rw [hy303]; with_reducible exact H2_) | (have H2_ := (Option.bind_some _ _).symm.trans H; with_reducible exact H2_) | with_reducible exact H | (rw [hy303]; exact H) | exact H
                have Ny303 := Aside0.mk hy303
                clear hy303
                have H' := Aside0.mk H
                clear H
                obtain ⟨HGz19, hgz19⟩ := HI289.out
                have hcz19_0 := cellS130_0 HGz19
                have hcz19_1 := cellS130_1 HGz19
                have hcz19_2 := cellS130_2 HGz19
                have hfz19_0 := blk_frozen HGz19 0
                have hfz19_1 := blk_frozen HGz19 1
                have hfz19_2 := blk_frozen HGz19 2
                clear HGz19 hgz19
                obtain ⟨Ao20, co20, eo20⟩ := Kd.R_slice HO_5.out
                subst eo20
                have p16 : 0 ≤ (x290001_1 : Int) := of_decide_eq_true (by first | (with_reducible assumption) | assumption)
                have q16 : x290001_1 < (a0.size : Int) := of_decide_eq_true (by first | (with_reducible assumption) | assumption)
                have hx16 := bt_at a0 x290001_1
                replace p16 := eq_true p16
                replace q16 := eq_true q16
                go_wp2_with (first | ((with_reducible refine gate_dst (N := 6) rfl ?_); (try (refine gate_guard (by rfl) ?_; dsimp only)); refine box_event ?hg (N := 6) ?hd (cs := #[.string (⟨#[]⟩ : ByteArray), .int .i64 0]) (t := 123) ?hr ?_; (case hd => rfl); (case hg => rfl); (case hr => first | (go_simp; done) | (go_simp; rfl)); intro gb298 hg w21 hbox hb; have n0_ := Aside0.mk (Kd.R_below (Kd.R_elderB (by (with_reducible repeat (first | apply Kd.R_alloc | apply Kd.R_drewN | apply Kd.R_drew)); exact HO_5.out) gb298 (Nat.le_of_eq hg.symm)) hb); have n1_ := Aside0.mk (IsS130.below (by repeat (first | (with_reducible first | exact HI289.out | apply IsS130.alloc | apply IsS130.drewN | apply IsS130.drew | apply IsS130.set_0 | apply IsS130.set_1 | apply IsS130.set_2) | exact HI289.out)) hb); have n2_ := Aside0.mk (below_step (by repeat (first | (with_reducible first | exact HB.out | apply below_alloc | apply pw_below_drewN | apply below_drew1 | refine below_set ?_ (IsS130.ge HI289.out)) | exact HB.out)) hb); have n3_ := Aside0.mk (hbox); have n4_ := Aside0.mk ((by rw [hg]; exact (below_size (by repeat (first | (with_reducible first | exact HB.out | apply below_alloc | apply pw_below_drewN | apply below_drew1 | refine below_set ?_ (IsS130.ge HI289.out)) | exact HB.out))) : w.heap.size ≤ gb298)); have n5_ := Aside0.mk ((by rw [hg]; exact (below_size (by repeat (first | (with_reducible first | exact HB.out | apply below_alloc | apply pw_below_drewN | apply below_drew1 | refine below_set ?_ (IsS130.ge HI289.out)) | exact HB.out))) : w.heap.size ≤ gb298)); have n6_ := Aside0.mk ((by rw [hg]; exact Nat.ne_of_lt (IsS130.lt (show IsS130 w _ gb289 x290000_1 x290001_1 false from by repeat (first | (with_reducible first | exact HI289.out | apply IsS130.alloc | apply IsS130.drewN | apply IsS130.drew | apply IsS130.set_0 | apply IsS130.set_1 | apply IsS130.set_2) | exact HI289.out))) : gb289 ≠ gb298)); have n7_ := Aside0.mk ((by rw [hg]; exact Nat.ne_of_gt (IsS130.lt (show IsS130 w _ gb289 x290000_1 x290001_1 false from by repeat (first | (with_reducible first | exact HI289.out | apply IsS130.alloc | apply IsS130.drewN | apply IsS130.drew | apply IsS130.set_0 | apply IsS130.set_1 | apply IsS130.set_2) | exact HI289.out))) : gb298 ≠ gb289)); clear HO_5; clear HI289; clear HB; have HO_5 := n0_; have HI289 := n1_; have HB := n2_; have BK298 := n3_; have GW298 := n4_; have GE298 := n5_; have NB289_298 := n6_; have NB298_289 := n7_; clear n0_ n1_ n2_ n3_ n4_ n5_ n6_ n7_; clear hb hbox hg; have hnb22 := NB298_289.out; have hnc22 := NB289_298.out; have hcz23_0 : w21.cell? ⟨gb298, 0, none⟩ = some (.string (⟨#[]⟩ : ByteArray)) := (blk_cell BK298.out 0).trans rfl; have hcz23_1 : w21.cell? ⟨gb298, 1, none⟩ = some (.int .i64 0) := (blk_cell BK298.out 1).trans rfl; have hfz23_0 := blk_frozen BK298.out 0; have hfz23_1 := blk_frozen BK298.out 1; obtain ⟨HGz24, hgz24⟩ := HI289.out; have hcz24_0 := cellS130_0 HGz24; have hcz24_1 := cellS130_1 HGz24; have hcz24_2 := cellS130_2 HGz24; have hfz24_0 := blk_frozen HGz24 0; have hfz24_1 := blk_frozen HGz24 1; have hfz24_2 := blk_frozen HGz24 2; clear HGz24 hgz24) | ((with_reducible refine gate_callee (f := 108) rfl ?_); refine goesL_ (some 49) rfl rfl Try.func108 (by kernel_rfl) rfl #[.pointer (some ⟨gb289, 0, none⟩)] rfl (by (try simp only [List.map_toArray, List.map_cons, List.map_nil]); first | done | rfl | (simp only [List.length_drop, List.length_take]; rfl)) ?_; (with_reducible refine (spec_l04ReadShort.calls k1 gb289 x290000_1 (wrap64 (x290001_1 + 1)) false t299 t300 t301 t302 w _ ?side1 ?side2 A17.out).mono ?_); (case side1 => repeat (first | (with_reducible first | exact HI289.out | apply IsS130.alloc | apply IsS130.drewN | apply IsS130.drew | apply IsS130.set_0 | apply IsS130.set_1 | apply IsS130.set_2 | apply IsS130.far (hne := NB289_298.out)) | apply IsS130.far (hne := NB289_298.out) | exact HI289.out)); (case side2 => repeat (first | (with_reducible first | exact HB.out | apply below_alloc | apply pw_below_drewN | apply below_drew1 | refine below_set ?_ (IsS130.ge HI289.out) | refine below_set ?_ GE298.out) | exact HB.out)); rintro e w25 ⟨rfl, hi, hb, hk⟩; refine ⟨_, rfl, ?_⟩; have n0_ := Aside0.mk (Kd.R_mono (Kd.R_keep (IsS130.apart (show IsS130 w _ gb289 x290000_1 (wrap64 (x290001_1 + 1)) false from by repeat (first | (with_reducible first | exact HI289.out | apply IsS130.alloc | apply IsS130.drewN | apply IsS130.drew | apply IsS130.set_0 | apply IsS130.set_1 | apply IsS130.set_2 | apply IsS130.far (hne := NB289_298.out)) | apply IsS130.far (hne := NB289_298.out) | exact HI289.out)) (by (with_reducible repeat (first | apply Kd.R_alloc | apply Kd.R_drewN | apply Kd.R_drew)); exact (Kd.R_mono (Kd.R_mono (Kd.R_far (p := ⟨gb289, 1, none⟩) (Kd.R_far (p := ⟨gb298, 1, none⟩) (Kd.R_far (p := ⟨gb298, 0, none⟩) (IsS130.apart HI289.out (Kd.R_mono HO_5.out (fun k_ hk => (⟨hk, hk.2⟩ : _ ∧ k_ ≠ gb298))) (by decide)) (fun _ hk => hk.1.2) (.string (⟨#[]⟩ : ByteArray))) (fun _ hk => hk.1.2) (.int .i64 (wrap64 (bt a0 x290001_1)))) (fun _ hk => hk.2) (.int .i64 (wrap64 (x290001_1 + 1)))) (fun _ h_ => h_.1)) (fun _ h_ => h_.1))) (by decide)) hk (fun _ h => h.2)) (fun _ h => h.1)); have n1_ := Aside0.mk (KeepBut.blk hk (g' := gb298) (o := .cells #[.string (⟨#[]⟩ : ByteArray), .int .i64 (wrap64 (bt a0 x290001_1))] 123 (0, 0)) (by (with_reducible repeat (first | refine blk_drewN ?_ _ | refine blk_drew ?_ | refine blk_alloc ?_ _)); refine blk_far ?_ NB298_289.out _; (with_reducible repeat (first | refine blk_drewN ?_ _ | refine blk_drew ?_ | refine blk_alloc ?_ _)); refine blk_put (cs := #[.string (⟨#[]⟩ : ByteArray), .int .i64 0]) ?_ 1 _ rfl; (with_reducible repeat (first | refine blk_drewN ?_ _ | refine blk_drew ?_ | refine blk_alloc ?_ _)); refine blk_put (cs := #[.string (⟨#[]⟩ : ByteArray), .int .i64 0]) ?_ 0 _ rfl; (with_reducible repeat (first | refine blk_drewN ?_ _ | refine blk_drew ?_ | refine blk_alloc ?_ _)); exact BK298.out) NB298_289.out (by simp)); have n2_ := Aside0.mk (hb); have n3_ := Aside0.mk (hi); clear HO_5; clear BK298; clear HB; clear HI289; have HO_5 := n0_; have BK298 := n1_; have HB := n2_; have HI289 := n3_; clear n0_ n1_ n2_ n3_; (try clear hb); (try clear hb2); (try clear hk); (try clear hi); have hcz26_0 : w25.cell? ⟨gb298, 0, none⟩ = some (.string (⟨#[]⟩ : ByteArray)) := (blk_cell BK298.out 0).trans rfl; have hcz26_1 : w25.cell? ⟨gb298, 1, none⟩ = some (.int .i64 (wrap64 (bt a0 x290001_1))) := (blk_cell BK298.out 1).trans rfl; have hfz26_0 := blk_frozen BK298.out 0; have hfz26_1 := blk_frozen BK298.out 1) | ((with_reducible refine gate_builtin (b := .append) (xs := #[.tmp 51, .tmp 53]) rfl ?_); (try (refine gate_guard (by rfl) ?_; dsimp only)); at_builtin; refine Kd.R_append k123 (w0 := w) w.heap.size rfl (.tmp 51) (.tmp 53) 51 123 (.agg #[(.string ⟨#[]⟩), (.int .i64 0)]) 24 rfl Try.underlying51 info123 rfl (by decide) (by omega) (.slice Ao20 x5_1.length co20) x5_1 (⟨t299, wrap64 (bt a0 x290001_1)⟩ : S123) [.string t299, .int .i64 (wrap64 (bt a0 x290001_1))] (fun k_ => k_ ≠ gb298) (fun _ => False) rfl (by first | (go_simp; done) | (go_simp; rfl)) ?aP (fun _ hk => hk.elim) ?aF ?aO ?aB ?aS ?aL ?_; (case aP => exact k123_mkM _ _ _ (⟨t299, wrap64 (bt a0 x290001_1)⟩ : S123)); (case aB => exact (by repeat (first | (with_reducible first | exact HB.out | apply below_alloc | apply pw_below_drewN | apply below_drew1 | refine below_set ?_ (IsS130.ge HI289.out) | refine below_set ?_ GE298.out) | exact HB.out))); (case aF => exact (fun k_ hk => Kd.freshB (g := gb298) (o := .cells #[.string t299, .int .i64 (wrap64 (bt a0 x290001_1))] 123 (0, 0)) (by (with_reducible repeat (first | refine blk_drewN ?_ _ | refine blk_drew ?_ | refine blk_alloc ?_ _)); refine blk_put (cs := #[.string (⟨#[]⟩ : ByteArray), .int .i64 (wrap64 (bt a0 x290001_1))]) ?_ 0 _ rfl; (with_reducible repeat (first | refine blk_drewN ?_ _ | refine blk_drew ?_ | refine blk_alloc ?_ _)); exact BK298.out) k_ hk)); (case aO => exact (by (with_reducible repeat (first | apply Kd.R_alloc | apply Kd.R_drewN | apply Kd.R_drew)); exact Kd.R_mono (Kd.R_far (p := ⟨gb298, 0, none⟩) (Kd.R_mono HO_5.out (fun k_ hk => (⟨hk, hk.2⟩ : _ ∧ k_ ≠ gb298))) (fun _ hk => hk.2) (.string t299)) (fun _ hk => hk.1.2))); (case aS => exact (below_size (by repeat (first | (with_reducible first | exact HB.out | apply below_alloc | apply pw_below_drewN | apply below_drew1 | refine below_set ?_ (IsS130.ge HI289.out) | refine below_set ?_ GE298.out) | exact HB.out)))); (case aL => have := LMc18.out; omega); intro v304 w27 ho hb hg hat; rw [← Ny303.out] at ho; have n0_ := Aside0.mk (IsS130.grown (by repeat (first | (with_reducible first | exact HI289.out | apply IsS130.alloc | apply IsS130.drewN | apply IsS130.drew | apply IsS130.set_0 | apply IsS130.set_1 | apply IsS130.set_2 | apply IsS130.far (hne := NB289_298.out)) | apply IsS130.far (hne := NB289_298.out) | exact HI289.out)) hg (IsS130.own_ne HI289.out HO_5.out (by decide))); have n1_ := Aside0.mk (blk_grown (g := gb298) (o := .cells #[.string t299, .int .i64 (wrap64 (bt a0 x290001_1))] 123 (0, 0)) (by (with_reducible repeat (first | refine blk_drewN ?_ _ | refine blk_drew ?_ | refine blk_alloc ?_ _)); refine blk_put (cs := #[.string (⟨#[]⟩ : ByteArray), .int .i64 (wrap64 (bt a0 x290001_1))]) ?_ 0 _ rfl; (with_reducible repeat (first | refine blk_drewN ?_ _ | refine blk_drew ?_ | refine blk_alloc ?_ _)); exact BK298.out) hg (Kd.R_away HO_5.out (fun _ hk => hk.2))); have n2_ := Aside0.mk (hb); have n3_ := Aside0.mk (ho); clear HI289; clear BK298; clear HB; clear HO_5; have HI289 := n0_; have BK298 := n1_; have HB := n2_; have HO305 := n3_; clear n0_ n1_ n2_ n3_; clear ho hb hg hat))
                go_roundg k1
                case measure => have := HK1.out; omega
                case rel => exact ⟨(y303), (t300), (t301), (t302), H', ⟨by have := HK1.out; omega⟩, ⟨by (with_reducible repeat (first | apply Kd.R_alloc | apply Kd.R_drewN | apply Kd.R_drew)); exact Kd.R_mono HO305.out (fun _ hk => trivial)⟩, ⟨by repeat (first | (with_reducible first | exact HI289.out | apply IsS130.alloc | apply IsS130.drewN | apply IsS130.drew | apply IsS130.set_0 | apply IsS130.set_1 | apply IsS130.set_2 | apply IsS130.far (hne := NB289_298.out)) | apply IsS130.far (hne := NB289_298.out) | exact HI289.out)⟩, ⟨by repeat (first | (with_reducible first | exact HB.out | apply below_alloc | apply pw_below_drewN | apply below_drew1 | refine below_set ?_ (IsS130.ge HI289.out) | refine below_set ?_ GE298.out) | exact HB.out)⟩⟩
              · rw [if_neg c18] at H
                exact absurd H (by simp)
            · rw [if_neg c15] at H
              exact absurd H (by simp)
          · rw [if_neg c14] at H
            have c14b0 : decide ((x5_1.length : Int) ≤ 3) = false := decide_eq_false c14
            have c14b1 : decide (x5_1.length ≤ 3) = false := decide_eq_false (by omega)
            clear c14
            replace H := Option.bind_eq_some_iff.mp H
            obtain ⟨⟨t306, t307⟩, A280, H⟩ := H
            replace H : (if t307 = true then (if t306.toList = a0.toList then (some (x5_1, true)) else (some ((([] : List (S123))), false))) else (some ((([] : List (S123))), false))) = some (r1, r2) := H
            have A28 := Aside0.mk A280
            clear A280
            by_cases c29 : t307 = true
            · subst c29
              have H1 : (if t306.toList = a0.toList then (some (x5_1, true)) else (some ((([] : List (S123))), false))) = some (r1, r2) := by rw [if_pos rfl] at H; exact H
              clear H
              have H := H1
              clear H1
              by_cases c30 : t306.toList = a0.toList
              · rw [if_pos c30] at H
                have c30b0 : (t306.toList == a0.toList) = true := beq_iff_eq.mpr c30
                have c30b1 : (t306.toList != a0.toList) = false := bne_eq_false_iff_eq.mpr c30
                clear c30
                simp only [Option.some.injEq, Prod.mk.injEq] at H
                obtain ⟨rfl, rfl⟩ := H
                obtain ⟨HGz31, hgz31⟩ := HI289.out
                have hcz31_0 := cellS130_0 HGz31
                have hcz31_1 := cellS130_1 HGz31
                have hcz31_2 := cellS130_2 HGz31
                have hfz31_0 := blk_frozen HGz31 0
                have hfz31_1 := blk_frozen HGz31 1
                have hfz31_2 := blk_frozen HGz31 2
                clear HGz31 hgz31
                obtain ⟨Ao32, co32, eo32⟩ := Kd.R_slice HO_5.out
                subst eo32
                go_wp2_with (first | ((with_reducible refine gate_callee (f := 105) rfl ?_); refine goesL_ (some 57) rfl rfl Try.func105 (by kernel_rfl) rfl #[.slice Ao32 x5_1.length co32] rfl (by (try simp only [List.map_toArray, List.map_cons, List.map_nil]); first | done | rfl | (simp only [List.length_drop, List.length_take]; rfl)) ?_; (with_reducible refine (spec_SchemaText.calls k1 _ _ x5_1 t306 true _ ?side1 ?side2 A28.out).mono ?_); (case side1 => repeat (first | exact (Kd.R_reads' HO_5.out).2.2 | (with_reducible refine Kd.C_alloc ?_ _) | (with_reducible refine Kd.C_drewN ?_ _) | (with_reducible refine Kd.C_drew ?_))); (case side2 => exact (Kd.R_reads' HO_5.out).2.1); rintro e w33 ⟨rfl, hb⟩; refine ⟨_, rfl, ?_⟩; have n0_ := Aside0.mk (Kd.R_below (by (with_reducible repeat (first | apply Kd.R_alloc | apply Kd.R_drewN | apply Kd.R_drew)); exact HO_5.out) hb); have n1_ := Aside0.mk (IsS130.below (by repeat (first | (with_reducible first | exact HI289.out | apply IsS130.alloc | apply IsS130.drewN | apply IsS130.drew | apply IsS130.set_0 | apply IsS130.set_1 | apply IsS130.set_2) | exact HI289.out)) hb); have n2_ := Aside0.mk (below_step (by repeat (first | (with_reducible first | exact HB.out | apply below_alloc | apply pw_below_drewN | apply below_drew1 | refine below_set ?_ (IsS130.ge HI289.out)) | exact HB.out)) hb); clear HO_5; clear HI289; clear HB; have HO_5 := n0_; have HI289 := n1_; have HB := n2_; clear n0_ n1_ n2_; (try clear hb); (try clear hb2); (try clear hk); (try clear hi); obtain ⟨HGz34, hgz34⟩ := HI289.out; have hcz34_0 := cellS130_0 HGz34; have hcz34_1 := cellS130_1 HGz34; have hcz34_2 := cellS130_2 HGz34; have hfz34_0 := blk_frozen HGz34 0; have hfz34_1 := blk_frozen HGz34 1; have hfz34_2 := blk_frozen HGz34 2; clear HGz34 hgz34))
                go_ret2
                exact ⟨_, by first | rfl | (simp [errW_none, errW_some] <;> rfl) | (simp [*, errW_none, errW_some] <;> rfl), by (with_reducible repeat (first | apply Kd.R_alloc | apply Kd.R_drewN | apply Kd.R_drew)); exact HO_5.out, by repeat (first | (with_reducible first | exact HB.out | apply below_alloc | apply pw_below_drewN | apply below_drew1 | refine below_set ?_ (IsS130.ge HI289.out)) | exact HB.out)⟩
              · rw [if_neg c30] at H
                have c30b0 : (t306.toList == a0.toList) = false := beq_eq_false_iff_ne.mpr c30
                have c30b1 : (t306.toList != a0.toList) = true := bne_iff_ne.mpr c30
                obtain ⟨y308, hy308⟩ : ∃ y_ : List (S123), y_ = (([] : List (S123))) := ⟨_, rfl⟩
                replace H : (some (y308, false)) = some (r1, r2) := by first | (rw [hy308]; with_reducible exact H) | (have H2_ := (Option.bind_some _ _).symm.trans H; rw [hy308]; with_reducible exact H2_) | (have H2_ := (Option.bind_some _ _).symm.trans H; with_reducible exact H2_) | with_reducible exact H | (rw [hy308]; exact H) | exact H
                have Ny308 := Aside0.mk hy308
                clear hy308
                simp only [Option.some.injEq, Prod.mk.injEq] at H
                obtain ⟨rfl, rfl⟩ := H
                obtain ⟨HGz35, hgz35⟩ := HI289.out
                have hcz35_0 := cellS130_0 HGz35
                have hcz35_1 := cellS130_1 HGz35
                have hcz35_2 := cellS130_2 HGz35
                have hfz35_0 := blk_frozen HGz35 0
                have hfz35_1 := blk_frozen HGz35 1
                have hfz35_2 := blk_frozen HGz35 2
                clear HGz35 hgz35
                obtain ⟨Ao36, co36, eo36⟩ := Kd.R_slice HO_5.out
                subst eo36
                go_wp2_with (first | ((with_reducible refine gate_callee (f := 105) rfl ?_); refine goesL_ (some 57) rfl rfl Try.func105 (by kernel_rfl) rfl #[.slice Ao36 x5_1.length co36] rfl (by (try simp only [List.map_toArray, List.map_cons, List.map_nil]); first | done | rfl | (simp only [List.length_drop, List.length_take]; rfl)) ?_; (with_reducible refine (spec_SchemaText.calls k1 _ _ x5_1 t306 true _ ?side1 ?side2 A28.out).mono ?_); (case side1 => repeat (first | exact (Kd.R_reads' HO_5.out).2.2 | (with_reducible refine Kd.C_alloc ?_ _) | (with_reducible refine Kd.C_drewN ?_ _) | (with_reducible refine Kd.C_drew ?_))); (case side2 => exact (Kd.R_reads' HO_5.out).2.1); rintro e w37 ⟨rfl, hb⟩; refine ⟨_, rfl, ?_⟩; have n0_ := Aside0.mk (Kd.R_below (by (with_reducible repeat (first | apply Kd.R_alloc | apply Kd.R_drewN | apply Kd.R_drew)); exact HO_5.out) hb); have n1_ := Aside0.mk (IsS130.below (by repeat (first | (with_reducible first | exact HI289.out | apply IsS130.alloc | apply IsS130.drewN | apply IsS130.drew | apply IsS130.set_0 | apply IsS130.set_1 | apply IsS130.set_2) | exact HI289.out)) hb); have n2_ := Aside0.mk (below_step (by repeat (first | (with_reducible first | exact HB.out | apply below_alloc | apply pw_below_drewN | apply below_drew1 | refine below_set ?_ (IsS130.ge HI289.out)) | exact HB.out)) hb); clear HO_5; clear HI289; clear HB; have HO_5 := n0_; have HI289 := n1_; have HB := n2_; clear n0_ n1_ n2_; (try clear hb); (try clear hb2); (try clear hk); (try clear hi); obtain ⟨HGz38, hgz38⟩ := HI289.out; have hcz38_0 := cellS130_0 HGz38; have hcz38_1 := cellS130_1 HGz38; have hcz38_2 := cellS130_2 HGz38; have hfz38_0 := blk_frozen HGz38 0; have hfz38_1 := blk_frozen HGz38 1; have hfz38_2 := blk_frozen HGz38 2; clear HGz38 hgz38) | ((with_reducible refine gate_dst (N := 73) rfl ?_); (try (refine gate_guard (by rfl) ?_; dsimp only)); refine Kd.R_lit k123 _ 123 ?hg (N := 73) ?hd (xs := ([] : List (S123))) (inner := []) (ok := fun _ => True) (okp := fun _ => True) ?hr ?hp (fun _ hk => hk) trivial (Below.refl _ _) (Nat.le_refl _) (by simp) ?_; (case hd => rfl); (case hg => rfl); (case hr => first | (go_simp; done) | (go_simp; rfl)); (case hp => exact (Reps.none _ _)); intro v309 w39 ho40 hb hg_ hnew_; clear hg_ hnew_; (first | rw [← Ny308.out] at ho40 | (simp only [Int.reduceToNat] at ho40; rw [← Ny308.out] at ho40)); have n0_ := Aside0.mk (Kd.R_elder' (by (with_reducible repeat (first | apply Kd.R_alloc | apply Kd.R_drewN | apply Kd.R_drew)); exact HO_5.out) (Kd.R_base ho40) hb); have n1_ := Aside0.mk (Kd.R_lower (Kd.R_new' ho40 (Kd.R_lt (by (with_reducible repeat (first | apply Kd.R_alloc | apply Kd.R_drewN | apply Kd.R_drew)); exact HO_5.out))) (below_size (by repeat (first | (with_reducible first | exact HB.out | apply below_alloc | apply pw_below_drewN | apply below_drew1 | refine below_set ?_ (IsS130.ge HI289.out)) | exact HB.out)))); have n2_ := Aside0.mk (IsS130.below (by repeat (first | (with_reducible first | exact HI289.out | apply IsS130.alloc | apply IsS130.drewN | apply IsS130.drew | apply IsS130.set_0 | apply IsS130.set_1 | apply IsS130.set_2) | exact HI289.out)) hb); have n3_ := Aside0.mk (below_step (by repeat (first | (with_reducible first | exact HB.out | apply below_alloc | apply pw_below_drewN | apply below_drew1 | refine below_set ?_ (IsS130.ge HI289.out)) | exact HB.out)) hb); clear HO_5; clear HI289; clear HB; have HO_5 := n0_; have HO310 := n1_; have HI289 := n2_; have HB := n3_; clear n0_ n1_ n2_ n3_; clear hb ho40))
                go_ret2
                exact ⟨_, by first | rfl | (simp [errW_none, errW_some] <;> rfl) | (simp [*, errW_none, errW_some] <;> rfl), by (with_reducible repeat (first | apply Kd.R_alloc | apply Kd.R_drewN | apply Kd.R_drew)); exact Kd.R_mono HO310.out (fun _ hk => trivial), by repeat (first | (with_reducible first | exact HB.out | apply below_alloc | apply pw_below_drewN | apply below_drew1 | refine below_set ?_ (IsS130.ge HI289.out)) | exact HB.out)⟩
            · replace c29 := Bool.eq_false_iff.mpr c29
              subst c29
              have H1 : (some ((([] : List (S123))), false)) = some (r1, r2) := by rw [if_neg (show ¬ (false = true) by decide)] at H; exact H
              clear H
              have H := H1
              clear H1
              obtain ⟨y311, hy311⟩ : ∃ y_ : List (S123), y_ = (([] : List (S123))) := ⟨_, rfl⟩
              replace H : (some (y311, false)) = some (r1, r2) := by first | (rw [hy311]; with_reducible exact H) | (have H2_ := (Option.bind_some _ _).symm.trans H; rw [hy311]; with_reducible exact H2_) | (have H2_ := (Option.bind_some _ _).symm.trans H; with_reducible exact H2_) | with_reducible exact H | (rw [hy311]; exact H) | exact H
              have Ny311 := Aside0.mk hy311
              clear hy311
              simp only [Option.some.injEq, Prod.mk.injEq] at H
              obtain ⟨rfl, rfl⟩ := H
              obtain ⟨HGz41, hgz41⟩ := HI289.out
              have hcz41_0 := cellS130_0 HGz41
              have hcz41_1 := cellS130_1 HGz41
              have hcz41_2 := cellS130_2 HGz41
              have hfz41_0 := blk_frozen HGz41 0
              have hfz41_1 := blk_frozen HGz41 1
              have hfz41_2 := blk_frozen HGz41 2
              clear HGz41 hgz41
              obtain ⟨Ao42, co42, eo42⟩ := Kd.R_slice HO_5.out
              subst eo42
              go_wp2_with (first | ((with_reducible refine gate_callee (f := 105) rfl ?_); refine goesL_ (some 57) rfl rfl Try.func105 (by kernel_rfl) rfl #[.slice Ao42 x5_1.length co42] rfl (by (try simp only [List.map_toArray, List.map_cons, List.map_nil]); first | done | rfl | (simp only [List.length_drop, List.length_take]; rfl)) ?_; (with_reducible refine (spec_SchemaText.calls k1 _ _ x5_1 t306 false _ ?side1 ?side2 A28.out).mono ?_); (case side1 => repeat (first | exact (Kd.R_reads' HO_5.out).2.2 | (with_reducible refine Kd.C_alloc ?_ _) | (with_reducible refine Kd.C_drewN ?_ _) | (with_reducible refine Kd.C_drew ?_))); (case side2 => exact (Kd.R_reads' HO_5.out).2.1); rintro e w43 ⟨rfl, hb⟩; refine ⟨_, rfl, ?_⟩; have n0_ := Aside0.mk (Kd.R_below (by (with_reducible repeat (first | apply Kd.R_alloc | apply Kd.R_drewN | apply Kd.R_drew)); exact HO_5.out) hb); have n1_ := Aside0.mk (IsS130.below (by repeat (first | (with_reducible first | exact HI289.out | apply IsS130.alloc | apply IsS130.drewN | apply IsS130.drew | apply IsS130.set_0 | apply IsS130.set_1 | apply IsS130.set_2) | exact HI289.out)) hb); have n2_ := Aside0.mk (below_step (by repeat (first | (with_reducible first | exact HB.out | apply below_alloc | apply pw_below_drewN | apply below_drew1 | refine below_set ?_ (IsS130.ge HI289.out)) | exact HB.out)) hb); clear HO_5; clear HI289; clear HB; have HO_5 := n0_; have HI289 := n1_; have HB := n2_; clear n0_ n1_ n2_; (try clear hb); (try clear hb2); (try clear hk); (try clear hi); obtain ⟨HGz44, hgz44⟩ := HI289.out; have hcz44_0 := cellS130_0 HGz44; have hcz44_1 := cellS130_1 HGz44; have hcz44_2 := cellS130_2 HGz44; have hfz44_0 := blk_frozen HGz44 0; have hfz44_1 := blk_frozen HGz44 1; have hfz44_2 := blk_frozen HGz44 2; clear HGz44 hgz44) | ((with_reducible refine gate_dst (N := 73) rfl ?_); (try (refine gate_guard (by rfl) ?_; dsimp only)); refine Kd.R_lit k123 _ 123 ?hg (N := 73) ?hd (xs := ([] : List (S123))) (inner := []) (ok := fun _ => True) (okp := fun _ => True) ?hr ?hp (fun _ hk => hk) trivial (Below.refl _ _) (Nat.le_refl _) (by simp) ?_; (case hd => rfl); (case hg => rfl); (case hr => first | (go_simp; done) | (go_simp; rfl)); (case hp => exact (Reps.none _ _)); intro v312 w45 ho46 hb hg_ hnew_; clear hg_ hnew_; (first | rw [← Ny311.out] at ho46 | (simp only [Int.reduceToNat] at ho46; rw [← Ny311.out] at ho46)); have n0_ := Aside0.mk (Kd.R_elder' (by (with_reducible repeat (first | apply Kd.R_alloc | apply Kd.R_drewN | apply Kd.R_drew)); exact HO_5.out) (Kd.R_base ho46) hb); have n1_ := Aside0.mk (Kd.R_lower (Kd.R_new' ho46 (Kd.R_lt (by (with_reducible repeat (first | apply Kd.R_alloc | apply Kd.R_drewN | apply Kd.R_drew)); exact HO_5.out))) (below_size (by repeat (first | (with_reducible first | exact HB.out | apply below_alloc | apply pw_below_drewN | apply below_drew1 | refine below_set ?_ (IsS130.ge HI289.out)) | exact HB.out)))); have n2_ := Aside0.mk (IsS130.below (by repeat (first | (with_reducible first | exact HI289.out | apply IsS130.alloc | apply IsS130.drewN | apply IsS130.drew | apply IsS130.set_0 | apply IsS130.set_1 | apply IsS130.set_2) | exact HI289.out)) hb); have n3_ := Aside0.mk (below_step (by repeat (first | (with_reducible first | exact HB.out | apply below_alloc | apply pw_below_drewN | apply below_drew1 | refine below_set ?_ (IsS130.ge HI289.out)) | exact HB.out)) hb); clear HO_5; clear HI289; clear HB; have HO_5 := n0_; have HO313 := n1_; have HI289 := n2_; have HB := n3_; clear n0_ n1_ n2_ n3_; clear hb ho46))
              go_ret2
              exact ⟨_, by first | rfl | (simp [errW_none, errW_some] <;> rfl) | (simp [*, errW_none, errW_some] <;> rfl), by (with_reducible repeat (first | apply Kd.R_alloc | apply Kd.R_drewN | apply Kd.R_drew)); exact Kd.R_mono HO313.out (fun _ hk => trivial), by repeat (first | (with_reducible first | exact HB.out | apply below_alloc | apply pw_below_drewN | apply below_drew1 | refine below_set ?_ (IsS130.ge HI289.out)) | exact HB.out)⟩
      · rw [if_neg c5] at H
        have c5b0 : decide (x290001_1 < (a0.size : Int)) = false := decide_eq_false c5
        clear c5
        replace H := Option.bind_eq_some_iff.mp H
        obtain ⟨⟨t314, t315⟩, A470, H⟩ := H
        replace H : (if x290002_1 = true then (some ((([] : List (S123))), false)) else (if t315 = true then (if t314.toList = a0.toList then (some (x5_1, true)) else (some ((([] : List (S123))), false))) else (some ((([] : List (S123))), false)))) = some (r1, r2) := H
        have A47 := Aside0.mk A470
        clear A470
        by_cases c48 : x290002_1 = true
        · subst c48
          have H1 : (some ((([] : List (S123))), false)) = some (r1, r2) := by rw [if_pos rfl] at H; exact H
          clear H
          have H := H1
          clear H1
          obtain ⟨y316, hy316⟩ : ∃ y_ : List (S123), y_ = (([] : List (S123))) := ⟨_, rfl⟩
          replace H : (some (y316, false)) = some (r1, r2) := by first | (rw [hy316]; with_reducible exact H) | (have H2_ := (Option.bind_some _ _).symm.trans H; rw [hy316]; with_reducible exact H2_) | (have H2_ := (Option.bind_some _ _).symm.trans H; with_reducible exact H2_) | with_reducible exact H | (rw [hy316]; exact H) | exact H
          have Ny316 := Aside0.mk hy316
          clear hy316
          simp only [Option.some.injEq, Prod.mk.injEq] at H
          obtain ⟨rfl, rfl⟩ := H
          obtain ⟨HGz49, hgz49⟩ := HI289.out
          have hcz49_0 := cellS130_0 HGz49
          have hcz49_1 := cellS130_1 HGz49
          have hcz49_2 := cellS130_2 HGz49
          have hfz49_0 := blk_frozen HGz49 0
          have hfz49_1 := blk_frozen HGz49 1
          have hfz49_2 := blk_frozen HGz49 2
          clear HGz49 hgz49
          obtain ⟨Ao50, co50, eo50⟩ := Kd.R_slice HO_5.out
          subst eo50
          go_wp2_with (first | ((with_reducible refine gate_callee (f := 105) rfl ?_); refine goesL_ (some 57) rfl rfl Try.func105 (by kernel_rfl) rfl #[.slice Ao50 x5_1.length co50] rfl (by (try simp only [List.map_toArray, List.map_cons, List.map_nil]); first | done | rfl | (simp only [List.length_drop, List.length_take]; rfl)) ?_; (with_reducible refine (spec_SchemaText.calls k1 _ _ x5_1 t314 t315 _ ?side1 ?side2 A47.out).mono ?_); (case side1 => repeat (first | exact (Kd.R_reads' HO_5.out).2.2 | (with_reducible refine Kd.C_alloc ?_ _) | (with_reducible refine Kd.C_drewN ?_ _) | (with_reducible refine Kd.C_drew ?_))); (case side2 => exact (Kd.R_reads' HO_5.out).2.1); rintro e w51 ⟨rfl, hb⟩; refine ⟨_, rfl, ?_⟩; have n0_ := Aside0.mk (Kd.R_below (by (with_reducible repeat (first | apply Kd.R_alloc | apply Kd.R_drewN | apply Kd.R_drew)); exact HO_5.out) hb); have n1_ := Aside0.mk (IsS130.below (by repeat (first | (with_reducible first | exact HI289.out | apply IsS130.alloc | apply IsS130.drewN | apply IsS130.drew | apply IsS130.set_0 | apply IsS130.set_1 | apply IsS130.set_2) | exact HI289.out)) hb); have n2_ := Aside0.mk (below_step (by repeat (first | (with_reducible first | exact HB.out | apply below_alloc | apply pw_below_drewN | apply below_drew1 | refine below_set ?_ (IsS130.ge HI289.out)) | exact HB.out)) hb); clear HO_5; clear HI289; clear HB; have HO_5 := n0_; have HI289 := n1_; have HB := n2_; clear n0_ n1_ n2_; (try clear hb); (try clear hb2); (try clear hk); (try clear hi); obtain ⟨HGz52, hgz52⟩ := HI289.out; have hcz52_0 := cellS130_0 HGz52; have hcz52_1 := cellS130_1 HGz52; have hcz52_2 := cellS130_2 HGz52; have hfz52_0 := blk_frozen HGz52 0; have hfz52_1 := blk_frozen HGz52 1; have hfz52_2 := blk_frozen HGz52 2; clear HGz52 hgz52) | ((with_reducible refine gate_dst (N := 73) rfl ?_); (try (refine gate_guard (by rfl) ?_; dsimp only)); refine Kd.R_lit k123 _ 123 ?hg (N := 73) ?hd (xs := ([] : List (S123))) (inner := []) (ok := fun _ => True) (okp := fun _ => True) ?hr ?hp (fun _ hk => hk) trivial (Below.refl _ _) (Nat.le_refl _) (by simp) ?_; (case hd => rfl); (case hg => rfl); (case hr => first | (go_simp; done) | (go_simp; rfl)); (case hp => exact (Reps.none _ _)); intro v317 w53 ho54 hb hg_ hnew_; clear hg_ hnew_; (first | rw [← Ny316.out] at ho54 | (simp only [Int.reduceToNat] at ho54; rw [← Ny316.out] at ho54)); have n0_ := Aside0.mk (Kd.R_elder' (by (with_reducible repeat (first | apply Kd.R_alloc | apply Kd.R_drewN | apply Kd.R_drew)); exact HO_5.out) (Kd.R_base ho54) hb); have n1_ := Aside0.mk (Kd.R_lower (Kd.R_new' ho54 (Kd.R_lt (by (with_reducible repeat (first | apply Kd.R_alloc | apply Kd.R_drewN | apply Kd.R_drew)); exact HO_5.out))) (below_size (by repeat (first | (with_reducible first | exact HB.out | apply below_alloc | apply pw_below_drewN | apply below_drew1 | refine below_set ?_ (IsS130.ge HI289.out)) | exact HB.out)))); have n2_ := Aside0.mk (IsS130.below (by repeat (first | (with_reducible first | exact HI289.out | apply IsS130.alloc | apply IsS130.drewN | apply IsS130.drew | apply IsS130.set_0 | apply IsS130.set_1 | apply IsS130.set_2) | exact HI289.out)) hb); have n3_ := Aside0.mk (below_step (by repeat (first | (with_reducible first | exact HB.out | apply below_alloc | apply pw_below_drewN | apply below_drew1 | refine below_set ?_ (IsS130.ge HI289.out)) | exact HB.out)) hb); clear HO_5; clear HI289; clear HB; have HO_5 := n0_; have HO318 := n1_; have HI289 := n2_; have HB := n3_; clear n0_ n1_ n2_ n3_; clear hb ho54))
          go_ret2
          exact ⟨_, by first | rfl | (simp [errW_none, errW_some] <;> rfl) | (simp [*, errW_none, errW_some] <;> rfl), by (with_reducible repeat (first | apply Kd.R_alloc | apply Kd.R_drewN | apply Kd.R_drew)); exact Kd.R_mono HO318.out (fun _ hk => trivial), by repeat (first | (with_reducible first | exact HB.out | apply below_alloc | apply pw_below_drewN | apply below_drew1 | refine below_set ?_ (IsS130.ge HI289.out)) | exact HB.out)⟩
        · replace c48 := Bool.eq_false_iff.mpr c48
          subst c48
          have H1 : (if t315 = true then (if t314.toList = a0.toList then (some (x5_1, true)) else (some ((([] : List (S123))), false))) else (some ((([] : List (S123))), false))) = some (r1, r2) := by rw [if_neg (show ¬ (false = true) by decide)] at H; exact H
          clear H
          have H := H1
          clear H1
          by_cases c55 : t315 = true
          · subst c55
            have H1 : (if t314.toList = a0.toList then (some (x5_1, true)) else (some ((([] : List (S123))), false))) = some (r1, r2) := by rw [if_pos rfl] at H; exact H
            clear H
            have H := H1
            clear H1
            by_cases c56 : t314.toList = a0.toList
            · rw [if_pos c56] at H
              have c56b0 : (t314.toList == a0.toList) = true := beq_iff_eq.mpr c56
              have c56b1 : (t314.toList != a0.toList) = false := bne_eq_false_iff_eq.mpr c56
              clear c56
              simp only [Option.some.injEq, Prod.mk.injEq] at H
              obtain ⟨rfl, rfl⟩ := H
              obtain ⟨HGz57, hgz57⟩ := HI289.out
              have hcz57_0 := cellS130_0 HGz57
              have hcz57_1 := cellS130_1 HGz57
              have hcz57_2 := cellS130_2 HGz57
              have hfz57_0 := blk_frozen HGz57 0
              have hfz57_1 := blk_frozen HGz57 1
              have hfz57_2 := blk_frozen HGz57 2
              clear HGz57 hgz57
              obtain ⟨Ao58, co58, eo58⟩ := Kd.R_slice HO_5.out
              subst eo58
              go_wp2_with (first | ((with_reducible refine gate_callee (f := 105) rfl ?_); refine goesL_ (some 57) rfl rfl Try.func105 (by kernel_rfl) rfl #[.slice Ao58 x5_1.length co58] rfl (by (try simp only [List.map_toArray, List.map_cons, List.map_nil]); first | done | rfl | (simp only [List.length_drop, List.length_take]; rfl)) ?_; (with_reducible refine (spec_SchemaText.calls k1 _ _ x5_1 t314 true _ ?side1 ?side2 A47.out).mono ?_); (case side1 => repeat (first | exact (Kd.R_reads' HO_5.out).2.2 | (with_reducible refine Kd.C_alloc ?_ _) | (with_reducible refine Kd.C_drewN ?_ _) | (with_reducible refine Kd.C_drew ?_))); (case side2 => exact (Kd.R_reads' HO_5.out).2.1); rintro e w59 ⟨rfl, hb⟩; refine ⟨_, rfl, ?_⟩; have n0_ := Aside0.mk (Kd.R_below (by (with_reducible repeat (first | apply Kd.R_alloc | apply Kd.R_drewN | apply Kd.R_drew)); exact HO_5.out) hb); have n1_ := Aside0.mk (IsS130.below (by repeat (first | (with_reducible first | exact HI289.out | apply IsS130.alloc | apply IsS130.drewN | apply IsS130.drew | apply IsS130.set_0 | apply IsS130.set_1 | apply IsS130.set_2) | exact HI289.out)) hb); have n2_ := Aside0.mk (below_step (by repeat (first | (with_reducible first | exact HB.out | apply below_alloc | apply pw_below_drewN | apply below_drew1 | refine below_set ?_ (IsS130.ge HI289.out)) | exact HB.out)) hb); clear HO_5; clear HI289; clear HB; have HO_5 := n0_; have HI289 := n1_; have HB := n2_; clear n0_ n1_ n2_; (try clear hb); (try clear hb2); (try clear hk); (try clear hi); obtain ⟨HGz60, hgz60⟩ := HI289.out; have hcz60_0 := cellS130_0 HGz60; have hcz60_1 := cellS130_1 HGz60; have hcz60_2 := cellS130_2 HGz60; have hfz60_0 := blk_frozen HGz60 0; have hfz60_1 := blk_frozen HGz60 1; have hfz60_2 := blk_frozen HGz60 2; clear HGz60 hgz60))
              go_ret2
              exact ⟨_, by first | rfl | (simp [errW_none, errW_some] <;> rfl) | (simp [*, errW_none, errW_some] <;> rfl), by (with_reducible repeat (first | apply Kd.R_alloc | apply Kd.R_drewN | apply Kd.R_drew)); exact HO_5.out, by repeat (first | (with_reducible first | exact HB.out | apply below_alloc | apply pw_below_drewN | apply below_drew1 | refine below_set ?_ (IsS130.ge HI289.out)) | exact HB.out)⟩
            · rw [if_neg c56] at H
              have c56b0 : (t314.toList == a0.toList) = false := beq_eq_false_iff_ne.mpr c56
              have c56b1 : (t314.toList != a0.toList) = true := bne_iff_ne.mpr c56
              obtain ⟨y319, hy319⟩ : ∃ y_ : List (S123), y_ = (([] : List (S123))) := ⟨_, rfl⟩
              replace H : (some (y319, false)) = some (r1, r2) := by first | (rw [hy319]; with_reducible exact H) | (have H2_ := (Option.bind_some _ _).symm.trans H; rw [hy319]; with_reducible exact H2_) | (have H2_ := (Option.bind_some _ _).symm.trans H; with_reducible exact H2_) | with_reducible exact H | (rw [hy319]; exact H) | exact H
              have Ny319 := Aside0.mk hy319
              clear hy319
              simp only [Option.some.injEq, Prod.mk.injEq] at H
              obtain ⟨rfl, rfl⟩ := H
              obtain ⟨HGz61, hgz61⟩ := HI289.out
              have hcz61_0 := cellS130_0 HGz61
              have hcz61_1 := cellS130_1 HGz61
              have hcz61_2 := cellS130_2 HGz61
              have hfz61_0 := blk_frozen HGz61 0
              have hfz61_1 := blk_frozen HGz61 1
              have hfz61_2 := blk_frozen HGz61 2
              clear HGz61 hgz61
              obtain ⟨Ao62, co62, eo62⟩ := Kd.R_slice HO_5.out
              subst eo62
              go_wp2_with (first | ((with_reducible refine gate_callee (f := 105) rfl ?_); refine goesL_ (some 57) rfl rfl Try.func105 (by kernel_rfl) rfl #[.slice Ao62 x5_1.length co62] rfl (by (try simp only [List.map_toArray, List.map_cons, List.map_nil]); first | done | rfl | (simp only [List.length_drop, List.length_take]; rfl)) ?_; (with_reducible refine (spec_SchemaText.calls k1 _ _ x5_1 t314 true _ ?side1 ?side2 A47.out).mono ?_); (case side1 => repeat (first | exact (Kd.R_reads' HO_5.out).2.2 | (with_reducible refine Kd.C_alloc ?_ _) | (with_reducible refine Kd.C_drewN ?_ _) | (with_reducible refine Kd.C_drew ?_))); (case side2 => exact (Kd.R_reads' HO_5.out).2.1); rintro e w63 ⟨rfl, hb⟩; refine ⟨_, rfl, ?_⟩; have n0_ := Aside0.mk (Kd.R_below (by (with_reducible repeat (first | apply Kd.R_alloc | apply Kd.R_drewN | apply Kd.R_drew)); exact HO_5.out) hb); have n1_ := Aside0.mk (IsS130.below (by repeat (first | (with_reducible first | exact HI289.out | apply IsS130.alloc | apply IsS130.drewN | apply IsS130.drew | apply IsS130.set_0 | apply IsS130.set_1 | apply IsS130.set_2) | exact HI289.out)) hb); have n2_ := Aside0.mk (below_step (by repeat (first | (with_reducible first | exact HB.out | apply below_alloc | apply pw_below_drewN | apply below_drew1 | refine below_set ?_ (IsS130.ge HI289.out)) | exact HB.out)) hb); clear HO_5; clear HI289; clear HB; have HO_5 := n0_; have HI289 := n1_; have HB := n2_; clear n0_ n1_ n2_; (try clear hb); (try clear hb2); (try clear hk); (try clear hi); obtain ⟨HGz64, hgz64⟩ := HI289.out; have hcz64_0 := cellS130_0 HGz64; have hcz64_1 := cellS130_1 HGz64; have hcz64_2 := cellS130_2 HGz64; have hfz64_0 := blk_frozen HGz64 0; have hfz64_1 := blk_frozen HGz64 1; have hfz64_2 := blk_frozen HGz64 2; clear HGz64 hgz64) | ((with_reducible refine gate_dst (N := 73) rfl ?_); (try (refine gate_guard (by rfl) ?_; dsimp only)); refine Kd.R_lit k123 _ 123 ?hg (N := 73) ?hd (xs := ([] : List (S123))) (inner := []) (ok := fun _ => True) (okp := fun _ => True) ?hr ?hp (fun _ hk => hk) trivial (Below.refl _ _) (Nat.le_refl _) (by simp) ?_; (case hd => rfl); (case hg => rfl); (case hr => first | (go_simp; done) | (go_simp; rfl)); (case hp => exact (Reps.none _ _)); intro v320 w65 ho66 hb hg_ hnew_; clear hg_ hnew_; (first | rw [← Ny319.out] at ho66 | (simp only [Int.reduceToNat] at ho66; rw [← Ny319.out] at ho66)); have n0_ := Aside0.mk (Kd.R_elder' (by (with_reducible repeat (first | apply Kd.R_alloc | apply Kd.R_drewN | apply Kd.R_drew)); exact HO_5.out) (Kd.R_base ho66) hb); have n1_ := Aside0.mk (Kd.R_lower (Kd.R_new' ho66 (Kd.R_lt (by (with_reducible repeat (first | apply Kd.R_alloc | apply Kd.R_drewN | apply Kd.R_drew)); exact HO_5.out))) (below_size (by repeat (first | (with_reducible first | exact HB.out | apply below_alloc | apply pw_below_drewN | apply below_drew1 | refine below_set ?_ (IsS130.ge HI289.out)) | exact HB.out)))); have n2_ := Aside0.mk (IsS130.below (by repeat (first | (with_reducible first | exact HI289.out | apply IsS130.alloc | apply IsS130.drewN | apply IsS130.drew | apply IsS130.set_0 | apply IsS130.set_1 | apply IsS130.set_2) | exact HI289.out)) hb); have n3_ := Aside0.mk (below_step (by repeat (first | (with_reducible first | exact HB.out | apply below_alloc | apply pw_below_drewN | apply below_drew1 | refine below_set ?_ (IsS130.ge HI289.out)) | exact HB.out)) hb); clear HO_5; clear HI289; clear HB; have HO_5 := n0_; have HO321 := n1_; have HI289 := n2_; have HB := n3_; clear n0_ n1_ n2_ n3_; clear hb ho66))
              go_ret2
              exact ⟨_, by first | rfl | (simp [errW_none, errW_some] <;> rfl) | (simp [*, errW_none, errW_some] <;> rfl), by (with_reducible repeat (first | apply Kd.R_alloc | apply Kd.R_drewN | apply Kd.R_drew)); exact Kd.R_mono HO321.out (fun _ hk => trivial), by repeat (first | (with_reducible first | exact HB.out | apply below_alloc | apply pw_below_drewN | apply below_drew1 | refine below_set ?_ (IsS130.ge HI289.out)) | exact HB.out)⟩
          · replace c55 := Bool.eq_false_iff.mpr c55
            subst c55
            have H1 : (some ((([] : List (S123))), false)) = some (r1, r2) := by rw [if_neg (show ¬ (false = true) by decide)] at H; exact H
            clear H
            have H := H1
            clear H1
            obtain ⟨y322, hy322⟩ : ∃ y_ : List (S123), y_ = (([] : List (S123))) := ⟨_, rfl⟩
            replace H : (some (y322, false)) = some (r1, r2) := by first | (rw [hy322]; with_reducible exact H) | (have H2_ := (Option.bind_some _ _).symm.trans H; rw [hy322]; with_reducible exact H2_) | (have H2_ := (Option.bind_some _ _).symm.trans H; with_reducible exact H2_) | with_reducible exact H | (rw [hy322]; exact H) | exact H
            have Ny322 := Aside0.mk hy322
            clear hy322
            simp only [Option.some.injEq, Prod.mk.injEq] at H
            obtain ⟨rfl, rfl⟩ := H
            obtain ⟨HGz67, hgz67⟩ := HI289.out
            have hcz67_0 := cellS130_0 HGz67
            have hcz67_1 := cellS130_1 HGz67
            have hcz67_2 := cellS130_2 HGz67
            have hfz67_0 := blk_frozen HGz67 0
            have hfz67_1 := blk_frozen HGz67 1
            have hfz67_2 := blk_frozen HGz67 2
            clear HGz67 hgz67
            obtain ⟨Ao68, co68, eo68⟩ := Kd.R_slice HO_5.out
            subst eo68
            go_wp2_with (first | ((with_reducible refine gate_callee (f := 105) rfl ?_); refine goesL_ (some 57) rfl rfl Try.func105 (by kernel_rfl) rfl #[.slice Ao68 x5_1.length co68] rfl (by (try simp only [List.map_toArray, List.map_cons, List.map_nil]); first | done | rfl | (simp only [List.length_drop, List.length_take]; rfl)) ?_; (with_reducible refine (spec_SchemaText.calls k1 _ _ x5_1 t314 false _ ?side1 ?side2 A47.out).mono ?_); (case side1 => repeat (first | exact (Kd.R_reads' HO_5.out).2.2 | (with_reducible refine Kd.C_alloc ?_ _) | (with_reducible refine Kd.C_drewN ?_ _) | (with_reducible refine Kd.C_drew ?_))); (case side2 => exact (Kd.R_reads' HO_5.out).2.1); rintro e w69 ⟨rfl, hb⟩; refine ⟨_, rfl, ?_⟩; have n0_ := Aside0.mk (Kd.R_below (by (with_reducible repeat (first | apply Kd.R_alloc | apply Kd.R_drewN | apply Kd.R_drew)); exact HO_5.out) hb); have n1_ := Aside0.mk (IsS130.below (by repeat (first | (with_reducible first | exact HI289.out | apply IsS130.alloc | apply IsS130.drewN | apply IsS130.drew | apply IsS130.set_0 | apply IsS130.set_1 | apply IsS130.set_2) | exact HI289.out)) hb); have n2_ := Aside0.mk (below_step (by repeat (first | (with_reducible first | exact HB.out | apply below_alloc | apply pw_below_drewN | apply below_drew1 | refine below_set ?_ (IsS130.ge HI289.out)) | exact HB.out)) hb); clear HO_5; clear HI289; clear HB; have HO_5 := n0_; have HI289 := n1_; have HB := n2_; clear n0_ n1_ n2_; (try clear hb); (try clear hb2); (try clear hk); (try clear hi); obtain ⟨HGz70, hgz70⟩ := HI289.out; have hcz70_0 := cellS130_0 HGz70; have hcz70_1 := cellS130_1 HGz70; have hcz70_2 := cellS130_2 HGz70; have hfz70_0 := blk_frozen HGz70 0; have hfz70_1 := blk_frozen HGz70 1; have hfz70_2 := blk_frozen HGz70 2; clear HGz70 hgz70) | ((with_reducible refine gate_dst (N := 73) rfl ?_); (try (refine gate_guard (by rfl) ?_; dsimp only)); refine Kd.R_lit k123 _ 123 ?hg (N := 73) ?hd (xs := ([] : List (S123))) (inner := []) (ok := fun _ => True) (okp := fun _ => True) ?hr ?hp (fun _ hk => hk) trivial (Below.refl _ _) (Nat.le_refl _) (by simp) ?_; (case hd => rfl); (case hg => rfl); (case hr => first | (go_simp; done) | (go_simp; rfl)); (case hp => exact (Reps.none _ _)); intro v323 w71 ho72 hb hg_ hnew_; clear hg_ hnew_; (first | rw [← Ny322.out] at ho72 | (simp only [Int.reduceToNat] at ho72; rw [← Ny322.out] at ho72)); have n0_ := Aside0.mk (Kd.R_elder' (by (with_reducible repeat (first | apply Kd.R_alloc | apply Kd.R_drewN | apply Kd.R_drew)); exact HO_5.out) (Kd.R_base ho72) hb); have n1_ := Aside0.mk (Kd.R_lower (Kd.R_new' ho72 (Kd.R_lt (by (with_reducible repeat (first | apply Kd.R_alloc | apply Kd.R_drewN | apply Kd.R_drew)); exact HO_5.out))) (below_size (by repeat (first | (with_reducible first | exact HB.out | apply below_alloc | apply pw_below_drewN | apply below_drew1 | refine below_set ?_ (IsS130.ge HI289.out)) | exact HB.out)))); have n2_ := Aside0.mk (IsS130.below (by repeat (first | (with_reducible first | exact HI289.out | apply IsS130.alloc | apply IsS130.drewN | apply IsS130.drew | apply IsS130.set_0 | apply IsS130.set_1 | apply IsS130.set_2) | exact HI289.out)) hb); have n3_ := Aside0.mk (below_step (by repeat (first | (with_reducible first | exact HB.out | apply below_alloc | apply pw_below_drewN | apply below_drew1 | refine below_set ?_ (IsS130.ge HI289.out)) | exact HB.out)) hb); clear HO_5; clear HI289; clear HB; have HO_5 := n0_; have HO324 := n1_; have HI289 := n2_; have HB := n3_; clear n0_ n1_ n2_ n3_; clear hb ho72))
            go_ret2
            exact ⟨_, by first | rfl | (simp [errW_none, errW_some] <;> rfl) | (simp [*, errW_none, errW_some] <;> rfl), by (with_reducible repeat (first | apply Kd.R_alloc | apply Kd.R_drewN | apply Kd.R_drew)); exact Kd.R_mono HO324.out (fun _ hk => trivial), by repeat (first | (with_reducible first | exact HB.out | apply below_alloc | apply pw_below_drewN | apply below_drew1 | refine below_set ?_ (IsS130.ge HI289.out)) | exact HB.out)⟩

/-! ### spec_DrawFieldAt: function 35 -/
def spec_DrawFieldAt.f (k : Nat) (l0 : List Int) : Option ((List (S123)) × ByteArray) := (spec_l01New.f k l0).bind fun bt325 => ((spec_l01Pick.f bt325.1 bt325.2.1 bt325.2.2 (([(⟨#[97, 103, 101]⟩ : ByteArray), (⟨#[110, 97, 109, 101]⟩ : ByteArray), (⟨#[120]⟩ : ByteArray), (⟨#[110, 111]⟩ : ByteArray), (⟨#[]⟩ : ByteArray)] : List ByteArray))).bind fun bt332 => ((spec_l04AnySchema.f bt325.1 bt332.2.1 bt332.2.2).bind fun bt335 => (some (bt335.1, bt332.1))))
theorem spec_DrawFieldAt.mono : ∀ a0 k, LeO (spec_DrawFieldAt.f k a0) (spec_DrawFieldAt.f (k + 1) a0) := by
  intro a0 k
  unfold spec_DrawFieldAt.f
  repeat' first
      | (with_reducible exact spec_l01New.mono _ _)
      | (with_reducible exact LeO.refl _)
      | (with_reducible exact LeO.none _)
      | (with_reducible refine LeO.ite ?_ ?_)
      | (with_reducible refine LeO.bind ?_ (fun _ => ?_))
      | exact spec_l01New.mono _ _
      | exact LeO.none _
      | refine LeO.ite ?_ ?_
      | refine LeO.bind ?_ (fun _ => ?_)
set_option maxHeartbeats 8000000 in
set_option maxRecDepth 100000 in
theorem spec_DrawFieldAt.calls (k : Nat) (A0 : Option Addr) (c0 : Nat) (l0 : List Int) (r1 : List (S123)) (r2 : ByteArray) (w : World) (hr0 : Kd.C (Kd.int .u8) w A0 l0.length l0) (hc0 : l0.length ≤ c0) (h : spec_DrawFieldAt.f k l0 = some (r1, r2)) :
    Calls Try.prog 35 #[.slice A0 l0.length c0] w fun e w' => ∃ v0_ : Value, e = .returned (.tuple #[v0_, .string r2]) ∧ Kd.R k123 123 w' w.heap.size (fun _ => True) v0_ r1 ∧ Below w.heap.size w w' := by
  have HR0 := Aside0.mk hr0
  have HC0 := Aside0.mk hc0
  clear hr0 hc0
  have HB := Aside0.mk (Below.refl w.heap.size w)
  have H : ((spec_l01New.f k l0).bind fun bt325 => ((spec_l01Pick.f bt325.1 bt325.2.1 bt325.2.2 (([(⟨#[97, 103, 101]⟩ : ByteArray), (⟨#[110, 97, 109, 101]⟩ : ByteArray), (⟨#[120]⟩ : ByteArray), (⟨#[110, 111]⟩ : ByteArray), (⟨#[]⟩ : ByteArray)] : List ByteArray))).bind fun bt332 => ((spec_l04AnySchema.f bt325.1 bt332.2.1 bt332.2.2).bind fun bt335 => (some (bt335.1, bt332.1))))) = some (r1, r2) := h
  clear h
  replace H := Option.bind_eq_some_iff.mp H
  obtain ⟨⟨t325, t326, t327⟩, A20, H⟩ := H
  replace H : ((spec_l01Pick.f t325 t326 t327 (([(⟨#[97, 103, 101]⟩ : ByteArray), (⟨#[110, 97, 109, 101]⟩ : ByteArray), (⟨#[120]⟩ : ByteArray), (⟨#[110, 111]⟩ : ByteArray), (⟨#[]⟩ : ByteArray)] : List ByteArray))).bind fun bt332 => ((spec_l04AnySchema.f t325 bt332.2.1 bt332.2.2).bind fun bt335 => (some (bt335.1, bt332.1)))) = some (r1, r2) := H
  have A2 := Aside0.mk A20
  clear A20
  obtain ⟨y329, hy329⟩ : ∃ y_ : List ByteArray, y_ = (([(⟨#[97, 103, 101]⟩ : ByteArray), (⟨#[110, 97, 109, 101]⟩ : ByteArray), (⟨#[120]⟩ : ByteArray), (⟨#[110, 111]⟩ : ByteArray), (⟨#[]⟩ : ByteArray)] : List ByteArray)) := ⟨_, rfl⟩
  replace H : ((spec_l01Pick.f t325 t326 t327 y329).bind fun bt332 => ((spec_l04AnySchema.f t325 bt332.2.1 bt332.2.2).bind fun bt335 => (some (bt335.1, bt332.1)))) = some (r1, r2) := by first | (rw [hy329]; with_reducible exact H) | (have H2_ := (Option.bind_some _ _).symm.trans H; rw [hy329]; with_reducible exact H2_) | (have H2_ := (Option.bind_some _ _).symm.trans H; with_reducible exact H2_) | with_reducible exact H | (rw [hy329]; exact H) | exact H
  have Ny329 := Aside0.mk hy329
  clear hy329
  replace H := Option.bind_eq_some_iff.mp H
  obtain ⟨⟨t332, t333, t334⟩, A30, H⟩ := H
  replace H : ((spec_l04AnySchema.f t325 t333 t334).bind fun bt335 => (some (bt335.1, t332))) = some (r1, r2) := H
  have A3 := Aside0.mk A30
  clear A30
  replace H := Option.bind_eq_some_iff.mp H
  obtain ⟨⟨t335, t338, t339⟩, A40, H⟩ := H
  replace H : (some (t335, t332)) = some (r1, r2) := H
  have A4 := Aside0.mk A40
  clear A40
  simp only [Option.some.injEq, Prod.mk.injEq] at H
  obtain ⟨rfl, rfl⟩ := H
  go_enter Try.func35, Try.ntmps35
  go_wp2_with (first | ((with_reducible refine gate_callee (f := 102) rfl ?_); refine goesL_ (some 7) rfl rfl Try.func102 (by kernel_rfl) rfl #[.slice A0 l0.length c0] rfl (by (try simp only [List.map_toArray, List.map_cons, List.map_nil]); first | done | rfl | (simp only [List.length_drop, List.length_take]; rfl)) ?_; (with_reducible refine (spec_l01New.calls k _ _ l0 t325 t326 t327 w _ ?side1 ?side2 ?side3 A2.out).mono ?_); (case side1 => repeat (first | (with_reducible first | exact HB.out | apply below_alloc | apply pw_below_drewN | apply below_drew1) | exact HB.out)); (case side2 => exact HR0.out); (case side3 => exact HC0.out); rintro e w5 ⟨g328, rfl, hi, hb, hb2⟩; refine ⟨_, rfl, ?_⟩; have n0_ := Aside0.mk (hb); have n1_ := Aside0.mk (hi); clear HB; have HB := n0_; have HI328 := n1_; clear n0_ n1_; (try clear hb); (try clear hb2); (try clear hk); (try clear hi)) | ((with_reducible refine gate_dst (N := 9) rfl ?_); refine Kd.R_lit Kd.string _ 9 ?hg (N := 9) ?hd (xs := ([(⟨#[97, 103, 101]⟩ : ByteArray), (⟨#[110, 97, 109, 101]⟩ : ByteArray), (⟨#[120]⟩ : ByteArray), (⟨#[110, 111]⟩ : ByteArray), (⟨#[]⟩ : ByteArray)] : List ByteArray)) (inner := [.string (⟨#[97, 103, 101]⟩ : ByteArray), .string (⟨#[110, 97, 109, 101]⟩ : ByteArray), .string (⟨#[120]⟩ : ByteArray), .string (⟨#[110, 111]⟩ : ByteArray), .string (⟨#[]⟩ : ByteArray)]) (ok := fun _ => True) (okp := fun _ => True) ?hr ?hp (fun _ hk => hk) trivial (Below.refl _ _) (Nat.le_refl _) (by simp) ?_; (case hd => rfl); (case hg => rfl); (case hr => first | (go_simp; done) | (go_simp; rfl)); (case hp => exact (Reps.one (show Kd.M Kd.string _ _ _ (⟨#[97, 103, 101]⟩ : ByteArray) [.string (⟨#[97, 103, 101]⟩ : ByteArray)] from rfl) (Reps.one (show Kd.M Kd.string _ _ _ (⟨#[110, 97, 109, 101]⟩ : ByteArray) [.string (⟨#[110, 97, 109, 101]⟩ : ByteArray)] from rfl) (Reps.one (show Kd.M Kd.string _ _ _ (⟨#[120]⟩ : ByteArray) [.string (⟨#[120]⟩ : ByteArray)] from rfl) (Reps.one (show Kd.M Kd.string _ _ _ (⟨#[110, 111]⟩ : ByteArray) [.string (⟨#[110, 111]⟩ : ByteArray)] from rfl) (Reps.one (show Kd.M Kd.string _ _ _ (⟨#[]⟩ : ByteArray) [.string (⟨#[]⟩ : ByteArray)] from rfl) (Reps.none _ _))))))); intro v330 w6 ho7 hb hg_ hnew_; clear hg_ hnew_; (first | rw [← Ny329.out] at ho7 | (simp only [Int.reduceToNat] at ho7; rw [← Ny329.out] at ho7)); have n0_ := Aside0.mk (Kd.R_lower ho7 (below_size (by repeat (first | (with_reducible first | exact HB.out | apply below_alloc | apply pw_below_drewN | apply below_drew1 | refine below_set ?_ (IsS181.ge HI328.out)) | exact HB.out)))); have n1_ := Aside0.mk (IsS181.below (by repeat (first | (with_reducible first | exact HI328.out | apply IsS181.alloc | apply IsS181.drewN | apply IsS181.drew | apply IsS181.set_1 | apply IsS181.set_2) | exact HI328.out)) hb); have n2_ := Aside0.mk (below_step (by repeat (first | (with_reducible first | exact HB.out | apply below_alloc | apply pw_below_drewN | apply below_drew1 | refine below_set ?_ (IsS181.ge HI328.out)) | exact HB.out)) hb); clear HI328; clear HB; have HO331 := n0_; have HI328 := n1_; have HB := n2_; clear n0_ n1_ n2_; clear hb ho7; obtain ⟨Ao8, co8, eo8⟩ := Kd.R_slice HO331.out; subst eo8) | ((with_reducible refine gate_callee (f := 109) rfl ?_); refine goesL_ (some 10) rfl rfl Try.func109 (by kernel_rfl) rfl #[.pointer (some ⟨g328, 0, none⟩), .slice Ao8 y329.length co8] rfl (by (try simp only [List.map_toArray, List.map_cons, List.map_nil]); first | done | rfl | (simp only [List.length_drop, List.length_take]; rfl)) ?_; (with_reducible refine (spec_l01Pick.calls g328 t325 t326 t327 _ _ y329 t332 t333 t334 w _ ?side1 ?side2 ?side3 ?side4 ?side5 A3.out).mono ?_); (case side1 => repeat (first | (with_reducible first | exact HI328.out | apply IsS181.alloc | apply IsS181.drewN | apply IsS181.drew | apply IsS181.set_1 | apply IsS181.set_2) | exact HI328.out)); (case side2 => repeat (first | (with_reducible first | exact HB.out | apply below_alloc | apply pw_below_drewN | apply below_drew1 | refine below_set ?_ (IsS181.ge HI328.out)) | exact HB.out)); (case side3 => repeat (first | exact (Kd.R_reads' HO331.out).2.2 | (with_reducible refine Kd.C_alloc ?_ _) | (with_reducible refine Kd.C_drewN ?_ _) | (with_reducible refine Kd.C_drew ?_))); (case side4 => exact (Kd.R_reads' HO331.out).2.1); (case side5 => exact far_slice (IsS181.own_ne HI328.out HO331.out (by decide))); rintro e w9 ⟨rfl, hi, hb, hk⟩; refine ⟨_, rfl, ?_⟩; have n0_ := Aside0.mk (Kd.R_mono (Kd.R_keep (IsS181.apart (show IsS181 w _ g328 t325 t326 t327 from by repeat (first | (with_reducible first | exact HI328.out | apply IsS181.alloc | apply IsS181.drewN | apply IsS181.drew | apply IsS181.set_1 | apply IsS181.set_2) | exact HI328.out)) (by (with_reducible repeat (first | apply Kd.R_alloc | apply Kd.R_drewN | apply Kd.R_drew)); exact HO331.out) (by decide)) hk (fun _ h => h.2)) (fun _ h => h.1)); have n1_ := Aside0.mk (hb); have n2_ := Aside0.mk (hi); clear HO331; clear HB; clear HI328; have HO331 := n0_; have HB := n1_; have HI328 := n2_; clear n0_ n1_ n2_; (try clear hb); (try clear hb2); (try clear hk); (try clear hi)) | ((with_reducible refine gate_callee (f := 101) rfl ?_); refine goesL_ (some 12) rfl rfl Try.func101 (by kernel_rfl) rfl #[.pointer (some ⟨g328, 0, none⟩)] rfl (by (try simp only [List.map_toArray, List.map_cons, List.map_nil]); first | done | rfl | (simp only [List.length_drop, List.length_take]; rfl)) ?_; (with_reducible refine (spec_l04AnySchema.calls g328 t325 t333 t334 t335 t338 t339 w _ ?side1 ?side2 A4.out).mono ?_); (case side1 => repeat (first | (with_reducible first | exact HI328.out | apply IsS181.alloc | apply IsS181.drewN | apply IsS181.drew | apply IsS181.set_1 | apply IsS181.set_2) | exact HI328.out)); (case side2 => repeat (first | (with_reducible first | exact HB.out | apply below_alloc | apply pw_below_drewN | apply below_drew1 | refine below_set ?_ (IsS181.ge HI328.out)) | exact HB.out)); rintro e w10 ⟨v336, rfl, ho0, hi, hb, hk⟩; refine ⟨_, rfl, ?_⟩; have n0_ := Aside0.mk (Kd.R_mono (Kd.R_keep (IsS181.apart (show IsS181 w _ g328 t325 t333 t334 from by repeat (first | (with_reducible first | exact HI328.out | apply IsS181.alloc | apply IsS181.drewN | apply IsS181.drew | apply IsS181.set_1 | apply IsS181.set_2) | exact HI328.out)) (by (with_reducible repeat (first | apply Kd.R_alloc | apply Kd.R_drewN | apply Kd.R_drew)); exact HO331.out) (by decide)) hk (fun _ h => h.2)) (fun _ h => h.1)); have n1_ := Aside0.mk (Kd.R_lower ho0 (below_size (by repeat (first | (with_reducible first | exact HB.out | apply below_alloc | apply pw_below_drewN | apply below_drew1 | refine below_set ?_ (IsS181.ge HI328.out)) | exact HB.out)))); have n2_ := Aside0.mk (hb); have n3_ := Aside0.mk (hi); clear HO331; clear HB; clear HI328; have HO331 := n0_; have HO337 := n1_; have HB := n2_; have HI328 := n3_; clear n0_ n1_ n2_ n3_; (try clear hb); (try clear hb2); (try clear hk); (try clear hi); (try clear ho0)))
  go_ret2
  exact ⟨_, by first | rfl | (simp [errW_none, errW_some] <;> rfl) | (simp [*, errW_none, errW_some] <;> rfl), by (with_reducible repeat (first | apply Kd.R_alloc | apply Kd.R_drewN | apply Kd.R_drew)); exact HO337.out, by repeat (first | (with_reducible first | exact HB.out | apply below_alloc | apply pw_below_drewN | apply below_drew1 | refine below_set ?_ (IsS181.ge HI328.out)) | exact HB.out)⟩

/-! ### laws_sameFields: function 38 -/
def laws_sameFields.l0 : Nat → List (S123) → List (S123) → Int → Option (Bool)
  | 0, _, _, _ => none
  | k + 1, x0, x1, x5 => if x5 < (x0.length : Int) then (if 0 ≤ x5 then (if x5 < (x1.length : Int) then (if (!((((rd_T123 x0 x5).f0).toList) == (((rd_T123 x1 x5).f0).toList)) || (!(((rd_T123 x0 x5).f1) == ((rd_T123 x1 x5).f1)))) = true then (some false) else (laws_sameFields.l0 k x0 x1 (wrap64 (x5 + 1)))) else (none)) else (none)) else (some true)
def laws_sameFields.f (k : Nat) (l0 : List (S123)) (l1 : List (S123)) : Option (Bool) := if (l0.length : Int) = (l1.length : Int) then (laws_sameFields.l0 k l0 l1 0) else (some false)
theorem laws_sameFields.mono_l : ∀ k, (∀ y0 y1 y2, LeO (laws_sameFields.l0 k y0 y1 y2) (laws_sameFields.l0 (k + 1) y0 y1 y2))
  | 0 => fun _ _ _ r h => by simp [laws_sameFields.l0] at h
  | k + 1 => by
    have ih0 := laws_sameFields.mono_l k
    · intro y0 y1 y2
      unfold laws_sameFields.l0
      repeat' first
      | (with_reducible exact ih0 _ _ _)
      | (with_reducible exact LeO.refl _)
      | (with_reducible exact LeO.none _)
      | (with_reducible refine LeO.ite ?_ ?_)
      | (with_reducible refine LeO.bind ?_ (fun _ => ?_))
      | exact ih0 _ _ _
      | exact LeO.none _
      | refine LeO.ite ?_ ?_
      | refine LeO.bind ?_ (fun _ => ?_)
theorem laws_sameFields.mono : ∀ a0 a1 k, LeO (laws_sameFields.f k a0 a1) (laws_sameFields.f (k + 1) a0 a1) := by
  intro a0 a1 k
  have ih0 := laws_sameFields.mono_l k
  unfold laws_sameFields.f
  repeat' first
      | (with_reducible exact ih0 _ _ _)
      | (with_reducible exact LeO.refl _)
      | (with_reducible exact LeO.none _)
      | (with_reducible refine LeO.ite ?_ ?_)
      | (with_reducible refine LeO.bind ?_ (fun _ => ?_))
      | exact ih0 _ _ _
      | exact LeO.none _
      | refine LeO.ite ?_ ?_
      | refine LeO.bind ?_ (fun _ => ?_)
set_option maxHeartbeats 8000000 in
set_option maxRecDepth 100000 in
theorem laws_sameFields.calls (k : Nat) (A0 : Option Addr) (c0 : Nat) (l0 : List (S123)) (A1 : Option Addr) (c1 : Nat) (l1 : List (S123)) (r : Bool) (w : World) (hr0 : Kd.C k123 w A0 l0.length l0) (hc0 : l0.length ≤ c0) (hr1 : Kd.C k123 w A1 l1.length l1) (hc1 : l1.length ≤ c1) (h : laws_sameFields.f k l0 l1 = some r) :
    Calls Try.prog 38 #[.slice A0 l0.length c0, .slice A1 l1.length c1] w fun e w' => e = .returned (.bool r) ∧ Drawn0 w w' := by
  have hu123 := Try.underlying123
  have HR0 := Aside0.mk hr0
  have HC0 := Aside0.mk hc0
  clear hr0 hc0
  have HR1 := Aside0.mk hr1
  have HC1 := Aside0.mk hc1
  clear hr1 hc1
  have H : (if (l0.length : Int) = (l1.length : Int) then (laws_sameFields.l0 k l0 l1 0) else (some false)) = some r := h
  clear h
  by_cases c3 : (l0.length : Int) = (l1.length : Int)
  · rw [if_pos c3] at H
    have c3b0 : ((l0.length : Int) == (l1.length : Int)) = true := beq_iff_eq.mpr c3
    have c3b1 : ((l0.length : Int) != (l1.length : Int)) = false := bne_eq_false_iff_eq.mpr c3
    have c3b2 : (l0.length == l1.length) = true := by first | simpa using c3 | (simp at c3 ⊢; omega)
    clear c3
    have H' := Aside0.mk H
    clear H
    go_enter Try.func38, Try.ntmps38
    go_wp2
    repeat (go_quiet (fail); try go_wp2)
    go_loopg [5] k (fun kq v5 w' => ∃ (x5_1 : Int), v5 = .int .i64 x5_1 ∧ Aside0 (laws_sameFields.l0 kq l0 l1 x5_1 = some r) ∧ Aside0 (kq ≤ k) ∧ Drawn0 w w')
    case atStart => exact ⟨(0), (by first | rfl | (simp; done) | (simp [*]; done)), H', ⟨Nat.le_refl _⟩, by repeat (first | exact Drawn0.refl _ | apply Drawn0.step)⟩
    case round =>
      clear H'
      try clear c1
      try clear p2
      try clear c3
      try clear c3b0
      try clear c3b1
      try clear c3b2
      obtain ⟨x5_1, rfl, HA, HK1, ⟨m1, rfl⟩⟩ := hrel
      cases gk with
      | zero => exact absurd HA.out (by simp [laws_sameFields.l0])
      | succ k1 =>
        have H := HA.out
        clear HA
        simp only [laws_sameFields.l0] at H
        by_cases c4 : x5_1 < (l0.length : Int)
        · rw [if_pos c4] at H
          have c4b0 : decide (x5_1 < (l0.length : Int)) = true := decide_eq_true c4
          clear c4
          by_cases c5 : 0 ≤ x5_1
          · rw [if_pos c5] at H
            have c5b0 : decide (0 ≤ x5_1) = true := decide_eq_true c5
            clear c5
            by_cases c6 : x5_1 < (l1.length : Int)
            · rw [if_pos c6] at H
              have c6b0 : decide (x5_1 < (l1.length : Int)) = true := decide_eq_true c6
              clear c6
              by_cases c7 : (!((((rd_T123 l0 x5_1).f0).toList) == (((rd_T123 l1 x5_1).f0).toList)) || (!(((rd_T123 l0 x5_1).f1) == ((rd_T123 l1 x5_1).f1)))) = true
              · rw [if_pos c7] at H
                have c7b0 : (!((((rd_T123 l0 x5_1).f0).toList) == (((rd_T123 l1 x5_1).f0).toList)) || (!(((rd_T123 l0 x5_1).f1) == ((rd_T123 l1 x5_1).f1)))) = true := c7
                clear c7
                obtain rfl := Option.some.inj H
                have p340 : 0 ≤ (x5_1 : Int) := of_decide_eq_true (by first | (with_reducible assumption) | assumption)
                have q340 : x5_1 < (l0.length : Int) := of_decide_eq_true (by first | (with_reducible assumption) | assumption)
                obtain ⟨ad340, e340, hx340_0, hx340_1⟩ := at_T123 HR0.out x5_1 p340 q340
                cases e340
                replace p340 := eq_true p340
                replace q340 := eq_true q340
                have p341 : 0 ≤ (x5_1 : Int) := of_decide_eq_true (by first | (with_reducible assumption) | assumption)
                have q341 : x5_1 < (l1.length : Int) := of_decide_eq_true (by first | (with_reducible assumption) | assumption)
                obtain ⟨ad341, e341, hx341_0, hx341_1⟩ := at_T123 HR1.out x5_1 p341 q341
                cases e341
                replace p341 := eq_true p341
                replace q341 := eq_true q341
                go_wp2
                repeat (go_quiet (fail); try go_wp2)
                go_ret
                exact ⟨by first | rfl | (simp; done) | (simp [*]; done), by repeat (first | exact Drawn0.refl _ | apply Drawn0.step)⟩
              · rw [if_neg c7] at H
                have c7b0 : (!((((rd_T123 l0 x5_1).f0).toList) == (((rd_T123 l1 x5_1).f0).toList)) || (!(((rd_T123 l0 x5_1).f1) == ((rd_T123 l1 x5_1).f1)))) = false := by simpa using c7
                clear c7
                have H' := Aside0.mk H
                clear H
                have p340 : 0 ≤ (x5_1 : Int) := of_decide_eq_true (by first | (with_reducible assumption) | assumption)
                have q340 : x5_1 < (l0.length : Int) := of_decide_eq_true (by first | (with_reducible assumption) | assumption)
                obtain ⟨ad340, e340, hx340_0, hx340_1⟩ := at_T123 HR0.out x5_1 p340 q340
                cases e340
                replace p340 := eq_true p340
                replace q340 := eq_true q340
                have p341 : 0 ≤ (x5_1 : Int) := of_decide_eq_true (by first | (with_reducible assumption) | assumption)
                have q341 : x5_1 < (l1.length : Int) := of_decide_eq_true (by first | (with_reducible assumption) | assumption)
                obtain ⟨ad341, e341, hx341_0, hx341_1⟩ := at_T123 HR1.out x5_1 p341 q341
                cases e341
                replace p341 := eq_true p341
                replace q341 := eq_true q341
                go_wp2
                repeat (go_quiet (fail); try go_wp2)
                go_roundg k1
                case measure => have := HK1.out; omega
                case rel => exact ⟨(wrap64 (x5_1 + 1)), (by first | rfl | (simp; done) | (simp [*]; done)), H', ⟨by have := HK1.out; omega⟩, by repeat (first | exact Drawn0.refl _ | apply Drawn0.step)⟩
            · rw [if_neg c6] at H
              exact absurd H (by simp)
          · rw [if_neg c5] at H
            exact absurd H (by simp)
        · rw [if_neg c4] at H
          have c4b0 : decide (x5_1 < (l0.length : Int)) = false := decide_eq_false c4
          clear c4
          obtain rfl := Option.some.inj H
          go_wp2
          repeat (go_quiet (fail); try go_wp2)
          go_ret
          exact ⟨by first | rfl | (simp; done) | (simp [*]; done), by repeat (first | exact Drawn0.refl _ | apply Drawn0.step)⟩
  · rw [if_neg c3] at H
    have c3b0 : ((l0.length : Int) == (l1.length : Int)) = false := beq_eq_false_iff_ne.mpr c3
    have c3b1 : ((l0.length : Int) != (l1.length : Int)) = true := bne_iff_ne.mpr c3
    have c3b2 : (l0.length == l1.length) = false := by first | simpa using c3 | (simp at c3 ⊢; omega)
    obtain rfl := Option.some.inj H
    go_enter Try.func38, Try.ntmps38
    go_wp2
    repeat (go_quiet (fail); try go_wp2)
    go_ret
    exact ⟨by first | rfl | (simp; done) | (simp [*]; done), by repeat (first | exact Drawn0.refl _ | apply Drawn0.step)⟩

/-! ### spec_FieldAt: function 40 -/
def spec_FieldAt.l0 : Nat → List (S123) → ByteArray → Int → Option (Int)
  | 0, _, _, _ => none
  | k + 1, x0, x1, x5 => if x5 < (x0.length : Int) then (if 0 ≤ x5 then (if ((rd_T123 x0 x5).f0).toList = x1.toList then (some x5) else (spec_FieldAt.l0 k x0 x1 (wrap64 (x5 + 1)))) else (none)) else (some (-1))
def spec_FieldAt.f (k : Nat) (l0 : List (S123)) (a1 : ByteArray) : Option (Int) := spec_FieldAt.l0 k l0 a1 0
theorem spec_FieldAt.mono_l : ∀ k, (∀ y0 y1 y2, LeO (spec_FieldAt.l0 k y0 y1 y2) (spec_FieldAt.l0 (k + 1) y0 y1 y2))
  | 0 => fun _ _ _ r h => by simp [spec_FieldAt.l0] at h
  | k + 1 => by
    have ih0 := spec_FieldAt.mono_l k
    · intro y0 y1 y2
      unfold spec_FieldAt.l0
      repeat' first
      | (with_reducible exact ih0 _ _ _)
      | (with_reducible exact LeO.refl _)
      | (with_reducible exact LeO.none _)
      | (with_reducible refine LeO.ite ?_ ?_)
      | (with_reducible refine LeO.bind ?_ (fun _ => ?_))
      | exact ih0 _ _ _
      | exact LeO.none _
      | refine LeO.ite ?_ ?_
      | refine LeO.bind ?_ (fun _ => ?_)
theorem spec_FieldAt.mono : ∀ a0 a1 k, LeO (spec_FieldAt.f k a0 a1) (spec_FieldAt.f (k + 1) a0 a1) := by
  intro a0 a1 k
  have ih0 := spec_FieldAt.mono_l k
  unfold spec_FieldAt.f
  repeat' first
      | (with_reducible exact ih0 _ _ _)
      | (with_reducible exact LeO.refl _)
      | (with_reducible exact LeO.none _)
      | (with_reducible refine LeO.ite ?_ ?_)
      | (with_reducible refine LeO.bind ?_ (fun _ => ?_))
      | exact ih0 _ _ _
      | exact LeO.none _
      | refine LeO.ite ?_ ?_
      | refine LeO.bind ?_ (fun _ => ?_)
set_option maxHeartbeats 8000000 in
set_option maxRecDepth 100000 in
theorem spec_FieldAt.calls (k : Nat) (A0 : Option Addr) (c0 : Nat) (l0 : List (S123)) (a1 : ByteArray) (r : Int) (w : World) (hr0 : Kd.C k123 w A0 l0.length l0) (hc0 : l0.length ≤ c0) (h : spec_FieldAt.f k l0 a1 = some r) :
    Calls Try.prog 40 #[.slice A0 l0.length c0, .string a1] w fun e w' => e = .returned (.int .i64 r) ∧ Drawn0 w w' := by
  have HR0 := Aside0.mk hr0
  have HC0 := Aside0.mk hc0
  clear hr0 hc0
  have H : (spec_FieldAt.l0 k l0 a1 0) = some r := h
  clear h
  have H' := Aside0.mk H
  clear H
  go_enter Try.func40, Try.ntmps40
  go_wp2
  go_loopg [5] k (fun kq v5 w' => ∃ (x5_1 : Int), v5 = .int .i64 x5_1 ∧ Aside0 (spec_FieldAt.l0 kq l0 a1 x5_1 = some r) ∧ Aside0 (kq ≤ k) ∧ Drawn0 w w')
  case atStart => exact ⟨(0), (by first | rfl | (simp; done) | (simp [*]; done)), H', ⟨Nat.le_refl _⟩, by repeat (first | exact Drawn0.refl _ | apply Drawn0.step)⟩
  case round =>
    clear H'
    try clear p2
    obtain ⟨x5_1, rfl, HA, HK1, ⟨m1, rfl⟩⟩ := hrel
    cases gk with
    | zero => exact absurd HA.out (by simp [spec_FieldAt.l0])
    | succ k1 =>
      have H := HA.out
      clear HA
      simp only [spec_FieldAt.l0] at H
      by_cases c3 : x5_1 < (l0.length : Int)
      · rw [if_pos c3] at H
        have c3b0 : decide (x5_1 < (l0.length : Int)) = true := decide_eq_true c3
        clear c3
        by_cases c4 : 0 ≤ x5_1
        · rw [if_pos c4] at H
          have c4b0 : decide (0 ≤ x5_1) = true := decide_eq_true c4
          clear c4
          by_cases c5 : ((rd_T123 l0 x5_1).f0).toList = a1.toList
          · rw [if_pos c5] at H
            have c5b0 : (((rd_T123 l0 x5_1).f0).toList == a1.toList) = true := beq_iff_eq.mpr c5
            have c5b1 : (((rd_T123 l0 x5_1).f0).toList != a1.toList) = false := bne_eq_false_iff_eq.mpr c5
            clear c5
            obtain rfl := Option.some.inj H
            have p342 : 0 ≤ (x5_1 : Int) := of_decide_eq_true (by first | (with_reducible assumption) | assumption)
            have q342 : x5_1 < (l0.length : Int) := of_decide_eq_true (by first | (with_reducible assumption) | assumption)
            obtain ⟨ad342, e342, hx342_0, hx342_1⟩ := at_T123 HR0.out x5_1 p342 q342
            cases e342
            replace p342 := eq_true p342
            replace q342 := eq_true q342
            go_wp2
            go_ret
            exact ⟨by first | rfl | (simp; done) | (simp [*]; done), by repeat (first | exact Drawn0.refl _ | apply Drawn0.step)⟩
          · rw [if_neg c5] at H
            have c5b0 : (((rd_T123 l0 x5_1).f0).toList == a1.toList) = false := beq_eq_false_iff_ne.mpr c5
            have c5b1 : (((rd_T123 l0 x5_1).f0).toList != a1.toList) = true := bne_iff_ne.mpr c5
            have H' := Aside0.mk H
            clear H
            have p342 : 0 ≤ (x5_1 : Int) := of_decide_eq_true (by first | (with_reducible assumption) | assumption)
            have q342 : x5_1 < (l0.length : Int) := of_decide_eq_true (by first | (with_reducible assumption) | assumption)
            obtain ⟨ad342, e342, hx342_0, hx342_1⟩ := at_T123 HR0.out x5_1 p342 q342
            cases e342
            replace p342 := eq_true p342
            replace q342 := eq_true q342
            go_wp2
            go_roundg k1
            case measure => have := HK1.out; omega
            case rel => exact ⟨(wrap64 (x5_1 + 1)), (by first | rfl | (simp; done) | (simp [*]; done)), H', ⟨by have := HK1.out; omega⟩, by repeat (first | exact Drawn0.refl _ | apply Drawn0.step)⟩
        · rw [if_neg c4] at H
          exact absurd H (by simp)
      · rw [if_neg c3] at H
        have c3b0 : decide (x5_1 < (l0.length : Int)) = false := decide_eq_false c3
        clear c3
        obtain rfl := Option.some.inj H
        go_wp2
        go_ret
        exact ⟨by first | rfl | (simp; done) | (simp [*]; done), by repeat (first | exact Drawn0.refl _ | apply Drawn0.step)⟩

end Go.Proofs.Ytkobbccjjglfmaa.VFnSchemas
