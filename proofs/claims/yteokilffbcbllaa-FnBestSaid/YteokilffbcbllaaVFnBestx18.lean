-- Written by a program of this repo (wip/myprint.py), over the kit's print; functions that the print does not take stand in it by hand-proved contracts.
import Derived.Test.YteokilffbcbllaaVFnBestx0
import Derived.Test.YteokilffbcbllaaVFnBestx1
import Derived.Test.YteokilffbcbllaaVFnBestx16
import Derived.Test.YteokilffbcbllaaVFnBestx17
namespace Go.Proofs.Yteokilffbcbllaa.VFnBest
open Go.RowKit Go.Proofs.YteokilffbcbllaaW.PrintWords Go.Proofs.YteokilffbcbllaaW.PrintLast Go.Proofs.YteokilffbcbllaaW.PrintMore
attribute [local go_sem] max2_int min2_int max_two min_two max_three min_three max_four min_four   -- for this text's walks alone
attribute [local go_sem high] str_leq str_gtr str_geq str_lss
set_option linter.unusedVariables false
set_option linter.unusedSimpArgs false

/-! ### spec_WritePage: function 21 -/
def spec_WritePage.f (k : Nat) (l0_0 : List ByteArray) (l0_1 : List (S83)) (a1 : Int) (a2 : ByteArray) : Option (List ByteArray × (List (S83)) × Bool) := (spec_l03Copy.f l0_0 l0_1).bind fun bt386 => ((spec_DiskOk.f k l0_0 l0_1).bind fun t393 => (if t393 = true then ((spec_l01In.f a1 0 (wrap64 ((l0_0.length : Int) - 1))).bind fun t394 => (if t394 = true then (if (a2.size : Int) > 240 then (some (bt386.1, bt386.2, false)) else (if (l0_1.length : Int) = 200 then (some (bt386.1, bt386.2, false)) else (if bt386.2.length < 5864062014805 then (some (bt386.1, (bt386.2 ++ [(⟨a1, a2⟩ : S83)]), true)) else (none)))) else (some (bt386.1, bt386.2, false)))) else (some (bt386.1, bt386.2, false))))
theorem spec_WritePage.mono : ∀ a0 a1 a2 a3 k, LeO (spec_WritePage.f k a0 a1 a2 a3) (spec_WritePage.f (k + 1) a0 a1 a2 a3) := by
  intro a0 a1 a2 a3 k
  unfold spec_WritePage.f
  exact qv
set_option maxHeartbeats 8000000 in
set_option maxRecDepth 100000 in
theorem spec_WritePage.calls (k : Nat) (A0_0 : Option Addr) (c0_0 : Nat) (l0_0 : List ByteArray) (A0_1 : Option Addr) (c0_1 : Nat) (l0_1 : List (S83)) (a1 : Int) (a2 : ByteArray) (r1 : List ByteArray) (r2 : List (S83)) (r3 : Bool) (w : World) (hr0_0 : Kd.C Kd.string w A0_0 l0_0.length l0_0) (hc0_0 : l0_0.length ≤ c0_0) (hr0_1 : Kd.C k83 w A0_1 l0_1.length l0_1) (hc0_1 : l0_1.length ≤ c0_1) (h : spec_WritePage.f k l0_0 l0_1 a1 a2 = some (r1, r2, r3)) :
    Calls Try.prog 21 #[.agg #[.slice A0_0 l0_0.length c0_0, .slice A0_1 l0_1.length c0_1], .int .i64 a1, .string a2] w fun e w' => ∃ v0_ v1_ : Value, e = .returned (.tuple #[.agg #[v0_, v1_], .bool r3]) ∧ Kd.R Kd.string 9 w' w.heap.size (fun _ => True) v0_ r1 ∧ Kd.R k83 83 w' w.heap.size (fun _ => True) v1_ r2 ∧ Below w.heap.size w w' := by
  have hu38 := Try.underlying38
  have hu83 := Try.underlying83
  have HR0_0 := Aside0.mk hr0_0
  have HC0_0 := Aside0.mk hc0_0
  clear hr0_0 hc0_0
  have HR0_1 := Aside0.mk hr0_1
  have HC0_1 := Aside0.mk hc0_1
  clear hr0_1 hc0_1
  have HB := Aside0.mk (Below.refl w.heap.size w)
  unfold spec_WritePage.f at h
  have H := h
  clear h
  replace H := qi H
  obtain ⟨⟨t386, t389⟩, A4, H⟩ := H
  dsimp only at H
  replace H := qi H
  obtain ⟨t393, A5, H⟩ := H
  by_cases c6 : t393 = true
  case neg =>
    replace c6 := Bool.eq_false_iff.mpr c6
    subst c6
    rw [if_neg (qj)] at H
    simp only [Option.some.injEq, Prod.mk.injEq] at H
    obtain ⟨rfl, rfl, rfl⟩ := H
    go_enter Try.func21, Try.ntmps21
    go_wp2_with (first | ((with_reducible refine gate_dst (N := 3) rfl ?_); (try (refine gate_guard zdy ?_; dsimp only)); refine qB 3 #[.slice A0_0 l0_0.length c0_0, .slice A0_1 l0_1.length c0_1] 38 ?_; intro gb384 hg w79 hbox hb; have BK384 := Aside0.mk (hbox); have GW384 := Aside0.mk ((zef : w.heap.size ≤ gb384)); have GE384 := GW384; replace HB := Aside0.mk (below_step za hb); clear hb hbox hg) | ((with_reducible refine gate_dst (N := 6) rfl ?_); (try (refine gate_guard zdy ?_; dsimp only)); refine qB 6 #[.slice none 0 0, .slice none 0 0] 38 ?_; intro gb385 hg w80 hbox hb; have BK385 := Aside0.mk (hbox); have GW385 := Aside0.mk ((zej : w.heap.size ≤ gb385)); have GE385 := GW385; replace HB := Aside0.mk (below_step zas hb); have NB384_385 := Aside0.mk ((zds : gb384 ≠ gb385)); have NB385_384 := Aside0.mk NB384_385.out.symm; replace BK384 := Aside0.mk (bB BK384.out hb); clear hb hbox hg; have hnb81 := NB384_385.out; have hnc81 := NB385_384.out; obtain ⟨_, _, _, _⟩ := qk2 BK384.out) | ((with_reducible refine gate_callee (f := 49) rfl ?_); refine qG (some 10) Try.func49 #[.agg #[.slice A0_0 l0_0.length c0_0, .slice A0_1 l0_1.length c0_1]] ?_; (with_reducible refine (spec_l03Copy.calls _ _ l0_0 _ _ l0_1 t386 t389 _ ?side1 ?side2 ?side3 ?side4 A4.out).mono ?_); (case side1 => exact zao); (case side2 => exact HC0_0.out); (case side3 => exact zba); (case side4 => exact HC0_1.out); rintro e w83 ⟨v387, v390, rfl, ho0, ho1, hb⟩; refine ⟨_, rfl, ?_⟩; have HO388 := Aside0.mk (Kd.R_lower ho0 (below_size zi)); have HO391 := Aside0.mk (Kd.R_lower ho1 (below_size zi)); replace BK384 := Aside0.mk (bB BK384.out hb); replace BK385 := Aside0.mk (bB BK385.out hb); replace HB := Aside0.mk (below_step zi hb); try clear hb ho0 ho1) | ((with_reducible refine gate_dst (N := 8) rfl ?_); (try (refine gate_guard zdy ?_; dsimp only)); refine qB 8 #[.slice none 0 0, .slice none 0 0] 38 ?_; intro gb392 hg w84 hbox hb; replace HO388 := Aside0.mk (Kd.R_below zbt hb); replace HO391 := Aside0.mk (Kd.R_below zbk hb); have BK392 := Aside0.mk (hbox); have GW392 := Aside0.mk ((zek : w.heap.size ≤ gb392)); have GE392 := GW392; replace HB := Aside0.mk (below_step zi hb); have NB384_392 := Aside0.mk ((zds : gb384 ≠ gb392)); have NB392_384 := Aside0.mk NB384_392.out.symm; replace BK384 := Aside0.mk (bB BK384.out hb); have NB385_392 := Aside0.mk ((zd6 : gb385 ≠ gb392)); have NB392_385 := Aside0.mk NB385_392.out.symm; replace BK385 := Aside0.mk (bB BK385.out hb); clear hb hbox hg; obtain ⟨Ao85, co85, eo85⟩ := Kd.R_slice HO388.out; subst eo85; have hnb86 := NB392_384.out; have hnc86 := NB384_392.out; have hnb87 := NB392_385.out; have hnc87 := NB385_392.out; obtain ⟨_, _, _, _⟩ := qk2 BK392.out; obtain ⟨Ao89, co89, eo89⟩ := Kd.R_slice HO391.out; subst eo89; obtain ⟨_, _, _, _⟩ := qk2 BK384.out) | ((with_reducible refine gate_callee (f := 50) rfl ?_); refine qG (some 12) Try.func50 #[.agg #[.slice A0_0 l0_0.length c0_0, .slice A0_1 l0_1.length c0_1]] ?_; (with_reducible refine (spec_DiskOk.calls k _ _ l0_0 _ _ l0_1 false _ ?side1 ?side2 ?side3 ?side4 A5.out).mono ?_); (case side1 => exact Kd.C_below HR0_0.out zf); (case side2 => exact HC0_0.out); (case side3 => exact Kd.C_below HR0_1.out zf); (case side4 => exact HC0_1.out); rintro e w91 ⟨rfl, hb⟩; refine ⟨_, rfl, ?_⟩; replace HO388 := Aside0.mk (Kd.R_below (rK HO388.out BK392.out) hb); replace HO391 := Aside0.mk (Kd.R_below (rK HO391.out BK392.out) hb); replace BK385 := Aside0.mk (blk_below (bK BK385.out NB385_392.out) hb); replace BK392 := Aside0.mk (blk_below (g := gb392) (o := .cells #[.slice Ao85 t386.length co85, .slice Ao89 t389.length co89] 38 (0, 0)) (p2 BK392.out) hb); replace HB := Aside0.mk (below_step zf hb); try clear hb; obtain ⟨_, _, _, _⟩ := qk2 BK392.out; obtain ⟨_, _, _, _⟩ := qk2 BK385.out))
    refine bodyPost_ret (results_ct rfl _ _ gb385 38 #[.slice Ao85 t386.length co85, .slice Ao89 t389.length co89] (0, 0) _ rfl (p2 BK385.out) Try.underlying38 rfl za5) rfl ?_
    exact ⟨_, _, zc, Kd.R_mono (rK HO388.out BK385.out) (fun _ _ => trivial), Kd.R_mono (rK HO391.out BK385.out) (fun _ _ => trivial), zf⟩

  subst c6
  rw [if_pos rfl] at H
  replace H := qi H
  obtain ⟨t394, A7, H⟩ := H
  by_cases c8 : t394 = true
  case neg =>
    replace c8 := Bool.eq_false_iff.mpr c8
    subst c8
    rw [if_neg (qj)] at H
    simp only [Option.some.injEq, Prod.mk.injEq] at H
    obtain ⟨rfl, rfl, rfl⟩ := H
    go_enter Try.func21, Try.ntmps21
    go_wp2_with (first | ((with_reducible refine gate_dst (N := 3) rfl ?_); (try (refine gate_guard zdy ?_; dsimp only)); refine qB 3 #[.slice A0_0 l0_0.length c0_0, .slice A0_1 l0_1.length c0_1] 38 ?_; intro gb384 hg w63 hbox hb; have BK384 := Aside0.mk (hbox); have GW384 := Aside0.mk ((zef : w.heap.size ≤ gb384)); have GE384 := GW384; replace HB := Aside0.mk (below_step za hb); clear hb hbox hg) | ((with_reducible refine gate_dst (N := 6) rfl ?_); (try (refine gate_guard zdy ?_; dsimp only)); refine qB 6 #[.slice none 0 0, .slice none 0 0] 38 ?_; intro gb385 hg w64 hbox hb; have BK385 := Aside0.mk (hbox); have GW385 := Aside0.mk ((zej : w.heap.size ≤ gb385)); have GE385 := GW385; replace HB := Aside0.mk (below_step zas hb); have NB384_385 := Aside0.mk ((zds : gb384 ≠ gb385)); have NB385_384 := Aside0.mk NB384_385.out.symm; replace BK384 := Aside0.mk (bB BK384.out hb); clear hb hbox hg; have hnb65 := NB384_385.out; have hnc65 := NB385_384.out; obtain ⟨_, _, _, _⟩ := qk2 BK384.out) | ((with_reducible refine gate_callee (f := 49) rfl ?_); refine qG (some 10) Try.func49 #[.agg #[.slice A0_0 l0_0.length c0_0, .slice A0_1 l0_1.length c0_1]] ?_; (with_reducible refine (spec_l03Copy.calls _ _ l0_0 _ _ l0_1 t386 t389 _ ?side1 ?side2 ?side3 ?side4 A4.out).mono ?_); (case side1 => exact zao); (case side2 => exact HC0_0.out); (case side3 => exact zba); (case side4 => exact HC0_1.out); rintro e w67 ⟨v387, v390, rfl, ho0, ho1, hb⟩; refine ⟨_, rfl, ?_⟩; have HO388 := Aside0.mk (Kd.R_lower ho0 (below_size zi)); have HO391 := Aside0.mk (Kd.R_lower ho1 (below_size zi)); replace BK384 := Aside0.mk (bB BK384.out hb); replace BK385 := Aside0.mk (bB BK385.out hb); replace HB := Aside0.mk (below_step zi hb); try clear hb ho0 ho1) | ((with_reducible refine gate_dst (N := 8) rfl ?_); (try (refine gate_guard zdy ?_; dsimp only)); refine qB 8 #[.slice none 0 0, .slice none 0 0] 38 ?_; intro gb392 hg w68 hbox hb; replace HO388 := Aside0.mk (Kd.R_below zbt hb); replace HO391 := Aside0.mk (Kd.R_below zbk hb); have BK392 := Aside0.mk (hbox); have GW392 := Aside0.mk ((zek : w.heap.size ≤ gb392)); have GE392 := GW392; replace HB := Aside0.mk (below_step zi hb); have NB384_392 := Aside0.mk ((zds : gb384 ≠ gb392)); have NB392_384 := Aside0.mk NB384_392.out.symm; replace BK384 := Aside0.mk (bB BK384.out hb); have NB385_392 := Aside0.mk ((zd6 : gb385 ≠ gb392)); have NB392_385 := Aside0.mk NB385_392.out.symm; replace BK385 := Aside0.mk (bB BK385.out hb); clear hb hbox hg; obtain ⟨Ao69, co69, eo69⟩ := Kd.R_slice HO388.out; subst eo69; have hnb70 := NB392_384.out; have hnc70 := NB384_392.out; have hnb71 := NB392_385.out; have hnc71 := NB385_392.out; obtain ⟨_, _, _, _⟩ := qk2 BK392.out; obtain ⟨Ao73, co73, eo73⟩ := Kd.R_slice HO391.out; subst eo73; obtain ⟨_, _, _, _⟩ := qk2 BK384.out) | ((with_reducible refine gate_callee (f := 50) rfl ?_); refine qG (some 12) Try.func50 #[.agg #[.slice A0_0 l0_0.length c0_0, .slice A0_1 l0_1.length c0_1]] ?_; (with_reducible refine (spec_DiskOk.calls k _ _ l0_0 _ _ l0_1 true _ ?side1 ?side2 ?side3 ?side4 A5.out).mono ?_); (case side1 => exact Kd.C_below HR0_0.out zf); (case side2 => exact HC0_0.out); (case side3 => exact Kd.C_below HR0_1.out zf); (case side4 => exact HC0_1.out); rintro e w75 ⟨rfl, hb⟩; refine ⟨_, rfl, ?_⟩; replace HO388 := Aside0.mk (Kd.R_below (rK HO388.out BK392.out) hb); replace HO391 := Aside0.mk (Kd.R_below (rK HO391.out BK392.out) hb); replace BK384 := Aside0.mk (blk_below (bK BK384.out NB384_392.out) hb); replace BK385 := Aside0.mk (blk_below (bK BK385.out NB385_392.out) hb); replace BK392 := Aside0.mk (blk_below (g := gb392) (o := .cells #[.slice Ao69 t386.length co69, .slice Ao73 t389.length co73] 38 (0, 0)) (p2 BK392.out) hb); replace HB := Aside0.mk (below_step zf hb); try clear hb; obtain ⟨_, _, _, _⟩ := qk2 BK384.out) | (go_at_call 45; (with_reducible refine (spec_l01In.calls a1 0 (wrap64 ((l0_0.length : Int) - 1)) false _ A7.out).mono ?_); rintro e w' ⟨rfl, ⟨nd, rfl⟩⟩; (try (rw [drewN_self w75]; generalize hq_ : World.drewN w75 _ = w75; have n0_ : Aside0 (Kd.R Kd.string 9 w75 w.heap.size (fun _ => True) (.slice Ao69 t386.length co69) t386) := ⟨by rw [← hq_]; exact zbt⟩; have n1_ : Aside0 (Kd.R k83 83 w75 w.heap.size (fun _ => True) (.slice Ao73 t389.length co73) t389) := ⟨by rw [← hq_]; exact zbk⟩; have n2_ : Aside0 (w75.heap[gb384]? = some (.cells #[.slice A0_0 l0_0.length c0_0, .slice A0_1 l0_1.length c0_1] 38 (0, 0))) := ⟨zd8⟩; have n3_ : Aside0 (w75.heap[gb385]? = some (.cells #[.slice none 0 0, .slice none 0 0] 38 (0, 0))) := ⟨zd9⟩; have n4_ : Aside0 (w75.heap[gb392]? = some (.cells #[.slice Ao69 t386.length co69, .slice Ao73 t389.length co73] 38 (0, 0))) := ⟨zea⟩; have n5_ : Aside0 (Below w.heap.size w w75) := ⟨by rw [← hq_]; exact zf⟩; clear HO388 HO391 BK384 BK385 BK392 HB hq_; have HO388 := n0_; have HO391 := n1_; have BK384 := n2_; have BK385 := n3_; have BK392 := n4_; have HB := n5_; clear n0_ n1_ n2_ n3_ n4_ n5_)); (try have hcr384_0 : w75.cell? ⟨gb384, 0, none⟩ = some (.slice A0_0 l0_0.length c0_0) := qx BK384 0); (try have hfr384_0 := blk_frozen BK384.out 0); (try have hcr384_1 : w75.cell? ⟨gb384, 1, none⟩ = some (.slice A0_1 l0_1.length c0_1) := qx BK384 1); (try have hfr384_1 := blk_frozen BK384.out 1); (try have hcr385_0 : w75.cell? ⟨gb385, 0, none⟩ = some (.slice none 0 0) := qx BK385 0); (try have hfr385_0 := blk_frozen BK385.out 0); (try have hcr385_1 : w75.cell? ⟨gb385, 1, none⟩ = some (.slice none 0 0) := qx BK385 1); (try have hfr385_1 := blk_frozen BK385.out 1); (try have hcr392_0 : w75.cell? ⟨gb392, 0, none⟩ = some (.slice Ao69 t386.length co69) := qx BK392 0); (try have hfr392_0 := blk_frozen BK392.out 0); (try have hcr392_1 : w75.cell? ⟨gb392, 1, none⟩ = some (.slice Ao73 t389.length co73) := qx BK392 1); (try have hfr392_1 := blk_frozen BK392.out 1); obtain ⟨_, _, _, _⟩ := qk2 BK392.out; obtain ⟨_, _, _, _⟩ := qk2 BK385.out))
    refine bodyPost_ret (results_ct rfl _ _ gb385 38 #[.slice Ao69 t386.length co69, .slice Ao73 t389.length co73] (0, 0) _ rfl (p2 BK385.out) Try.underlying38 rfl za5) rfl ?_
    exact ⟨_, _, zc, Kd.R_mono (rK HO388.out BK385.out) (fun _ _ => trivial), Kd.R_mono (rK HO391.out BK385.out) (fun _ _ => trivial), zf⟩
  subst c8
  rw [if_pos rfl] at H
  by_cases c9 : (a2.size : Int) > 240
  case pos =>
    rw [if_pos c9] at H
    have c9b0 : decide (240 < (a2.size : Int)) = true := decide_eq_true c9
    have c9b1 : decide (240 < a2.size) = true := decide_eq_true zd4
    clear c9
    simp only [Option.some.injEq, Prod.mk.injEq] at H
    obtain ⟨rfl, rfl, rfl⟩ := H
    go_enter Try.func21, Try.ntmps21
    go_wp2_with (first | ((with_reducible refine gate_dst (N := 3) rfl ?_); (try (refine gate_guard zdy ?_; dsimp only)); refine qB 3 #[.slice A0_0 l0_0.length c0_0, .slice A0_1 l0_1.length c0_1] 38 ?_; intro gb384 hg w10 hbox hb; have BK384 := Aside0.mk (hbox); have GW384 := Aside0.mk ((zef : w.heap.size ≤ gb384)); have GE384 := GW384; replace HB := Aside0.mk (below_step za hb); clear hb hbox hg) | ((with_reducible refine gate_dst (N := 6) rfl ?_); (try (refine gate_guard zdy ?_; dsimp only)); refine qB 6 #[.slice none 0 0, .slice none 0 0] 38 ?_; intro gb385 hg w11 hbox hb; have BK385 := Aside0.mk (hbox); have GW385 := Aside0.mk ((zej : w.heap.size ≤ gb385)); have GE385 := GW385; replace HB := Aside0.mk (below_step zas hb); have NB384_385 := Aside0.mk ((zds : gb384 ≠ gb385)); have NB385_384 := Aside0.mk NB384_385.out.symm; replace BK384 := Aside0.mk (bB BK384.out hb); clear hb hbox hg; have hnb12 := NB384_385.out; have hnc12 := NB385_384.out; obtain ⟨hcz13_0, hcz13_1, hfz13_0, hfz13_1⟩ := qk2 BK384.out) | ((with_reducible refine gate_callee (f := 49) rfl ?_); refine qG (some 10) Try.func49 #[.agg #[.slice A0_0 l0_0.length c0_0, .slice A0_1 l0_1.length c0_1]] ?_; (with_reducible refine (spec_l03Copy.calls _ _ l0_0 _ _ l0_1 t386 t389 _ ?side1 ?side2 ?side3 ?side4 A4.out).mono ?_); (case side1 => exact zao); (case side2 => exact HC0_0.out); (case side3 => exact zba); (case side4 => exact HC0_1.out); rintro e w14 ⟨v387, v390, rfl, ho0, ho1, hb⟩; refine ⟨_, rfl, ?_⟩; have HO388 := Aside0.mk (Kd.R_lower ho0 (below_size zi)); have HO391 := Aside0.mk (Kd.R_lower ho1 (below_size zi)); replace BK384 := Aside0.mk (bB BK384.out hb); replace BK385 := Aside0.mk (bB BK385.out hb); replace HB := Aside0.mk (below_step zi hb); try clear hb ho0 ho1) | ((with_reducible refine gate_dst (N := 8) rfl ?_); (try (refine gate_guard zdy ?_; dsimp only)); refine qB 8 #[.slice none 0 0, .slice none 0 0] 38 ?_; intro gb392 hg w15 hbox hb; replace HO388 := Aside0.mk (Kd.R_below zbt hb); replace HO391 := Aside0.mk (Kd.R_below zbk hb); have BK392 := Aside0.mk (hbox); have GW392 := Aside0.mk ((zek : w.heap.size ≤ gb392)); have GE392 := GW392; replace HB := Aside0.mk (below_step zi hb); have NB384_392 := Aside0.mk ((zds : gb384 ≠ gb392)); have NB392_384 := Aside0.mk NB384_392.out.symm; replace BK384 := Aside0.mk (bB BK384.out hb); have NB385_392 := Aside0.mk ((zd6 : gb385 ≠ gb392)); have NB392_385 := Aside0.mk NB385_392.out.symm; replace BK385 := Aside0.mk (bB BK385.out hb); clear hb hbox hg; obtain ⟨Ao16, co16, eo16⟩ := Kd.R_slice HO388.out; subst eo16; have hnb17 := NB392_384.out; have hnc17 := NB384_392.out; have hnb18 := NB392_385.out; have hnc18 := NB385_392.out; obtain ⟨_, _, _, _⟩ := qk2 BK392.out; obtain ⟨Ao20, co20, eo20⟩ := Kd.R_slice HO391.out; subst eo20; obtain ⟨_, _, _, _⟩ := qk2 BK384.out) | ((with_reducible refine gate_callee (f := 50) rfl ?_); refine qG (some 12) Try.func50 #[.agg #[.slice A0_0 l0_0.length c0_0, .slice A0_1 l0_1.length c0_1]] ?_; (with_reducible refine (spec_DiskOk.calls k _ _ l0_0 _ _ l0_1 true _ ?side1 ?side2 ?side3 ?side4 A5.out).mono ?_); (case side1 => exact Kd.C_below HR0_0.out zf); (case side2 => exact HC0_0.out); (case side3 => exact Kd.C_below HR0_1.out zf); (case side4 => exact HC0_1.out); rintro e w22 ⟨rfl, hb⟩; refine ⟨_, rfl, ?_⟩; replace HO388 := Aside0.mk (Kd.R_below (rK HO388.out BK392.out) hb); replace HO391 := Aside0.mk (Kd.R_below (rK HO391.out BK392.out) hb); replace BK384 := Aside0.mk (blk_below (bK BK384.out NB384_392.out) hb); replace BK385 := Aside0.mk (blk_below (bK BK385.out NB385_392.out) hb); replace BK392 := Aside0.mk (blk_below (g := gb392) (o := .cells #[.slice Ao16 t386.length co16, .slice Ao20 t389.length co20] 38 (0, 0)) (p2 BK392.out) hb); replace HB := Aside0.mk (below_step zf hb); try clear hb; obtain ⟨_, _, _, _⟩ := qk2 BK384.out) | (go_at_call 45; (with_reducible refine (spec_l01In.calls a1 0 (wrap64 ((l0_0.length : Int) - 1)) true _ A7.out).mono ?_); rintro e w' ⟨rfl, ⟨nd, rfl⟩⟩; (try (rw [drewN_self w22]; generalize hq_ : World.drewN w22 _ = w22; have n0_ : Aside0 (Kd.R Kd.string 9 w22 w.heap.size (fun _ => True) (.slice Ao16 t386.length co16) t386) := ⟨by rw [← hq_]; exact zbt⟩; have n1_ : Aside0 (Kd.R k83 83 w22 w.heap.size (fun _ => True) (.slice Ao20 t389.length co20) t389) := ⟨by rw [← hq_]; exact zbk⟩; have n2_ : Aside0 (w22.heap[gb384]? = some (.cells #[.slice A0_0 l0_0.length c0_0, .slice A0_1 l0_1.length c0_1] 38 (0, 0))) := ⟨zd8⟩; have n3_ : Aside0 (w22.heap[gb385]? = some (.cells #[.slice none 0 0, .slice none 0 0] 38 (0, 0))) := ⟨zd9⟩; have n4_ : Aside0 (w22.heap[gb392]? = some (.cells #[.slice Ao16 t386.length co16, .slice Ao20 t389.length co20] 38 (0, 0))) := ⟨zea⟩; have n5_ : Aside0 (Below w.heap.size w w22) := ⟨by rw [← hq_]; exact zf⟩; clear HO388 HO391 BK384 BK385 BK392 HB hq_; have HO388 := n0_; have HO391 := n1_; have BK384 := n2_; have BK385 := n3_; have BK392 := n4_; have HB := n5_; clear n0_ n1_ n2_ n3_ n4_ n5_)); (try have hcr384_0 : w22.cell? ⟨gb384, 0, none⟩ = some (.slice A0_0 l0_0.length c0_0) := qx BK384 0); (try have hfr384_0 := blk_frozen BK384.out 0); (try have hcr384_1 : w22.cell? ⟨gb384, 1, none⟩ = some (.slice A0_1 l0_1.length c0_1) := qx BK384 1); (try have hfr384_1 := blk_frozen BK384.out 1); (try have hcr385_0 : w22.cell? ⟨gb385, 0, none⟩ = some (.slice none 0 0) := qx BK385 0); (try have hfr385_0 := blk_frozen BK385.out 0); (try have hcr385_1 : w22.cell? ⟨gb385, 1, none⟩ = some (.slice none 0 0) := qx BK385 1); (try have hfr385_1 := blk_frozen BK385.out 1); (try have hcr392_0 : w22.cell? ⟨gb392, 0, none⟩ = some (.slice Ao16 t386.length co16) := qx BK392 0); (try have hfr392_0 := blk_frozen BK392.out 0); (try have hcr392_1 : w22.cell? ⟨gb392, 1, none⟩ = some (.slice Ao20 t389.length co20) := qx BK392 1); (try have hfr392_1 := blk_frozen BK392.out 1); obtain ⟨_, _, _, _⟩ := qk2 BK392.out; obtain ⟨_, _, _, _⟩ := qk2 BK385.out))
    refine bodyPost_ret (results_ct rfl _ _ gb385 38 #[.slice Ao16 t386.length co16, .slice Ao20 t389.length co20] (0, 0) _ rfl (p2 BK385.out) Try.underlying38 rfl za5) rfl ?_
    exact ⟨_, _, zc, Kd.R_mono (rK HO388.out BK385.out) (fun _ _ => trivial), Kd.R_mono (rK HO391.out BK385.out) (fun _ _ => trivial), zf⟩
  rw [if_neg c9] at H
  have c9b0 : decide (240 < (a2.size : Int)) = false := decide_eq_false c9
  have c9b1 : decide (240 < a2.size) = false := decide_eq_false zd4
  clear c9
  by_cases c26 : (l0_1.length : Int) = 200
  case pos =>
    rw [if_pos c26] at H
    have c26b0 : ((l0_1.length : Int) == 200) = true := beq_iff_eq.mpr c26
    have c26b1 : ((l0_1.length : Int) != 200) = false := bne_eq_false_iff_eq.mpr c26
    clear c26
    simp only [Option.some.injEq, Prod.mk.injEq] at H
    obtain ⟨rfl, rfl, rfl⟩ := H
    go_enter Try.func21, Try.ntmps21
    go_wp2_with (first | ((with_reducible refine gate_dst (N := 3) rfl ?_); (try (refine gate_guard zdy ?_; dsimp only)); refine qB 3 #[.slice A0_0 l0_0.length c0_0, .slice A0_1 l0_1.length c0_1] 38 ?_; intro gb384 hg w27 hbox hb; have BK384 := Aside0.mk (hbox); have GW384 := Aside0.mk ((zef : w.heap.size ≤ gb384)); have GE384 := GW384; replace HB := Aside0.mk (below_step za hb); clear hb hbox hg) | ((with_reducible refine gate_dst (N := 6) rfl ?_); (try (refine gate_guard zdy ?_; dsimp only)); refine qB 6 #[.slice none 0 0, .slice none 0 0] 38 ?_; intro gb385 hg w28 hbox hb; have BK385 := Aside0.mk (hbox); have GW385 := Aside0.mk ((zej : w.heap.size ≤ gb385)); have GE385 := GW385; replace HB := Aside0.mk (below_step zas hb); have NB384_385 := Aside0.mk ((zds : gb384 ≠ gb385)); have NB385_384 := Aside0.mk NB384_385.out.symm; replace BK384 := Aside0.mk (bB BK384.out hb); clear hb hbox hg; have hnb29 := NB384_385.out; have hnc29 := NB385_384.out; obtain ⟨_, _, _, _⟩ := qk2 BK384.out) | ((with_reducible refine gate_callee (f := 49) rfl ?_); refine qG (some 10) Try.func49 #[.agg #[.slice A0_0 l0_0.length c0_0, .slice A0_1 l0_1.length c0_1]] ?_; (with_reducible refine (spec_l03Copy.calls _ _ l0_0 _ _ l0_1 t386 t389 _ ?side1 ?side2 ?side3 ?side4 A4.out).mono ?_); (case side1 => exact zao); (case side2 => exact HC0_0.out); (case side3 => exact zba); (case side4 => exact HC0_1.out); rintro e w31 ⟨v387, v390, rfl, ho0, ho1, hb⟩; refine ⟨_, rfl, ?_⟩; have HO388 := Aside0.mk (Kd.R_lower ho0 (below_size zi)); have HO391 := Aside0.mk (Kd.R_lower ho1 (below_size zi)); replace BK384 := Aside0.mk (bB BK384.out hb); replace BK385 := Aside0.mk (bB BK385.out hb); replace HB := Aside0.mk (below_step zi hb); try clear hb ho0 ho1) | ((with_reducible refine gate_dst (N := 8) rfl ?_); (try (refine gate_guard zdy ?_; dsimp only)); refine qB 8 #[.slice none 0 0, .slice none 0 0] 38 ?_; intro gb392 hg w32 hbox hb; replace HO388 := Aside0.mk (Kd.R_below zbt hb); replace HO391 := Aside0.mk (Kd.R_below zbk hb); have BK392 := Aside0.mk (hbox); have GW392 := Aside0.mk ((zek : w.heap.size ≤ gb392)); have GE392 := GW392; replace HB := Aside0.mk (below_step zi hb); have NB384_392 := Aside0.mk ((zds : gb384 ≠ gb392)); have NB392_384 := Aside0.mk NB384_392.out.symm; replace BK384 := Aside0.mk (bB BK384.out hb); have NB385_392 := Aside0.mk ((zd6 : gb385 ≠ gb392)); have NB392_385 := Aside0.mk NB385_392.out.symm; replace BK385 := Aside0.mk (bB BK385.out hb); clear hb hbox hg; obtain ⟨Ao33, co33, eo33⟩ := Kd.R_slice HO388.out; subst eo33; have hnb34 := NB392_384.out; have hnc34 := NB384_392.out; have hnb35 := NB392_385.out; have hnc35 := NB385_392.out; obtain ⟨_, _, _, _⟩ := qk2 BK392.out; obtain ⟨Ao37, co37, eo37⟩ := Kd.R_slice HO391.out; subst eo37; obtain ⟨_, _, _, _⟩ := qk2 BK384.out) | ((with_reducible refine gate_callee (f := 50) rfl ?_); refine qG (some 12) Try.func50 #[.agg #[.slice A0_0 l0_0.length c0_0, .slice A0_1 l0_1.length c0_1]] ?_; (with_reducible refine (spec_DiskOk.calls k _ _ l0_0 _ _ l0_1 true _ ?side1 ?side2 ?side3 ?side4 A5.out).mono ?_); (case side1 => exact Kd.C_below HR0_0.out zf); (case side2 => exact HC0_0.out); (case side3 => exact Kd.C_below HR0_1.out zf); (case side4 => exact HC0_1.out); rintro e w39 ⟨rfl, hb⟩; refine ⟨_, rfl, ?_⟩; replace HO388 := Aside0.mk (Kd.R_below (rK HO388.out BK392.out) hb); replace HO391 := Aside0.mk (Kd.R_below (rK HO391.out BK392.out) hb); replace BK384 := Aside0.mk (blk_below (bK BK384.out NB384_392.out) hb); replace BK385 := Aside0.mk (blk_below (bK BK385.out NB385_392.out) hb); replace BK392 := Aside0.mk (blk_below (g := gb392) (o := .cells #[.slice Ao33 t386.length co33, .slice Ao37 t389.length co37] 38 (0, 0)) (p2 BK392.out) hb); replace HB := Aside0.mk (below_step zf hb); try clear hb; obtain ⟨_, _, _, _⟩ := qk2 BK384.out) | (go_at_call 45; (with_reducible refine (spec_l01In.calls a1 0 (wrap64 ((l0_0.length : Int) - 1)) true _ A7.out).mono ?_); rintro e w' ⟨rfl, ⟨nd, rfl⟩⟩; (try (rw [drewN_self w39]; generalize hq_ : World.drewN w39 _ = w39; have n0_ : Aside0 (Kd.R Kd.string 9 w39 w.heap.size (fun _ => True) (.slice Ao33 t386.length co33) t386) := ⟨by rw [← hq_]; exact zbt⟩; have n1_ : Aside0 (Kd.R k83 83 w39 w.heap.size (fun _ => True) (.slice Ao37 t389.length co37) t389) := ⟨by rw [← hq_]; exact zbk⟩; have n2_ : Aside0 (w39.heap[gb384]? = some (.cells #[.slice A0_0 l0_0.length c0_0, .slice A0_1 l0_1.length c0_1] 38 (0, 0))) := ⟨zd8⟩; have n3_ : Aside0 (w39.heap[gb385]? = some (.cells #[.slice none 0 0, .slice none 0 0] 38 (0, 0))) := ⟨zd9⟩; have n4_ : Aside0 (w39.heap[gb392]? = some (.cells #[.slice Ao33 t386.length co33, .slice Ao37 t389.length co37] 38 (0, 0))) := ⟨zea⟩; have n5_ : Aside0 (Below w.heap.size w w39) := ⟨by rw [← hq_]; exact zf⟩; clear HO388 HO391 BK384 BK385 BK392 HB hq_; have HO388 := n0_; have HO391 := n1_; have BK384 := n2_; have BK385 := n3_; have BK392 := n4_; have HB := n5_; clear n0_ n1_ n2_ n3_ n4_ n5_)); (try have hcr384_0 : w39.cell? ⟨gb384, 0, none⟩ = some (.slice A0_0 l0_0.length c0_0) := qx BK384 0); (try have hfr384_0 := blk_frozen BK384.out 0); (try have hcr384_1 : w39.cell? ⟨gb384, 1, none⟩ = some (.slice A0_1 l0_1.length c0_1) := qx BK384 1); (try have hfr384_1 := blk_frozen BK384.out 1); (try have hcr385_0 : w39.cell? ⟨gb385, 0, none⟩ = some (.slice none 0 0) := qx BK385 0); (try have hfr385_0 := blk_frozen BK385.out 0); (try have hcr385_1 : w39.cell? ⟨gb385, 1, none⟩ = some (.slice none 0 0) := qx BK385 1); (try have hfr385_1 := blk_frozen BK385.out 1); (try have hcr392_0 : w39.cell? ⟨gb392, 0, none⟩ = some (.slice Ao33 t386.length co33) := qx BK392 0); (try have hfr392_0 := blk_frozen BK392.out 0); (try have hcr392_1 : w39.cell? ⟨gb392, 1, none⟩ = some (.slice Ao37 t389.length co37) := qx BK392 1); (try have hfr392_1 := blk_frozen BK392.out 1); obtain ⟨_, _, _, _⟩ := qk2 BK392.out; obtain ⟨_, _, _, _⟩ := qk2 BK385.out))
    refine bodyPost_ret (results_ct rfl _ _ gb385 38 #[.slice Ao33 t386.length co33, .slice Ao37 t389.length co37] (0, 0) _ rfl (p2 BK385.out) Try.underlying38 rfl za5) rfl ?_
    exact ⟨_, _, zc, Kd.R_mono (rK HO388.out BK385.out) (fun _ _ => trivial), Kd.R_mono (rK HO391.out BK385.out) (fun _ _ => trivial), zf⟩
  rw [if_neg c26] at H
  have c26b0 : ((l0_1.length : Int) == 200) = false := beq_eq_false_iff_ne.mpr c26
  have c26b1 : ((l0_1.length : Int) != 200) = true := bne_iff_ne.mpr c26
  by_cases c43 : t389.length < 5864062014805
  case neg => exact qn c43 H
  rw [if_pos c43] at H
  have LMc43 := Aside0.mk c43
  clear c43
  obtain ⟨y395, hy395⟩ : ∃ y_ : List (S83), y_ = (t389 ++ [(⟨a1, a2⟩ : S83)]) := ⟨_, rfl⟩
  replace H : (some (t386, y395, true)) = some (r1, r2, r3) := by first | (rw [hy395]; with_reducible exact H) | (have H2_ := (Option.bind_some _ _).symm.trans H; rw [hy395]; with_reducible exact H2_) | (have H2_ := (Option.bind_some _ _).symm.trans H; with_reducible exact H2_) | with_reducible exact H | (rw [hy395]; exact H) | exact H
  have Ny395 := Aside0.mk hy395
  clear hy395
  simp only [Option.some.injEq, Prod.mk.injEq] at H
  obtain ⟨rfl, rfl, rfl⟩ := H
  go_enter Try.func21, Try.ntmps21
  go_wp2_with (first | ((with_reducible refine gate_dst (N := 3) rfl ?_); (try (refine gate_guard zdy ?_; dsimp only)); refine qB 3 #[.slice A0_0 l0_0.length c0_0, .slice A0_1 l0_1.length c0_1] 38 ?_; intro gb384 hg w44 hbox hb; have BK384 := Aside0.mk (hbox); have GW384 := Aside0.mk ((zef : w.heap.size ≤ gb384)); have GE384 := GW384; replace HB := Aside0.mk (below_step za hb); clear hb hbox hg) | ((with_reducible refine gate_dst (N := 6) rfl ?_); (try (refine gate_guard zdy ?_; dsimp only)); refine qB 6 #[.slice none 0 0, .slice none 0 0] 38 ?_; intro gb385 hg w45 hbox hb; have BK385 := Aside0.mk (hbox); have GW385 := Aside0.mk ((zej : w.heap.size ≤ gb385)); have GE385 := GW385; replace HB := Aside0.mk (below_step zas hb); have NB384_385 := Aside0.mk ((zds : gb384 ≠ gb385)); have NB385_384 := Aside0.mk NB384_385.out.symm; replace BK384 := Aside0.mk (bB BK384.out hb); clear hb hbox hg; have hnb46 := NB384_385.out; have hnc46 := NB385_384.out; obtain ⟨_, _, _, _⟩ := qk2 BK384.out) | ((with_reducible refine gate_callee (f := 49) rfl ?_); refine qG (some 10) Try.func49 #[.agg #[.slice A0_0 l0_0.length c0_0, .slice A0_1 l0_1.length c0_1]] ?_; (with_reducible refine (spec_l03Copy.calls _ _ l0_0 _ _ l0_1 t386 t389 _ ?side1 ?side2 ?side3 ?side4 A4.out).mono ?_); (case side1 => exact zao); (case side2 => exact HC0_0.out); (case side3 => exact zba); (case side4 => exact HC0_1.out); rintro e w48 ⟨v387, v390, rfl, ho0, ho1, hb⟩; refine ⟨_, rfl, ?_⟩; have HO388 := Aside0.mk (Kd.R_lower ho0 (below_size zi)); have HO391 := Aside0.mk (Kd.R_lower ho1 (below_size zi)); replace BK384 := Aside0.mk (bB BK384.out hb); replace BK385 := Aside0.mk (bB BK385.out hb); replace HB := Aside0.mk (below_step zi hb); try clear hb ho0 ho1) | ((with_reducible refine gate_dst (N := 8) rfl ?_); (try (refine gate_guard zdy ?_; dsimp only)); refine qB 8 #[.slice none 0 0, .slice none 0 0] 38 ?_; intro gb392 hg w49 hbox hb; replace HO388 := Aside0.mk (Kd.R_below zbt hb); replace HO391 := Aside0.mk (Kd.R_below zbk hb); have BK392 := Aside0.mk (hbox); have GW392 := Aside0.mk ((zek : w.heap.size ≤ gb392)); have GE392 := GW392; replace HB := Aside0.mk (below_step zi hb); have NB384_392 := Aside0.mk ((zds : gb384 ≠ gb392)); have NB392_384 := Aside0.mk NB384_392.out.symm; replace BK384 := Aside0.mk (bB BK384.out hb); have NB385_392 := Aside0.mk ((zd6 : gb385 ≠ gb392)); have NB392_385 := Aside0.mk NB385_392.out.symm; replace BK385 := Aside0.mk (bB BK385.out hb); clear hb hbox hg; obtain ⟨Ao50, co50, eo50⟩ := Kd.R_slice HO388.out; subst eo50; have hnb51 := NB392_384.out; have hnc51 := NB384_392.out; have hnb52 := NB392_385.out; have hnc52 := NB385_392.out; obtain ⟨_, _, _, _⟩ := qk2 BK392.out; obtain ⟨Ao54, co54, eo54⟩ := Kd.R_slice HO391.out; subst eo54; obtain ⟨_, _, _, _⟩ := qk2 BK384.out) | ((with_reducible refine gate_callee (f := 50) rfl ?_); refine qG (some 12) Try.func50 #[.agg #[.slice A0_0 l0_0.length c0_0, .slice A0_1 l0_1.length c0_1]] ?_; (with_reducible refine (spec_DiskOk.calls k _ _ l0_0 _ _ l0_1 true _ ?side1 ?side2 ?side3 ?side4 A5.out).mono ?_); (case side1 => exact Kd.C_below HR0_0.out zf); (case side2 => exact HC0_0.out); (case side3 => exact Kd.C_below HR0_1.out zf); (case side4 => exact HC0_1.out); rintro e w56 ⟨rfl, hb⟩; refine ⟨_, rfl, ?_⟩; replace HO388 := Aside0.mk (Kd.R_below (rK HO388.out BK392.out) hb); replace HO391 := Aside0.mk (Kd.R_below (rK HO391.out BK392.out) hb); replace BK384 := Aside0.mk (blk_below (bK BK384.out NB384_392.out) hb); replace BK385 := Aside0.mk (blk_below (bK BK385.out NB385_392.out) hb); replace BK392 := Aside0.mk (blk_below (g := gb392) (o := .cells #[.slice Ao50 t386.length co50, .slice Ao54 t389.length co54] 38 (0, 0)) (p2 BK392.out) hb); replace HB := Aside0.mk (below_step zf hb); try clear hb; obtain ⟨_, _, _, _⟩ := qk2 BK384.out) | (go_at_call 45; (with_reducible refine (spec_l01In.calls a1 0 (wrap64 ((l0_0.length : Int) - 1)) true _ A7.out).mono ?_); rintro e w' ⟨rfl, ⟨nd, rfl⟩⟩; (try (rw [drewN_self w56]; generalize hq_ : World.drewN w56 _ = w56; have n0_ : Aside0 (Kd.R Kd.string 9 w56 w.heap.size (fun _ => True) (.slice Ao50 t386.length co50) t386) := ⟨by rw [← hq_]; exact zbt⟩; have n1_ : Aside0 (Kd.R k83 83 w56 w.heap.size (fun _ => True) (.slice Ao54 t389.length co54) t389) := ⟨by rw [← hq_]; exact zbk⟩; have n2_ : Aside0 (w56.heap[gb384]? = some (.cells #[.slice A0_0 l0_0.length c0_0, .slice A0_1 l0_1.length c0_1] 38 (0, 0))) := ⟨zd8⟩; have n3_ : Aside0 (w56.heap[gb385]? = some (.cells #[.slice none 0 0, .slice none 0 0] 38 (0, 0))) := ⟨zd9⟩; have n4_ : Aside0 (w56.heap[gb392]? = some (.cells #[.slice Ao50 t386.length co50, .slice Ao54 t389.length co54] 38 (0, 0))) := ⟨zea⟩; have n5_ : Aside0 (Below w.heap.size w w56) := ⟨by rw [← hq_]; exact zf⟩; clear HO388 HO391 BK384 BK385 BK392 HB hq_; have HO388 := n0_; have HO391 := n1_; have BK384 := n2_; have BK385 := n3_; have BK392 := n4_; have HB := n5_; clear n0_ n1_ n2_ n3_ n4_ n5_)); (try have hcr384_0 : w56.cell? ⟨gb384, 0, none⟩ = some (.slice A0_0 l0_0.length c0_0) := qx BK384 0); (try have hfr384_0 := blk_frozen BK384.out 0); (try have hcr384_1 : w56.cell? ⟨gb384, 1, none⟩ = some (.slice A0_1 l0_1.length c0_1) := qx BK384 1); (try have hfr384_1 := blk_frozen BK384.out 1); (try have hcr385_0 : w56.cell? ⟨gb385, 0, none⟩ = some (.slice none 0 0) := qx BK385 0); (try have hfr385_0 := blk_frozen BK385.out 0); (try have hcr385_1 : w56.cell? ⟨gb385, 1, none⟩ = some (.slice none 0 0) := qx BK385 1); (try have hfr385_1 := blk_frozen BK385.out 1); (try have hcr392_0 : w56.cell? ⟨gb392, 0, none⟩ = some (.slice Ao50 t386.length co50) := qx BK392 0); (try have hfr392_0 := blk_frozen BK392.out 0); (try have hcr392_1 : w56.cell? ⟨gb392, 1, none⟩ = some (.slice Ao54 t389.length co54) := qx BK392 1); (try have hfr392_1 := blk_frozen BK392.out 1); obtain ⟨_, _, _, _⟩ := qk2 BK392.out) | ((with_reducible refine gate_builtin (b := .append) (xs := #[.tmp 36, .tmp 40]) rfl ?_); (try (refine gate_guard zdy ?_; dsimp only)); at_builtin; refine Kd.R_append k83 (w0 := w) w.heap.size rfl (.tmp 36) (.tmp 40) 36 83 (.agg #[(.int .i64 0), (.string ⟨#[]⟩)]) 24 rfl Try.underlying36 info83 rfl zbf zd4 (.slice Ao54 t389.length co54) t389 (⟨a1, a2⟩ : S83) [.int .i64 a1, .string a2] (fun _ => True) (fun _ => False) rfl rfl ?aP (fun _ hk => hk.elim) ?aF ?aO ?aB ?aS ?aL ?_; (case aP => exact k83_mkM _ _ _ (⟨a1, a2⟩ : S83)); (case aB => exact zf); (case aF => exact (fun _ _ => trivial)); (case aO => exact zbk); (case aS => exact (below_size zf)); (case aL => have := LMc43.out; omega); intro v396 w59 ho hb hg hat; rw [← Ny395.out] at ho; replace BK384 := Aside0.mk (blk_grown (bP BK384.out) hg (Kd.R_ne HO391.out BK384.out zbf)); replace BK385 := Aside0.mk (blk_grown (bP BK385.out) hg (Kd.R_ne HO391.out BK385.out zbf)); replace HO388 := Aside0.mk (Kd.R_over' zbt (Kd.R_typed zbk) zbf hg); replace BK392 := Aside0.mk (blk_grown (bP BK392.out) hg (Kd.R_ne HO391.out BK392.out zbf)); replace HB := Aside0.mk (hb); have HO397 := Aside0.mk (ho); clear HO391; clear ho hb hg hat; obtain ⟨Ao60, co60, eo60⟩ := Kd.R_slice HO397.out; subst eo60; obtain ⟨_, _, _, _⟩ := qk2 BK392.out; obtain ⟨_, _, _, _⟩ := qk2 BK385.out))
  refine bodyPost_ret (results_ct rfl _ _ gb385 38 #[.slice Ao50 t386.length co50, .slice Ao60 y395.length co60] (0, 0) _ rfl (p2 (blk_far BK385.out NB385_392.out _)) Try.underlying38 rfl za5) rfl ?_
  exact ⟨_, _, zc, Kd.R_mono (rK2 HO388.out BK392.out BK385.out) (fun _ _ => trivial), Kd.R_mono (rK2 HO397.out BK392.out BK385.out) (fun _ _ => trivial), zf⟩
/-! ### impl_MetaPage: function 22 -/
def impl_MetaPage.f (a0 : Int) : Option (Int) := some (Go.bits .and .i64 a0 1)
set_option maxHeartbeats 8000000 in
set_option maxRecDepth 100000 in
theorem impl_MetaPage.calls (a0 : Int) (r : Int) (w : World) (h : impl_MetaPage.f a0 = some r) :
    Calls Try.prog 22 #[.int .i64 a0] w fun e w' => e = .returned (.int .i64 r) ∧ Drawn0 w w' := by
  have H : (some (Go.bits .and .i64 a0 1)) = some r := h
  clear h
  obtain rfl := Option.some.inj H
  go_enter Try.func22, Try.ntmps22
  go_wp2
  go_ret
  exact ⟨zd, z5⟩

/-! ### spec_l06Copy: function 73 -/
def spec_l06Copy.l0 : Nat → Int → Int → Int → Int → List (S60) → Int → Int → Int → List (S60) → Option (Int × Int × Int × (List (S60)))
  | 0, _, _, _, _, _, _, _, _, _ => none
  | k + 1, x4, x399000, x399001, x399002, x399003, x401000, x401001, x401002, x401003 => if x4 < (x399003.length : Int) then (if 0 ≤ x4 then ((some (([] : List Int) : List Int)).bind fun y405 => (if y405.length + ((rd_T60 x399003 x4).f1).length < 17592186044416 then (if x401003.length < 4398046511104 then (spec_l06Copy.l0 k (wrap64 (x4 + 1)) x399000 x399001 x399002 x399003 x401000 x401001 x401002 (x401003 ++ [(⟨(rd_T60 x399003 x4).f0, (y405 ++ ((rd_T60 x399003 x4).f1))⟩ : S60)])) else (none)) else (none))) else (none)) else (some (x401000, x401001, x401002, x401003))
def spec_l06Copy.f (k : Nat) (a0_0 : Int) (a0_1 : Int) (a0_2 : Int) (l0_3 : List (S60)) : Option (Int × Int × Int × (List (S60))) := spec_l06Copy.l0 k 0 a0_0 a0_1 a0_2 l0_3 a0_0 a0_1 a0_2 (([] : List (S60)))
theorem spec_l06Copy.mono_l : ∀ k, (∀ y0 y1 y2 y3 y4 y5 y6 y7 y8, LeO (spec_l06Copy.l0 k y0 y1 y2 y3 y4 y5 y6 y7 y8) (spec_l06Copy.l0 (k + 1) y0 y1 y2 y3 y4 y5 y6 y7 y8))
  | 0 => fun _ _ _ _ _ _ _ _ _ r h => by simp [spec_l06Copy.l0] at h
  | k + 1 => by
    have ih0 := spec_l06Copy.mono_l k
    · intro y0 y1 y2 y3 y4 y5 y6 y7 y8
      unfold spec_l06Copy.l0
      exact qv
theorem spec_l06Copy.mono : ∀ a0 a1 a2 a3 k, LeO (spec_l06Copy.f k a0 a1 a2 a3) (spec_l06Copy.f (k + 1) a0 a1 a2 a3) := by
  intro a0 a1 a2 a3 k
  have ih0 := spec_l06Copy.mono_l k
  unfold spec_l06Copy.f
  exact qv
def spec_l06Copy.T6 : Bool × List (List Nat × List Nat) := (true, [([], []), ([0], [0]), ([], []), ([2], [2]), ([], []), ([3, 4], [3, 4]), ([5], [5]), ([6], [6]), ([], []), ([], []), ([9], [9]), ([], []), ([10, 11], [10, 11]), ([12], [12]), ([13], [13]), ([8, 14], [8, 14]), ([7, 15], [7, 15]), ([16], [16]), ([1, 17, 15], [1, 17]), ([0, 1, 2, 3, 4, 5, 6, 7, 8, 9, 10, 11, 12, 13, 14, 15, 16, 17, 18], []), ([19, 18, 18, 0, 1, 2, 3, 4, 5, 6, 7, 8, 9, 10, 11, 12, 13, 14, 15, 16, 17, 18], [18, 19])])
def spec_l06Copy.B6 : List Nat := [0, 1, 0, 4, 0, 28, 60, 124, 0, 0, 512, 0, 3584, 7680, 15872, 32512, 65532, 131068, 262143, 524287, 1048575]
theorem spec_l06Copy.tab6 : rtab .any (opsOf Try.f73 6) = spec_l06Copy.T6 := by kernel_rfl
theorem spec_l06Copy.bits6 : waitsOk spec_l06Copy.T6.2 spec_l06Copy.B6 = true := by kernel_rfl
set_option maxHeartbeats 8000000 in
set_option maxRecDepth 100000 in
theorem spec_l06Copy.calls (k : Nat) (a0_0 : Int) (a0_1 : Int) (a0_2 : Int) (A0_3 : Option Addr) (c0_3 : Nat) (l0_3 : List (S60)) (r1 : Int) (r2 : Int) (r3 : Int) (r4 : List (S60)) (w : World) (hr0_3 : Kd.C k60 w A0_3 l0_3.length l0_3) (hc0_3 : l0_3.length ≤ c0_3) (h : spec_l06Copy.f k a0_0 a0_1 a0_2 l0_3 = some (r1, r2, r3, r4)) :
    Calls Try.prog 73 #[.agg #[.int .i64 a0_0, .int .i64 a0_1, .int .i64 a0_2, .slice A0_3 l0_3.length c0_3]] w fun e w' => ∃ v3_ : Value, e = .returned (.agg #[.int .i64 r1, .int .i64 r2, .int .i64 r3, v3_]) ∧ Kd.S k60 60 w' w.heap.size (fun _ => True) v3_ r4 ∧ Below w.heap.size w w' := by
  have hu24 := Try.underlying24
  have hu60 := Try.underlying60
  have HR0_3 := Aside0.mk hr0_3
  clear hr0_3 hc0_3
  have HB := Aside0.mk (Below.refl w.heap.size w)
  unfold spec_l06Copy.f at h
  have H := h
  clear h
  obtain ⟨y401, hy401⟩ : ∃ y_ : List (S60), y_ = (([] : List (S60))) := ⟨_, rfl⟩
  replace H : (spec_l06Copy.l0 k 0 a0_0 a0_1 a0_2 l0_3 a0_0 a0_1 a0_2 y401) = some (r1, r2, r3, r4) := by first | (rw [hy401]; with_reducible exact H) | (have H2_ := (Option.bind_some _ _).symm.trans H; rw [hy401]; with_reducible exact H2_) | (have H2_ := (Option.bind_some _ _).symm.trans H; with_reducible exact H2_) | with_reducible exact H | (rw [hy401]; exact H) | exact H
  have Ny401 := Aside0.mk hy401
  clear hy401
  have H' := Aside0.mk H
  clear H
  go_enter Try.func73, Try.ntmps73
  go_wp2_with (first | ((with_reducible refine gate_dst (N := 1) rfl ?_); refine qB 1 #[.int .i64 a0_0, .int .i64 a0_1, .int .i64 a0_2, .slice A0_3 l0_3.length c0_3] 24 ?_; intro gb398 hg w2 hbox hb; have BK398 := Aside0.mk (hbox); have GW398 := Aside0.mk ((zef : w.heap.size ≤ gb398)); have GE398 := GW398; replace HB := Aside0.mk (below_step za hb); clear hb hbox hg) | ((with_reducible refine gate_dst (N := 2) rfl ?_); refine qB 2 #[.int .i64 0, .int .i64 0, .int .i64 0, .slice none 0 0] 24 ?_; intro gb399 hg w3 hbox hb; have BK399 := Aside0.mk (hbox); have GW399 := Aside0.mk ((by rw [hg]; exact (below_size (by repeat (first | (with_reducible first | exact HB.out | apply below_alloc | apply pw_below_drewN | apply below_drew1 | refine below_set ?_ GE398.out) | exact HB.out))) : w.heap.size ≤ gb399)); have GE399 := GW399; replace HB := Aside0.mk (below_step (by repeat (first | (with_reducible first | exact HB.out | apply below_alloc | apply pw_below_drewN | apply below_drew1 | refine below_set ?_ GE398.out) | exact HB.out)) hb); have NB398_399 := Aside0.mk ((by rw [hg]; exact Nat.ne_of_lt (bL BK398.out) : gb398 ≠ gb399)); have NB399_398 := Aside0.mk NB398_399.out.symm; replace BK398 := Aside0.mk (bB BK398.out hb); clear hb hbox hg; have hnb4 := NB398_399.out; have hnc4 := NB399_398.out; obtain ⟨hcz5_0, hcz5_1, hcz5_2, hcz5_3, hfz5_0, hfz5_1, hfz5_2, hfz5_3⟩ := qk4 BK398.out) | ((with_reducible refine gate_dst (N := 3) rfl ?_); refine qB 3 #[.int .i64 0, .int .i64 0, .int .i64 0, .slice none 0 0] 24 ?_; intro gb400 hg w6 hbox hb; have BK400 := Aside0.mk (hbox); have GW400 := Aside0.mk ((by rw [hg]; exact (below_size (by repeat (first | (with_reducible first | exact HB.out | apply below_alloc | apply pw_below_drewN | apply below_drew1 | refine below_set ?_ GE398.out | refine below_set ?_ GE399.out) | exact HB.out))) : w.heap.size ≤ gb400)); have GE400 := GW400; replace HB := Aside0.mk (below_step (by repeat (first | (with_reducible first | exact HB.out | apply below_alloc | apply pw_below_drewN | apply below_drew1 | refine below_set ?_ GE398.out | refine below_set ?_ GE399.out) | exact HB.out)) hb); have NB398_400 := Aside0.mk ((by rw [hg]; exact Nat.ne_of_lt (bL BK398.out) : gb398 ≠ gb400)); have NB400_398 := Aside0.mk NB398_400.out.symm; replace BK398 := Aside0.mk (bB BK398.out hb); have NB399_400 := Aside0.mk ((by rw [hg]; exact Nat.ne_of_lt (bL BK399.out) : gb399 ≠ gb400)); have NB400_399 := Aside0.mk NB399_400.out.symm; replace BK399 := Aside0.mk (bB BK399.out hb); clear hb hbox hg; have hnb7 := NB400_398.out; have hnc7 := NB398_400.out; have hnb8 := NB400_399.out; have hnc8 := NB399_400.out; obtain ⟨hcz9_0, hcz9_1, hcz9_2, hcz9_3, hfz9_0, hfz9_1, hfz9_2, hfz9_3⟩ := qk4 BK400.out) | ((with_reducible refine gate_dst (N := 6) rfl ?_); refine Kd.S_lit k60 _ 60 ?hg (N := 6) ?hd (xs := ([] : List (S60))) (inner := []) (ok := fun _ => True) (okp := fun _ => True) ?hr ?hp (fun _ hk => hk) trivial (Below.refl _ _) (Nat.le_refl _) zdw ?_; (case hd => rfl); (case hg => rfl); (case hr => first | (go_simp; done) | (go_simp; rfl)); (case hp => exact (Reps.none _ _)); intro v402 w10 ho11 hb hg_ hnew_; clear hg_ hnew_; (first | rw [← Ny401.out] at ho11 | (simp only [Int.reduceToNat] at ho11; rw [← Ny401.out] at ho11)); have HO403 := Aside0.mk (Kd.S_lower ho11 (below_size z6)); replace BK398 := Aside0.mk (blk_below (bK BK398.out NB398_400.out) hb); replace BK399 := Aside0.mk (blk_below (bK BK399.out NB399_400.out) hb); replace BK400 := Aside0.mk (blk_below (g := gb400) (o := .cells #[.int .i64 a0_0, .int .i64 a0_1, .int .i64 a0_2, .slice A0_3 l0_3.length c0_3] 24 (0, 0)) (p4 BK400.out) hb); replace HB := Aside0.mk (below_step z6 hb); clear hb ho11; obtain ⟨Ao12, co12, eo12⟩ := Kd.S_slice HO403.out; subst eo12; obtain ⟨hcz13_0, hcz13_1, hcz13_2, hcz13_3, hfz13_0, hfz13_1, hfz13_2, hfz13_3⟩ := qk4 BK400.out))
  go_loopg [4] k (fun kq v4 w' => ∃ (x4_1 : Int) (x401003_1 : List (S60)) (u401003 : Value), v4 = .int .i64 x4_1 ∧ Aside0 (spec_l06Copy.l0 kq x4_1 a0_0 a0_1 a0_2 l0_3 a0_0 a0_1 a0_2 x401003_1 = some (r1, r2, r3, r4)) ∧ Aside0 (kq ≤ k) ∧ Aside0 (Kd.S k60 60 w' w.heap.size (fun _ => True) u401003 x401003_1) ∧ Aside0 (w'.heap[gb398]? = some (.cells #[.int .i64 a0_0, .int .i64 a0_1, .int .i64 a0_2, (.slice A0_3 l0_3.length c0_3)] 24 (0, 0))) ∧ Aside0 (w'.heap[gb399]? = some (.cells #[.int .i64 0, .int .i64 0, .int .i64 0, (.slice none 0 0)] 24 (0, 0))) ∧ Aside0 (w'.heap[gb400]? = some (.cells #[.int .i64 a0_0, .int .i64 a0_1, .int .i64 a0_2, u401003] 24 (0, 0))) ∧ Aside0 (Below w.heap.size w w'))
  case atStart => exact ⟨(0), (y401), (.slice Ao12 y401.length co12), zd, H', ⟨Nat.le_refl _⟩, ⟨Kd.S_mono (sK HO403.out BK400.out) (fun _ _ => trivial)⟩, ⟨by (with_reducible repeat (first | refine blk_drewN ?_ _ | refine blk_drew ?_ | refine blk_alloc ?_ _)); refine blk_far ?_ NB398_400.out _; (with_reducible repeat (first | refine blk_drewN ?_ _ | refine blk_drew ?_ | refine blk_alloc ?_ _)); exact BK398.out⟩, ⟨by (with_reducible repeat (first | refine blk_drewN ?_ _ | refine blk_drew ?_ | refine blk_alloc ?_ _)); refine blk_far ?_ NB399_400.out _; (with_reducible repeat (first | refine blk_drewN ?_ _ | refine blk_drew ?_ | refine blk_alloc ?_ _)); exact BK399.out⟩, ⟨by (with_reducible repeat (first | refine blk_drewN ?_ _ | refine blk_drew ?_ | refine blk_alloc ?_ _)); refine blk_put (cs := #[.int .i64 a0_0, .int .i64 a0_1, .int .i64 a0_2, .slice A0_3 l0_3.length c0_3]) ?_ 3 _ rfl; (with_reducible repeat (first | refine blk_drewN ?_ _ | refine blk_drew ?_ | refine blk_alloc ?_ _)); exact BK400.out⟩, ⟨z6⟩⟩
  case round =>
    clear H'
    (try clear hcz13_0); (try clear hcz13_1); (try clear hcz13_2 hcz13_3 hfz13_2 hfz13_3); (try clear hcz5_0 hcz5_1 hcz5_2 hcz5_3 hfz5_0 hfz5_1 hfz5_2 hfz5_3); (try clear hcz9_0 hcz9_1 hcz9_2 hcz9_3 hfz9_0 hfz9_1 hfz9_2 hfz9_3); (try clear hfz13_0); (try clear hfz13_1)
    try clear BK398 BK399 BK400 HB
    obtain ⟨x4_1, x401003_1, u401003, rfl, HA, HK1, HO_401003, BK398, BK399, BK400, HB⟩ := hrel
    cases gk with
    | zero => exact absurd HA.out (by simp [spec_l06Copy.l0])
    | succ k1 =>
      have H := HA.out
      clear HA
      simp only [spec_l06Copy.l0] at H
      by_cases c14 : x4_1 < (l0_3.length : Int)
      case neg =>
        rw [if_neg c14] at H
        have c14b0 := decide_eq_false c14
        clear c14
        simp only [Option.some.injEq, Prod.mk.injEq] at H
        obtain ⟨rfl, rfl, rfl, rfl⟩ := H
        have hnb29 := NB398_399.out
        have hnc29 := NB399_398.out
        have hnb30 := NB398_400.out
        have hnc30 := NB400_398.out
        obtain ⟨_, _, _, _, _, _, _, _⟩ := qk4 BK398.out
        have hnb32 := NB400_399.out
        have hnc32 := NB399_400.out
        obtain ⟨_, _, _, _, _, _, _, _⟩ := qk4 BK400.out
        obtain ⟨_, _, _, _, _, _, _, _⟩ := qk4 BK399.out
        obtain ⟨Ao35, co35, eo35⟩ := Kd.S_slice HO_401003.out
        subst eo35
        go_wp2
        refine bodyPost_ret (results_cell_row rfl _ _ gb399 24 #[.int .i64 a0_0, .int .i64 a0_1, .int .i64 a0_2, .slice Ao35 x401003_1.length co35] (0, 0) _ rfl (p4 BK399.out) Try.underlying24 rfl za5) rfl ?_
        exact ⟨_, zc, Kd.S_mono (sK HO_401003.out BK399.out) (fun _ _ => trivial), z6⟩

      rw [if_pos c14] at H
      have c14b0 := decide_eq_true c14
      clear c14
      by_cases c15 : 0 ≤ x4_1
      case neg => exact qn c15 H
      rw [if_pos c15] at H
      have c15b0 := decide_eq_true c15
      clear c15
      obtain ⟨y405, hy405⟩ : ∃ y_ : List Int, y_ = (([] : List Int)) := ⟨_, rfl⟩
      replace H : (if y405.length + ((rd_T60 l0_3 x4_1).f1).length < 17592186044416 then (if x401003_1.length < 4398046511104 then (spec_l06Copy.l0 k1 (wrap64 (x4_1 + 1)) a0_0 a0_1 a0_2 l0_3 a0_0 a0_1 a0_2 (x401003_1 ++ [(⟨(rd_T60 l0_3 x4_1).f0, (y405 ++ ((rd_T60 l0_3 x4_1).f1))⟩ : S60)])) else (none)) else (none)) = some (r1, r2, r3, r4) := by first | (rw [hy405]; with_reducible exact H) | (have H2_ := (Option.bind_some _ _).symm.trans H; rw [hy405]; with_reducible exact H2_) | (have H2_ := (Option.bind_some _ _).symm.trans H; with_reducible exact H2_) | with_reducible exact H | (rw [hy405]; exact H) | exact H
      have Ny405 := Aside0.mk hy405
      clear hy405
      by_cases c16 : y405.length + ((rd_T60 l0_3 x4_1).f1).length < 17592186044416
      case neg => exact qn c16 H
      rw [if_pos c16] at H
      have LMc16 := Aside0.mk c16
      clear c16
      obtain ⟨y409, hy409⟩ : ∃ y_ : List Int, y_ = (y405 ++ ((rd_T60 l0_3 x4_1).f1)) := ⟨_, rfl⟩
      replace H : (if x401003_1.length < 4398046511104 then (spec_l06Copy.l0 k1 (wrap64 (x4_1 + 1)) a0_0 a0_1 a0_2 l0_3 a0_0 a0_1 a0_2 (x401003_1 ++ [(⟨(rd_T60 l0_3 x4_1).f0, y409⟩ : S60)])) else (none)) = some (r1, r2, r3, r4) := by first | (rw [hy409]; with_reducible exact H) | (have H2_ := (Option.bind_some _ _).symm.trans H; rw [hy409]; with_reducible exact H2_) | (have H2_ := (Option.bind_some _ _).symm.trans H; with_reducible exact H2_) | with_reducible exact H | (rw [hy409]; exact H) | exact H
      have Ny409 := Aside0.mk hy409
      clear hy409
      by_cases c17 : x401003_1.length < 4398046511104
      case neg => exact qn c17 H
      rw [if_pos c17] at H
      have LMc17 := Aside0.mk c17
      clear c17
      obtain ⟨y412, hy412⟩ : ∃ y_ : List (S60), y_ = (x401003_1 ++ [(⟨(rd_T60 l0_3 x4_1).f0, y409⟩ : S60)]) := ⟨_, rfl⟩
      replace H : (spec_l06Copy.l0 k1 (wrap64 (x4_1 + 1)) a0_0 a0_1 a0_2 l0_3 a0_0 a0_1 a0_2 y412) = some (r1, r2, r3, r4) := by first | (rw [hy412]; with_reducible exact H) | (have H2_ := (Option.bind_some _ _).symm.trans H; rw [hy412]; with_reducible exact H2_) | (have H2_ := (Option.bind_some _ _).symm.trans H; with_reducible exact H2_) | with_reducible exact H | (rw [hy412]; exact H) | exact H
      have Ny412 := Aside0.mk hy412
      clear hy412
      have H' := Aside0.mk H
      clear H
      have hnb18 := NB398_399.out
      have hnc18 := NB399_398.out
      have hnb19 := NB398_400.out
      have hnc19 := NB400_398.out
      obtain ⟨_, _, _, _, _, _, _, _⟩ := qk4 BK398.out
      try go_wp2
      replace HO_401003 := Aside0.mk (Kd.S_drew HO_401003.out)
      replace BK398 := Aside0.mk (blk_drew BK398.out)
      replace BK399 := Aside0.mk (blk_drew BK399.out)
      replace BK400 := Aside0.mk (blk_drew BK400.out)
      replace HB := Aside0.mk (below_drew1 HB.out)
      have p404 : 0 ≤ (x4_1 : Int) := of_decide_eq_true zb
      have q404 : x4_1 < (l0_3.length : Int) := of_decide_eq_true zb
      obtain ⟨ad404, A404_1, c404_1, e404, hx404_0, hx404_1, hl404_1, hi404_1⟩ := at_T60 HR0_3.out x4_1 p404 q404
      have hw404_1 := hx404_1
      have hw404_0 := hx404_0
      cases e404
      replace hx404_0 := qw HB hx404_0
      replace hx404_1 := qw HB hx404_1
      clear hi404_1 hl404_1
      replace p404 := eq_true p404
      replace q404 := eq_true q404
      have p408 : 0 ≤ (x4_1 : Int) := of_decide_eq_true zb
      have q408 : x4_1 < (l0_3.length : Int) := of_decide_eq_true zb
      obtain ⟨ad408, A408_1, c408_1, e408, hx408_0, hx408_1, hl408_1, hi408_1⟩ := at_T60 HR0_3.out x4_1 p408 q408
      have hw408_1 := hx408_1
      have hw408_0 := hx408_0
      obtain rfl : ad404 = ad408 := (by injection e408)
      replace hx408_0 := qw HB hx408_0
      replace hx408_1 := qw HB hx408_1
      have HR408_1 := Aside0.mk hi408_1
      clear hi408_1 hl408_1
      replace p408 := eq_true p408
      replace q408 := eq_true q408
      have ea_ := Option.some.inj (hx404_1.symm.trans hx408_1)
      injection ea_ with ea_ en_ ec_
      subst ea_
      subst ec_
      clear en_
      refine start_ (n := 21) (S := fun w' => w'.cell? ⟨gb400, 0, none⟩ = some (.int .i64 a0_0) ∧ w'.cell? ⟨gb400, 1, none⟩ = some (.int .i64 a0_1) ∧ w'.cell? ⟨gb400, 2, none⟩ = some (.int .i64 a0_2) ∧ w'.cell? ⟨gb400, 3, none⟩ = some (u401003) ∧ w'.cell? ⟨gb398, 0, none⟩ = some (.int .i64 a0_0) ∧ w'.cell? ⟨gb398, 1, none⟩ = some (.int .i64 a0_1) ∧ w'.cell? ⟨gb398, 2, none⟩ = some (.int .i64 a0_2) ∧ w'.cell? ⟨gb398, 3, none⟩ = some (.slice (some ad404) l0_3.length c0_3) ∧ w'.cell? (ad404.add ((x4_1).toNat * 2)) = some (.int .i64 ((rd_T60 l0_3 x4_1).f0)) ∧ w'.cell? ⟨(ad404.add ((x4_1).toNat * 2)).block, (ad404.add ((x4_1).toNat * 2)).off + 1, none⟩ = some (.slice A404_1 ((rd_T60 l0_3 x4_1).f1).length c404_1) ∧ w'.cell? (ad404.add ((x4_1).toNat * 2)) = some (.int .i64 ((rd_T60 l0_3 x4_1).f0)) ∧ w'.cell? ⟨(ad404.add ((x4_1).toNat * 2)).block, (ad404.add ((x4_1).toNat * 2)).off + 1, none⟩ = some (.slice A404_1 ((rd_T60 l0_3 x4_1).f1).length c404_1)) (ds := [20]) (bz 21 0) za5 rfl rfl ⟨qx BK400 0, qx BK400 1, qx BK400 2, qx BK400 3, qx BK398 0, qx BK398 1, qx BK398 2, qx BK398 3, (qw HB hw404_0), (qw HB hw404_1), (qw HB hw408_0), (qw HB hw408_1)⟩ (fun hHeld => ?_); refine with_tabW spec_l06Copy.tab6 spec_l06Copy.bits6 (fun HT_ HW_ => ?_)
      generalize wr.drew = w21 at HO_401003 BK398 BK399 BK400 HB HR408_1 hx404_0 hx404_1 hx408_0 hx408_1 hHeld ⊢
      refine ql 0 (some 15) (bz 21 1) HT_ ?_
      refine ql 2 (some 17) (bz 21 5) HT_ ?_
      refine ql 4 (some 19) (bz 21 21) HT_ ?_
      refine ql 9 (some 24) (bz 21 533) HT_ ?_
      refine ql 11 (some 26) (bz 21 2581) HT_ ?_
      refine qt 1 (some 16) (bz 21 2583) HT_ HW_ hHeld ?_
      refine qt 3 (some 18) (bz 21 2591) HT_ HW_ hHeld ?_
      refine ql 5 (some 20) (bz 21 2623) HT_ ?_
      refine ql 6 (some 21) (bz 21 2687) HT_ ?_
      refine qt 7 (some 22) (bz 21 2815) HT_ HW_ hHeld ?_
      refine qt 10 (some 25) (bz 21 3839) HT_ HW_ hHeld ?_
      refine ql 12 (some 27) (bz 21 7935) HT_ ?_
      refine ql 13 (some 28) (bz 21 16127) HT_ ?_
      refine qt 14 (some 29) (bz 21 32511) HT_ HW_ hHeld ?_
      refine qs 8 (some 23) (bz 21 32767) HT_ rfl rfl (fun K hK => ?_)
      refine Kd.R_lit_step (Kd.int .i64) _ 3 ?hg (N := 23) ?hd (xs := ([] : List Int)) (inner := []) (ok := fun _ => True) (okp := fun _ => True) ?hr ?hp (fun _ hk => hk) trivial (Below.refl _ _) (Nat.le_refl _) zdw ?_; (case hd => rfl); (case hg => rfl); (case hr => first | (go_simp; done) | (go_simp; rfl)); (case hp => exact (Reps.none _ _))
      intro v406 w22 ho23 hb hg_ hnew_
      clear hg_ hnew_
      (first | rw [← Ny405.out] at ho23 | (simp only [Int.reduceToNat] at ho23; rw [← Ny405.out] at ho23))
      replace HO_401003 := Aside0.mk (Kd.S_elder' (by (with_reducible repeat (first | apply Kd.S_alloc | apply Kd.S_drewN | apply Kd.S_drew)); exact HO_401003.out) (Kd.R_base ho23) hb)
      have HO407 := Aside0.mk (Kd.R_lower ho23 (below_size z6))
      replace BK398 := Aside0.mk (bB BK398.out hb)
      replace BK399 := Aside0.mk (bB BK399.out hb)
      replace BK400 := Aside0.mk (bB BK400.out hb)
      replace HB := Aside0.mk (below_step z6 hb)
      clear hb ho23
      refine hK.out _ _ ⟨qx BK400 0, qx BK400 1, qx BK400 2, qx BK400 3, qx BK398 0, qx BK398 1, qx BK398 2, qx BK398 3, (qw HB hw404_0), (qw HB hw404_1), (qw HB hw408_0), (qw HB hw408_1)⟩ (fun hHeld => ?_)
      clear hK K
      refine qr (some 23) ?_
      refine qs 15 (some 30) (bz 21 65535) HT_ rfl rfl (fun K hK => ?_)
      refine Kd.R_append_rows_step (Kd.int .i64) (w0 := w) w.heap.size zdy (.tmp 23) (.tmp 29) 58 3 (.int .i64 0) 8 rfl Try.underlying58 info3 rfl zbf zd4 v406 y405 ((rd_T60 l0_3 x4_1).f1) _ _ _ (fun _ => True) (fun _ => False) rfl rfl ?aO ?aR (fun _ _ h => h) (fun _ h => h.elim) ?aF ?aB ?aS ?aL ?_
      (case aR => exact (by repeat (first | exact (Kd.C_below HR408_1.out HB.out) | (with_reducible refine Kd.C_alloc ?_ _) | (with_reducible refine Kd.C_drewN ?_ _) | (with_reducible refine Kd.C_drew ?_))))
      (case aB => exact z6)
      (case aF => exact (fun _ _ => trivial))
      (case aO => exact (by (with_reducible repeat (first | apply Kd.R_alloc | apply Kd.R_drewN | apply Kd.R_drew)); exact HO407.out))
      (case aS => exact (below_size z6))
      (case aL => have := LMc16.out; omega)
      intro v410 w24 ho hb hg hat
      rw [← Ny409.out] at ho
      replace HO_401003 := Aside0.mk (Kd.S_after (ok := (fun _ => True)) (by (with_reducible repeat (first | apply Kd.S_alloc | apply Kd.S_drewN | apply Kd.S_drew)); exact HO_401003.out) hg hat)
      replace BK398 := Aside0.mk (blk_grown (bP BK398.out) hg (Kd.R_ne HO407.out BK398.out zbf))
      replace BK399 := Aside0.mk (blk_grown (bP BK399.out) hg (Kd.R_ne HO407.out BK399.out zbf))
      replace BK400 := Aside0.mk (blk_grown (bP BK400.out) hg (Kd.R_ne HO407.out BK400.out zbf))
      replace HB := Aside0.mk (hb)
      have HO411 := Aside0.mk (ho)
      clear HO407
      clear ho hb hg hat
      obtain ⟨Ao25, co25, eo25⟩ := Kd.R_slice HO411.out
      (first | subst eo25 | (injection eo25 with f1_ f2_ f3_; have f4_ := f1_.symm; have f5_ := f3_.symm; clear f1_ f2_ f3_; subst f4_; subst f5_))
      refine hK.out _ _ ⟨qx BK400 0, qx BK400 1, qx BK400 2, qx BK400 3, qx BK398 0, qx BK398 1, qx BK398 2, qx BK398 3, (qw HB hw404_0), (qw HB hw404_1), (qw HB hw408_0), (qw HB hw408_1)⟩ (fun hHeld => ?_)
      clear hK K
      refine qr (some 30) ?_
      refine ql 16 (some 31) (bz 21 131071) HT_ ?_
      refine qs 17 (some 32) (bz 21 262143) HT_ rfl rfl (fun K hK => ?_)
      refine value_ (w1 := ?_) (v := ?_) zdy rfl ?_ ?_
      rotate_left 2
      · go_simp
        constructor
        · rfl
        · rfl
      refine hK.out _ _ ⟨(blk_cell (blk_alloc BK400.out _) 0).trans rfl, (blk_cell (blk_alloc BK400.out _) 1).trans rfl, (blk_cell (blk_alloc BK400.out _) 2).trans rfl, (blk_cell (blk_alloc BK400.out _) 3).trans rfl, (blk_cell (blk_alloc BK398.out _) 0).trans rfl, (blk_cell (blk_alloc BK398.out _) 1).trans rfl, (blk_cell (blk_alloc BK398.out _) 2).trans rfl, (blk_cell (blk_alloc BK398.out _) 3).trans rfl, (World.cell?_alloc_lt _ _ _ (World.block_lt_of_cell? _ _ ((qw HB hw404_0)))).trans ((qw HB hw404_0)), (World.cell?_alloc_lt _ _ _ (World.block_lt_of_cell? _ _ ((qw HB hw404_1)))).trans ((qw HB hw404_1)), (World.cell?_alloc_lt _ _ _ (World.block_lt_of_cell? _ _ ((qw HB hw408_0)))).trans ((qw HB hw408_0)), (World.cell?_alloc_lt _ _ _ (World.block_lt_of_cell? _ _ ((qw HB hw408_1)))).trans ((qw HB hw408_1))⟩ (fun hHeld => ?_)
      clear hK K
      refine qr (some 32) ?_
      refine qs 18 (some 33) (bz 21 524287) HT_ rfl rfl (fun K hK => ?_)
      refine Kd.S_append_step k60 (w0 := w) w.heap.size zdy (.tmp 16) (.tmp 32) 22 60 (.agg #[(.int .i64 0), (.slice none 0 0)]) 32 rfl Try.underlying22 info60 rfl zbf zd4 u401003 x401003_1 (⟨(rd_T60 l0_3 x4_1).f0, y409⟩ : S60) [.int .i64 ((rd_T60 l0_3 x4_1).f0), .slice Ao25 y409.length co25] (fun _ => True) (fun k_ => some k_ = (.slice Ao25 y409.length co25 : Value).ownBlock) rfl rfl ?aP (fun k_ hk_ => ((Kd.R_mono (ok' := fun k_ => ((fun _ => True)) k_ ∧ some k_ ≠ (u401003 : Value).ownBlock) (Kd.R_apart' (HO411.out) (Kd.S_typed HO_401003.out) zbf) (fun k_ hk => ⟨trivial, hk.2⟩))).1 k_ hk_.symm) ?aF ?aO ?aB ?aS ?aL ?_
      (case aP => exact k60_mkM _ _ _ (⟨(rd_T60 l0_3 x4_1).f0, y409⟩ : S60) (Kd.R_mono (Kd.R_tight rfl (Kd.R_mono (ok' := fun k_ => ((fun _ => True)) k_ ∧ some k_ ≠ (u401003 : Value).ownBlock) (Kd.R_apart' (HO411.out) (Kd.S_typed HO_401003.out) zbf) (fun k_ hk => ⟨trivial, hk.2⟩))) (fun _ h_ => h_)))
      (case aB => exact z6)
      (case aF => exact (fun _ _ => trivial))
      (case aO => exact (by (with_reducible repeat (first | apply Kd.S_alloc | apply Kd.S_drewN | apply Kd.S_drew)); exact Kd.S_mono HO_401003.out (fun k_ hk => ⟨trivial, fun e_ => hk.2 e_⟩)))
      (case aS => exact (below_size z6))
      (case aL => have := LMc17.out; omega)
      intro v413 w26 ho hb hg hat
      rw [← Ny412.out] at ho
      replace BK398 := Aside0.mk (blk_grown (bP BK398.out) hg (Kd.S_ne HO_401003.out BK398.out zbf))
      replace BK399 := Aside0.mk (blk_grown (bP BK399.out) hg (Kd.S_ne HO_401003.out BK399.out zbf))
      replace BK400 := Aside0.mk (blk_grown (bP BK400.out) hg (Kd.S_ne HO_401003.out BK400.out zbf))
      replace HB := Aside0.mk (hb)
      have HO414 := Aside0.mk (ho)
      clear HO_401003 HO411
      clear ho hb hg hat
      obtain ⟨Ao27, co27, eo27⟩ := Kd.S_slice HO414.out
      (first | subst eo27 | (injection eo27 with f1_ f2_ f3_; have f4_ := f1_.symm; have f5_ := f3_.symm; clear f1_ f2_ f3_; subst f4_; subst f5_))
      refine hK.out _ _ ⟨qx BK400 0, qx BK400 1, qx BK400 2, qx BK400 3, qx BK398 0, qx BK398 1, qx BK398 2, qx BK398 3, (qw HB hw404_0), (qw HB hw404_1), (qw HB hw408_0), (qw HB hw408_1)⟩ (fun hHeld => ?_)
      clear hK K
      refine qr (some 33) ?_
      refine ql 19 (some 34) (bz 21 1048575) HT_ ?_
      refine last_ (i := 20) (N := none) (bz 21 2097151) rfl rfl (one_of HT_.out za5) zbf (fun K hK => ?_)
      have hs28 : w26.cell? ⟨gb400, 3, none⟩ = some (u401003) := qx BK400 3
      have hfs28 := blk_frozen BK400.out 3
      have hns28_0 := NB398_400.out
      have hns28_1 := NB399_400.out
      have hms28_0 := NB400_398.out
      have hms28_1 := NB400_399.out
      refine skip_ (w1 := ?_) zdy rfl ?_ ?_
      rotate_left
      · go_simp
        rfl
      refine hK.out _ _ ?_
      clear hK K
      refine qu HT_ ?_
      try go_wp2
      go_roundg k1
      case measure => have := HK1.out; omega
      case rel => exact ⟨(wrap64 (x4_1 + 1)), (y412), (.slice Ao27 y412.length co27), zd, H', ⟨zd3⟩, ⟨Kd.S_mono (sK HO414.out BK400.out) (fun _ _ => trivial)⟩, ⟨by (with_reducible repeat (first | refine blk_drewN ?_ _ | refine blk_drew ?_ | refine blk_alloc ?_ _)); refine blk_far ?_ NB398_400.out _; (with_reducible repeat (first | refine blk_drewN ?_ _ | refine blk_drew ?_ | refine blk_alloc ?_ _)); exact BK398.out⟩, ⟨by (with_reducible repeat (first | refine blk_drewN ?_ _ | refine blk_drew ?_ | refine blk_alloc ?_ _)); refine blk_far ?_ NB399_400.out _; (with_reducible repeat (first | refine blk_drewN ?_ _ | refine blk_drew ?_ | refine blk_alloc ?_ _)); exact BK399.out⟩, ⟨by (with_reducible repeat (first | refine blk_drewN ?_ _ | refine blk_drew ?_ | refine blk_alloc ?_ _)); refine blk_put (cs := #[.int .i64 a0_0, .int .i64 a0_1, .int .i64 a0_2, u401003]) ?_ 3 _ rfl; (with_reducible repeat (first | refine blk_drewN ?_ _ | refine blk_drew ?_ | refine blk_alloc ?_ _)); exact BK400.out⟩, ⟨z6⟩⟩
end Go.Proofs.Yteokilffbcbllaa.VFnBest
