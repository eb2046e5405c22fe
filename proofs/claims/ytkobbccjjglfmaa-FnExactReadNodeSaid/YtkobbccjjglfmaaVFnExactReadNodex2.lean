-- Written by a program of this repo (wip/myprint.py), over the kit's print; functions that the print does not take stand in it by hand-proved contracts.
import Derived.Test.YtkobbccjjglfmaaVFnExactReadNodex0
import Derived.Test.YtkobbccjjglfmaaVFnExactReadNodex1
namespace Go.Proofs.Ytkobbccjjglfmaa.VFnExactReadNode
open Go.RowKit Go.Proofs.YtkobbccjjglfmaaW.PrintWords Go.Proofs.YtkobbccjjglfmaaW.PrintLast Go.Proofs.YtkobbccjjglfmaaW.PrintMore
attribute [local go_sem] max2_int min2_int max_two min_two max_three min_three max_four min_four   -- for this text's walks alone
attribute [local go_sem high] str_leq str_gtr str_geq str_lss
set_option linter.unusedVariables false
set_option linter.unusedSimpArgs false

/-! ### spec_NodeOk: function 79 -/
mutual
def spec_NodeOk.j0 : Nat → Int → Bool → Bool → List ByteArray → List ByteArray → List Int → Option (Bool)
 | 0, _, _, _, _, _, _ => none
 | k + 1, x3, x46, x111000, x111001, x111002, x111003 => if x46 = true then (some false) else (spec_NodeOk.l0 k x3 0 x111000 x111001 x111002 x111003)
def spec_NodeOk.l0 : Nat → Int → Int → Bool → List ByteArray → List ByteArray → List Int → Option (Bool)
 | 0, _, _, _, _, _, _ => none
 | k + 1, x3, x4, x111000, x111001, x111002, x111003 => if x4 < x3 then (if 0 ≤ x4 then (if x4 < (x111001.length : Int) then (if ((rdOf ByteArray.empty x111001 x4).size : Int) > 24 then (spec_NodeOk.j2 k x3 x4 true x111000 x111001 x111002 x111003) else (if x4 > 0 then (if 0 ≤ (wrap64 (x4 - 1)) then (if (wrap64 (x4 - 1)) < (x111001.length : Int) then (spec_NodeOk.j2 k x3 x4 (!(Op.bytesLess ((rdOf ByteArray.empty x111001 (wrap64 (x4 - 1))).toList) ((rdOf ByteArray.empty x111001 x4).toList))) x111000 x111001 x111002 x111003) else (none)) else (none)) else (spec_NodeOk.j2 k x3 x4 false x111000 x111001 x111002 x111003))) else (none)) else (none)) else (some true)
def spec_NodeOk.j2 : Nat → Int → Int → Bool → Bool → List ByteArray → List ByteArray → List Int → Option (Bool)
 | 0, _, _, _, _, _, _, _ => none
 | k + 1, x3, x4, x76, x111000, x111001, x111002, x111003 => if x76 = true then (some false) else (if x111000 = true then (if 0 ≤ x4 then (if x4 < (x111002.length : Int) then (spec_NodeOk.j3 k x3 x4 (decide (((rdOf ByteArray.empty x111002 x4).size : Int) > 24)) x111000 x111001 x111002 x111003) else (none)) else (none)) else (spec_NodeOk.j3 k x3 x4 false x111000 x111001 x111002 x111003))
def spec_NodeOk.j3 : Nat → Int → Int → Bool → Bool → List ByteArray → List ByteArray → List Int → Option (Bool)
 | 0, _, _, _, _, _, _, _ => none
 | k + 1, x3, x4, x87, x111000, x111001, x111002, x111003 => if x87 = true then (some false) else (if x111000 = true then (spec_NodeOk.l0 k x3 (wrap64 (x4 + 1)) x111000 x111001 x111002 x111003) else (if 0 ≤ x4 then (if x4 < (x111003.length : Int) then ((spec_l01In.f (rd x111003 x4) 2 39).bind fun t117 => (if t117 = true then (spec_NodeOk.l1 k x3 x4 0 x111000 x111001 x111002 x111003) else (some false))) else (none)) else (none)))
def spec_NodeOk.l1 : Nat → Int → Int → Int → Bool → List ByteArray → List ByteArray → List Int → Option (Bool)
 | 0, _, _, _, _, _, _, _ => none
 | k + 1, x3, x4, x5, x111000, x111001, x111002, x111003 => if x5 < x4 then (if 0 ≤ x5 then (if x5 < (x111003.length : Int) then (if 0 ≤ x4 then (if x4 < (x111003.length : Int) then (if (rd x111003 x5) = (rd x111003 x4) then (some false) else (spec_NodeOk.l1 k x3 x4 (wrap64 (x5 + 1)) x111000 x111001 x111002 x111003)) else (none)) else (none)) else (none)) else (none)) else (spec_NodeOk.l0 k x3 (wrap64 (x4 + 1)) x111000 x111001 x111002 x111003)
end
def spec_NodeOk.f (k : Nat) (a0_0 : Bool) (l0_1 : List ByteArray) (l0_2 : List ByteArray) (l0_3 : List Int) : Option (Bool) := (spec_l01In.f (l0_1.length : Int) 1 4).bind fun t111 => (if t111 = true then (if a0_0 = true then (if (l0_2.length : Int) = (l0_1.length : Int) then (if (l0_3.length : Int) = 0 then (spec_NodeOk.j0 k (l0_1.length : Int) false a0_0 l0_1 l0_2 l0_3) else (spec_NodeOk.j0 k (l0_1.length : Int) true a0_0 l0_1 l0_2 l0_3)) else (spec_NodeOk.j0 k (l0_1.length : Int) true a0_0 l0_1 l0_2 l0_3)) else (if (l0_3.length : Int) = (l0_1.length : Int) then (spec_NodeOk.j0 k (l0_1.length : Int) ((l0_2.length : Int) != 0) a0_0 l0_1 l0_2 l0_3) else (spec_NodeOk.j0 k (l0_1.length : Int) true a0_0 l0_1 l0_2 l0_3))) else (spec_NodeOk.j0 k (l0_1.length : Int) true a0_0 l0_1 l0_2 l0_3))
theorem spec_NodeOk.mono_l : ∀ k, (∀ y0 y1 y2 y3 y4 y5, LeO (spec_NodeOk.j0 k y0 y1 y2 y3 y4 y5) (spec_NodeOk.j0 (k + 1) y0 y1 y2 y3 y4 y5)) ∧ (∀ y0 y1 y2 y3 y4 y5, LeO (spec_NodeOk.l0 k y0 y1 y2 y3 y4 y5) (spec_NodeOk.l0 (k + 1) y0 y1 y2 y3 y4 y5)) ∧ (∀ y0 y1 y2 y3 y4 y5 y6, LeO (spec_NodeOk.j2 k y0 y1 y2 y3 y4 y5 y6) (spec_NodeOk.j2 (k + 1) y0 y1 y2 y3 y4 y5 y6)) ∧ (∀ y0 y1 y2 y3 y4 y5 y6, LeO (spec_NodeOk.j3 k y0 y1 y2 y3 y4 y5 y6) (spec_NodeOk.j3 (k + 1) y0 y1 y2 y3 y4 y5 y6)) ∧ (∀ y0 y1 y2 y3 y4 y5 y6, LeO (spec_NodeOk.l1 k y0 y1 y2 y3 y4 y5 y6) (spec_NodeOk.l1 (k + 1) y0 y1 y2 y3 y4 y5 y6))
 | 0 => ⟨fun _ _ _ _ _ _ r h => by simp [spec_NodeOk.j0] at h, fun _ _ _ _ _ _ r h => by simp [spec_NodeOk.l0] at h, fun _ _ _ _ _ _ _ r h => by simp [spec_NodeOk.j2] at h, fun _ _ _ _ _ _ _ r h => by simp [spec_NodeOk.j3] at h, fun _ _ _ _ _ _ _ r h => by simp [spec_NodeOk.l1] at h⟩
 | k + 1 => by
  obtain ⟨ih0, ih1, ih2, ih3, ih4⟩ := spec_NodeOk.mono_l k
  refine ⟨?_, ?_, ?_, ?_, ?_⟩
  ·intro y0 y1 y2 y3 y4 y5
   unfold spec_NodeOk.j0
   repeat' first
   | (with_reducible exact ih0 _ _ _ _ _ _)
   | (with_reducible exact ih1 _ _ _ _ _ _)
   | (with_reducible exact ih2 _ _ _ _ _ _ _)
   | (with_reducible exact ih3 _ _ _ _ _ _ _)
   | (with_reducible exact ih4 _ _ _ _ _ _ _)
   | (with_reducible exact LeO.refl _)
   | (with_reducible exact LeO.none _)
   | (with_reducible refine LeO.ite ?_ ?_)
   | (with_reducible refine LeO.bind ?_ (fun _ => ?_))
   | exact ih0 _ _ _ _ _ _
   | exact ih1 _ _ _ _ _ _
   | exact ih2 _ _ _ _ _ _ _
   | exact ih3 _ _ _ _ _ _ _
   | exact ih4 _ _ _ _ _ _ _
   | exact LeO.none _
   | refine LeO.ite ?_ ?_
   | refine LeO.bind ?_ (fun _ => ?_)
  ·intro y0 y1 y2 y3 y4 y5
   unfold spec_NodeOk.l0
   repeat' first
   | (with_reducible exact ih0 _ _ _ _ _ _)
   | (with_reducible exact ih1 _ _ _ _ _ _)
   | (with_reducible exact ih2 _ _ _ _ _ _ _)
   | (with_reducible exact ih3 _ _ _ _ _ _ _)
   | (with_reducible exact ih4 _ _ _ _ _ _ _)
   | (with_reducible exact LeO.refl _)
   | (with_reducible exact LeO.none _)
   | (with_reducible refine LeO.ite ?_ ?_)
   | (with_reducible refine LeO.bind ?_ (fun _ => ?_))
   | exact ih0 _ _ _ _ _ _
   | exact ih1 _ _ _ _ _ _
   | exact ih2 _ _ _ _ _ _ _
   | exact ih3 _ _ _ _ _ _ _
   | exact ih4 _ _ _ _ _ _ _
   | exact LeO.none _
   | refine LeO.ite ?_ ?_
   | refine LeO.bind ?_ (fun _ => ?_)
  ·intro y0 y1 y2 y3 y4 y5 y6
   unfold spec_NodeOk.j2
   repeat' first
   | (with_reducible exact ih0 _ _ _ _ _ _)
   | (with_reducible exact ih1 _ _ _ _ _ _)
   | (with_reducible exact ih2 _ _ _ _ _ _ _)
   | (with_reducible exact ih3 _ _ _ _ _ _ _)
   | (with_reducible exact ih4 _ _ _ _ _ _ _)
   | (with_reducible exact LeO.refl _)
   | (with_reducible exact LeO.none _)
   | (with_reducible refine LeO.ite ?_ ?_)
   | (with_reducible refine LeO.bind ?_ (fun _ => ?_))
   | exact ih0 _ _ _ _ _ _
   | exact ih1 _ _ _ _ _ _
   | exact ih2 _ _ _ _ _ _ _
   | exact ih3 _ _ _ _ _ _ _
   | exact ih4 _ _ _ _ _ _ _
   | exact LeO.none _
   | refine LeO.ite ?_ ?_
   | refine LeO.bind ?_ (fun _ => ?_)
  ·intro y0 y1 y2 y3 y4 y5 y6
   unfold spec_NodeOk.j3
   repeat' first
   | (with_reducible exact ih0 _ _ _ _ _ _)
   | (with_reducible exact ih1 _ _ _ _ _ _)
   | (with_reducible exact ih2 _ _ _ _ _ _ _)
   | (with_reducible exact ih3 _ _ _ _ _ _ _)
   | (with_reducible exact ih4 _ _ _ _ _ _ _)
   | (with_reducible exact LeO.refl _)
   | (with_reducible exact LeO.none _)
   | (with_reducible refine LeO.ite ?_ ?_)
   | (with_reducible refine LeO.bind ?_ (fun _ => ?_))
   | exact ih0 _ _ _ _ _ _
   | exact ih1 _ _ _ _ _ _
   | exact ih2 _ _ _ _ _ _ _
   | exact ih3 _ _ _ _ _ _ _
   | exact ih4 _ _ _ _ _ _ _
   | exact LeO.none _
   | refine LeO.ite ?_ ?_
   | refine LeO.bind ?_ (fun _ => ?_)
  ·intro y0 y1 y2 y3 y4 y5 y6
   unfold spec_NodeOk.l1
   repeat' first
   | (with_reducible exact ih0 _ _ _ _ _ _)
   | (with_reducible exact ih1 _ _ _ _ _ _)
   | (with_reducible exact ih2 _ _ _ _ _ _ _)
   | (with_reducible exact ih3 _ _ _ _ _ _ _)
   | (with_reducible exact ih4 _ _ _ _ _ _ _)
   | (with_reducible exact LeO.refl _)
   | (with_reducible exact LeO.none _)
   | (with_reducible refine LeO.ite ?_ ?_)
   | (with_reducible refine LeO.bind ?_ (fun _ => ?_))
   | exact ih0 _ _ _ _ _ _
   | exact ih1 _ _ _ _ _ _
   | exact ih2 _ _ _ _ _ _ _
   | exact ih3 _ _ _ _ _ _ _
   | exact ih4 _ _ _ _ _ _ _
   | exact LeO.none _
   | refine LeO.ite ?_ ?_
   | refine LeO.bind ?_ (fun _ => ?_)
theorem spec_NodeOk.mono : ∀ a0 a1 a2 a3 k, LeO (spec_NodeOk.f k a0 a1 a2 a3) (spec_NodeOk.f (k + 1) a0 a1 a2 a3) := by
 intro a0 a1 a2 a3 k
 obtain ⟨ih0, ih1, ih2, ih3, ih4⟩ := spec_NodeOk.mono_l k
 unfold spec_NodeOk.f
 repeat' first
   | (with_reducible exact ih0 _ _ _ _ _ _)
   | (with_reducible exact ih1 _ _ _ _ _ _)
   | (with_reducible exact ih2 _ _ _ _ _ _ _)
   | (with_reducible exact ih3 _ _ _ _ _ _ _)
   | (with_reducible exact ih4 _ _ _ _ _ _ _)
   | (with_reducible exact LeO.refl _)
   | (with_reducible exact LeO.none _)
   | (with_reducible refine LeO.ite ?_ ?_)
   | (with_reducible refine LeO.bind ?_ (fun _ => ?_))
   | exact ih0 _ _ _ _ _ _
   | exact ih1 _ _ _ _ _ _
   | exact ih2 _ _ _ _ _ _ _
   | exact ih3 _ _ _ _ _ _ _
   | exact ih4 _ _ _ _ _ _ _
   | exact LeO.none _
   | refine LeO.ite ?_ ?_
   | refine LeO.bind ?_ (fun _ => ?_)
set_option maxHeartbeats 8000000 in
set_option maxRecDepth 100000 in
theorem spec_NodeOk.calls (k : Nat) (a0_0 : Bool) (A0_1 : Option Addr) (c0_1 : Nat) (l0_1 : List ByteArray) (A0_2 : Option Addr) (c0_2 : Nat) (l0_2 : List ByteArray) (A0_3 : Option Addr) (c0_3 : Nat) (l0_3 : List Int) (r : Bool) (w : World) (hr0_1 : Kd.C Kd.string w A0_1 l0_1.length l0_1) (hc0_1 : l0_1.length ≤ c0_1) (hr0_2 : Kd.C Kd.string w A0_2 l0_2.length l0_2) (hc0_2 : l0_2.length ≤ c0_2) (hr0_3 : Kd.C (Kd.int .i64) w A0_3 l0_3.length l0_3) (hc0_3 : l0_3.length ≤ c0_3) (h : spec_NodeOk.f k a0_0 l0_1 l0_2 l0_3 = some r) :
  Calls Try.prog 79 #[.agg #[.bool a0_0, .slice A0_1 l0_1.length c0_1, .slice A0_2 l0_2.length c0_2, .slice A0_3 l0_3.length c0_3]] w fun e w' => e = .returned (.bool r) ∧ Below w.heap.size w w' := by
 have hu29 := Try.underlying29
 have HR0_1 := zj hr0_1
 have HC0_1 := zj hc0_1
 clear hr0_1 hc0_1
 have HR0_2 := zj hr0_2
 have HC0_2 := zj hc0_2
 clear hr0_2 hc0_2
 have HR0_3 := zj hr0_3
 have HC0_3 := zj hc0_3
 clear hr0_3 hc0_3
 have HB := zj (Below.refl w.heap.size w)
 have H : ((spec_l01In.f (l0_1.length : Int) 1 4).bind fun t111 => (if t111 = true then (if a0_0 = true then (if (l0_2.length : Int) = (l0_1.length : Int) then (if (l0_3.length : Int) = 0 then (spec_NodeOk.j0 k (l0_1.length : Int) false a0_0 l0_1 l0_2 l0_3) else (spec_NodeOk.j0 k (l0_1.length : Int) true a0_0 l0_1 l0_2 l0_3)) else (spec_NodeOk.j0 k (l0_1.length : Int) true a0_0 l0_1 l0_2 l0_3)) else (if (l0_3.length : Int) = (l0_1.length : Int) then (spec_NodeOk.j0 k (l0_1.length : Int) ((l0_2.length : Int) != 0) a0_0 l0_1 l0_2 l0_3) else (spec_NodeOk.j0 k (l0_1.length : Int) true a0_0 l0_1 l0_2 l0_3))) else (spec_NodeOk.j0 k (l0_1.length : Int) true a0_0 l0_1 l0_2 l0_3))) = some r := h
 clear h
 have HC2 := zj H
 clear H
 go_enter Try.func79, Try.ntmps79
 go_upto_region 2 with (first | ((with_reducible refine gate_dst (N := 1) rfl ?_); (try (refine gate_guard (by rfl) ?_; dsimp only)); refine box_event ?hg (N := 1) ?hd (cs := #[.bool a0_0, .slice A0_1 l0_1.length c0_1, .slice A0_2 l0_2.length c0_2, .slice A0_3 l0_3.length c0_3]) (t := 29) ?hr ?_; (case hd => rfl); (case hg => rfl); (case hr => first | (go_simp; done) | (go_simp; rfl)); intro gb110 hg w3 hbox hb; have n0_ := zj (zl (by repeat (first | (with_reducible first | exact HB.out | apply zg | apply zh | apply zi) | exact HB.out)) hb); have n1_ := zj (hbox); have n2_ := zj ((by rw [hg]; exact (zk (by repeat (first | (with_reducible first | exact HB.out | apply zg | apply zh | apply zi) | exact HB.out))) : w.heap.size ≤ gb110)); have n3_ := zj ((by rw [hg]; exact (zk (by repeat (first | (with_reducible first | exact HB.out | apply zg | apply zh | apply zi) | exact HB.out))) : w.heap.size ≤ gb110)); clear HB; have HB := n0_; have BK110 := n1_; have GW110 := n2_; have GE110 := n3_; clear n0_ n1_ n2_ n3_; clear hb hbox hg; have hcz4_0 : w3.cell? ⟨gb110, 0, none⟩ = some (.bool a0_0) := (zq BK110.out 0).trans rfl; have hcz4_1 : w3.cell? ⟨gb110, 1, none⟩ = some (.slice A0_1 l0_1.length c0_1) := (zq BK110.out 1).trans rfl; have hcz4_2 : w3.cell? ⟨gb110, 2, none⟩ = some (.slice A0_2 l0_2.length c0_2) := (zq BK110.out 2).trans rfl; have hcz4_3 : w3.cell? ⟨gb110, 3, none⟩ = some (.slice A0_3 l0_3.length c0_3) := (zq BK110.out 3).trans rfl; have hfz4_0 := zu BK110.out 0; have hfz4_1 := zu BK110.out 1; have hfz4_2 := zu BK110.out 2; have hfz4_3 := zu BK110.out 3))
 repeat (go_quiet (first | ((with_reducible refine gate_dst (N := 1) rfl ?_); (try (refine gate_guard (by rfl) ?_; dsimp only)); refine box_event ?hg (N := 1) ?hd (cs := #[.bool a0_0, .slice A0_1 l0_1.length c0_1, .slice A0_2 l0_2.length c0_2, .slice A0_3 l0_3.length c0_3]) (t := 29) ?hr ?_; (case hd => rfl); (case hg => rfl); (case hr => first | (go_simp; done) | (go_simp; rfl)); intro gb110 hg w3 hbox hb; have n0_ := zj (zl (by repeat (first | (with_reducible first | exact HB.out | apply zg | apply zh | apply zi) | exact HB.out)) hb); have n1_ := zj (hbox); have n2_ := zj ((by rw [hg]; exact (zk (by repeat (first | (with_reducible first | exact HB.out | apply zg | apply zh | apply zi) | exact HB.out))) : w.heap.size ≤ gb110)); have n3_ := zj ((by rw [hg]; exact (zk (by repeat (first | (with_reducible first | exact HB.out | apply zg | apply zh | apply zi) | exact HB.out))) : w.heap.size ≤ gb110)); clear HB; have HB := n0_; have BK110 := n1_; have GW110 := n2_; have GE110 := n3_; clear n0_ n1_ n2_ n3_; clear hb hbox hg; have hcz4_0 : w3.cell? ⟨gb110, 0, none⟩ = some (.bool a0_0) := (zq BK110.out 0).trans rfl; have hcz4_1 : w3.cell? ⟨gb110, 1, none⟩ = some (.slice A0_1 l0_1.length c0_1) := (zq BK110.out 1).trans rfl; have hcz4_2 : w3.cell? ⟨gb110, 2, none⟩ = some (.slice A0_2 l0_2.length c0_2) := (zq BK110.out 2).trans rfl; have hcz4_3 : w3.cell? ⟨gb110, 3, none⟩ = some (.slice A0_3 l0_3.length c0_3) := (zq BK110.out 3).trans rfl; have hfz4_0 := zu BK110.out 0; have hfz4_1 := zu BK110.out 1; have hfz4_2 := zu BK110.out 2; have hfz4_3 := zu BK110.out 3)); go_upto_region 2 with (first | ((with_reducible refine gate_dst (N := 1) rfl ?_); (try (refine gate_guard (by rfl) ?_; dsimp only)); refine box_event ?hg (N := 1) ?hd (cs := #[.bool a0_0, .slice A0_1 l0_1.length c0_1, .slice A0_2 l0_2.length c0_2, .slice A0_3 l0_3.length c0_3]) (t := 29) ?hr ?_; (case hd => rfl); (case hg => rfl); (case hr => first | (go_simp; done) | (go_simp; rfl)); intro gb110 hg w3 hbox hb; have n0_ := zj (zl (by repeat (first | (with_reducible first | exact HB.out | apply zg | apply zh | apply zi) | exact HB.out)) hb); have n1_ := zj (hbox); have n2_ := zj ((by rw [hg]; exact (zk (by repeat (first | (with_reducible first | exact HB.out | apply zg | apply zh | apply zi) | exact HB.out))) : w.heap.size ≤ gb110)); have n3_ := zj ((by rw [hg]; exact (zk (by repeat (first | (with_reducible first | exact HB.out | apply zg | apply zh | apply zi) | exact HB.out))) : w.heap.size ≤ gb110)); clear HB; have HB := n0_; have BK110 := n1_; have GW110 := n2_; have GE110 := n3_; clear n0_ n1_ n2_ n3_; clear hb hbox hg; have hcz4_0 : w3.cell? ⟨gb110, 0, none⟩ = some (.bool a0_0) := (zq BK110.out 0).trans rfl; have hcz4_1 : w3.cell? ⟨gb110, 1, none⟩ = some (.slice A0_1 l0_1.length c0_1) := (zq BK110.out 1).trans rfl; have hcz4_2 : w3.cell? ⟨gb110, 2, none⟩ = some (.slice A0_2 l0_2.length c0_2) := (zq BK110.out 2).trans rfl; have hcz4_3 : w3.cell? ⟨gb110, 3, none⟩ = some (.slice A0_3 l0_3.length c0_3) := (zq BK110.out 3).trans rfl; have hfz4_0 := zu BK110.out 0; have hfz4_1 := zu BK110.out 1; have hfz4_2 := zu BK110.out 2; have hfz4_3 := zu BK110.out 3)))
 (try simp only [Act.put, List.setIfInBounds_toArray, List.set_cons_zero, List.set_cons_succ])
 go_cut [46] (fun v46 wc => ∃ (kq : Nat) (x46_1 : Bool), v46 = .bool x46_1 ∧ Aside0 (spec_NodeOk.j0 kq (l0_1.length : Int) x46_1 a0_0 l0_1 l0_2 l0_3 = some r) ∧ Aside0 (kq ≤ k) ∧ Aside0 (wc.heap[gb110]? = some (.cells #[.bool a0_0, (.slice A0_1 l0_1.length c0_1), (.slice A0_2 l0_2.length c0_2), (.slice A0_3 l0_3.length c0_3)] 29 (0, 0))) ∧ Aside0 (Below w.heap.size w wc))
 case first =>
  have H := HC2.out
  clear HC2
  replace H := Option.bind_eq_some_iff.mp H
  obtain ⟨t111, A50, H⟩ := H
  replace H : (if t111 = true then (if a0_0 = true then (if (l0_2.length : Int) = (l0_1.length : Int) then (if (l0_3.length : Int) = 0 then (spec_NodeOk.j0 k (l0_1.length : Int) false a0_0 l0_1 l0_2 l0_3) else (spec_NodeOk.j0 k (l0_1.length : Int) true a0_0 l0_1 l0_2 l0_3)) else (spec_NodeOk.j0 k (l0_1.length : Int) true a0_0 l0_1 l0_2 l0_3)) else (if (l0_3.length : Int) = (l0_1.length : Int) then (spec_NodeOk.j0 k (l0_1.length : Int) ((l0_2.length : Int) != 0) a0_0 l0_1 l0_2 l0_3) else (spec_NodeOk.j0 k (l0_1.length : Int) true a0_0 l0_1 l0_2 l0_3))) else (spec_NodeOk.j0 k (l0_1.length : Int) true a0_0 l0_1 l0_2 l0_3)) = some r := H
  have A5 := zj A50
  clear A50
  by_cases c6 : t111 = true
  ·subst c6
   have H1 : (if a0_0 = true then (if (l0_2.length : Int) = (l0_1.length : Int) then (if (l0_3.length : Int) = 0 then (spec_NodeOk.j0 k (l0_1.length : Int) false a0_0 l0_1 l0_2 l0_3) else (spec_NodeOk.j0 k (l0_1.length : Int) true a0_0 l0_1 l0_2 l0_3)) else (spec_NodeOk.j0 k (l0_1.length : Int) true a0_0 l0_1 l0_2 l0_3)) else (if (l0_3.length : Int) = (l0_1.length : Int) then (spec_NodeOk.j0 k (l0_1.length : Int) ((l0_2.length : Int) != 0) a0_0 l0_1 l0_2 l0_3) else (spec_NodeOk.j0 k (l0_1.length : Int) true a0_0 l0_1 l0_2 l0_3))) = some r := by rw [if_pos rfl] at H; exact H
   clear H
   have H := H1
   clear H1
   by_cases c7 : a0_0 = true
   ·subst c7
    have H1 : (if (l0_2.length : Int) = (l0_1.length : Int) then (if (l0_3.length : Int) = 0 then (spec_NodeOk.j0 k (l0_1.length : Int) false true l0_1 l0_2 l0_3) else (spec_NodeOk.j0 k (l0_1.length : Int) true true l0_1 l0_2 l0_3)) else (spec_NodeOk.j0 k (l0_1.length : Int) true true l0_1 l0_2 l0_3)) = some r := by rw [if_pos rfl] at H; exact H
    clear H
    have H := H1
    clear H1
    by_cases c8 : (l0_2.length : Int) = (l0_1.length : Int)
    ·rw [if_pos c8] at H
     have c8b0 : ((l0_2.length : Int) == (l0_1.length : Int)) = true := beq_iff_eq.mpr c8
     have c8b1 : ((l0_2.length : Int) != (l0_1.length : Int)) = false := bne_eq_false_iff_eq.mpr c8
     have c8b2 : (l0_2.length == l0_1.length) = true := by first | simpa using c8 | (simp at c8 ⊢; omega)
     clear c8
     (first | rw [c8b0] | (simp only [i64_w, i32_w]; rw [c8b0]) | skip)
     by_cases c9 : (l0_3.length : Int) = 0
     ·rw [if_pos c9] at H
      have c9b0 : ((l0_3.length : Int) == 0) = true := beq_iff_eq.mpr c9
      have c9b1 : ((l0_3.length : Int) != 0) = false := bne_eq_false_iff_eq.mpr c9
      clear c9
      have H' := zj H
      clear H
      go_wp2_with (first | (go_at_call 111; (with_reducible refine (spec_l01In.calls (l0_1.length : Int) 1 4 true _ A5.out).mono ?_); rintro e w' ⟨rfl, ⟨nd, rfl⟩⟩; (try first | exact ⟨rfl, _, World.drewN_drewN _ _ _⟩ | exact ⟨rfl, _, Eq.trans (World.drewN_drewN _ _ _) (congrArg (World.drewN _) (Nat.add_assoc _ _ _))⟩); have hcz10_0 : w3.cell? ⟨gb110, 0, none⟩ = some (.bool true) := (zq BK110.out 0).trans rfl; have hcz10_1 : w3.cell? ⟨gb110, 1, none⟩ = some (.slice A0_1 l0_1.length c0_1) := (zq BK110.out 1).trans rfl; have hcz10_2 : w3.cell? ⟨gb110, 2, none⟩ = some (.slice A0_2 l0_2.length c0_2) := (zq BK110.out 2).trans rfl; have hcz10_3 : w3.cell? ⟨gb110, 3, none⟩ = some (.slice A0_3 l0_3.length c0_3) := (zq BK110.out 3).trans rfl; have hfz10_0 := zu BK110.out 0; have hfz10_1 := zu BK110.out 1; have hfz10_2 := zu BK110.out 2; have hfz10_3 := zu BK110.out 3))
      repeat (go_quiet (first | (go_at_call 111; (with_reducible refine (spec_l01In.calls (l0_1.length : Int) 1 4 true _ A5.out).mono ?_); rintro e w' ⟨rfl, ⟨nd, rfl⟩⟩; (try first | exact ⟨rfl, _, World.drewN_drewN _ _ _⟩ | exact ⟨rfl, _, Eq.trans (World.drewN_drewN _ _ _) (congrArg (World.drewN _) (Nat.add_assoc _ _ _))⟩); have hcz10_0 : w3.cell? ⟨gb110, 0, none⟩ = some (.bool true) := (zq BK110.out 0).trans rfl; have hcz10_1 : w3.cell? ⟨gb110, 1, none⟩ = some (.slice A0_1 l0_1.length c0_1) := (zq BK110.out 1).trans rfl; have hcz10_2 : w3.cell? ⟨gb110, 2, none⟩ = some (.slice A0_2 l0_2.length c0_2) := (zq BK110.out 2).trans rfl; have hcz10_3 : w3.cell? ⟨gb110, 3, none⟩ = some (.slice A0_3 l0_3.length c0_3) := (zq BK110.out 3).trans rfl; have hfz10_0 := zu BK110.out 0; have hfz10_1 := zu BK110.out 1; have hfz10_2 := zu BK110.out 2; have hfz10_3 := zu BK110.out 3)); try go_wp2_with (first | (go_at_call 111; (with_reducible refine (spec_l01In.calls (l0_1.length : Int) 1 4 true _ A5.out).mono ?_); rintro e w' ⟨rfl, ⟨nd, rfl⟩⟩; (try first | exact ⟨rfl, _, World.drewN_drewN _ _ _⟩ | exact ⟨rfl, _, Eq.trans (World.drewN_drewN _ _ _) (congrArg (World.drewN _) (Nat.add_assoc _ _ _))⟩); have hcz10_0 : w3.cell? ⟨gb110, 0, none⟩ = some (.bool true) := (zq BK110.out 0).trans rfl; have hcz10_1 : w3.cell? ⟨gb110, 1, none⟩ = some (.slice A0_1 l0_1.length c0_1) := (zq BK110.out 1).trans rfl; have hcz10_2 : w3.cell? ⟨gb110, 2, none⟩ = some (.slice A0_2 l0_2.length c0_2) := (zq BK110.out 2).trans rfl; have hcz10_3 : w3.cell? ⟨gb110, 3, none⟩ = some (.slice A0_3 l0_3.length c0_3) := (zq BK110.out 3).trans rfl; have hfz10_0 := zu BK110.out 0; have hfz10_1 := zu BK110.out 1; have hfz10_2 := zu BK110.out 2; have hfz10_3 := zu BK110.out 3)))
      go_meet
      case rel => exact ⟨_, (false), (by first | rfl | (simp; done) | (simp [*]; done)), H', ⟨by first | omega | exact Nat.le_refl _⟩, ⟨by (with_reducible repeat (first | refine za ?_ _ | refine zb ?_ | refine zc ?_ _)); exact BK110.out⟩, ⟨by repeat (first | (with_reducible first | exact HB.out | apply zg | apply zh | apply zi | refine zr ?_ GE110.out) | exact HB.out)⟩⟩
     ·rw [if_neg c9] at H
      have c9b0 : ((l0_3.length : Int) == 0) = false := beq_eq_false_iff_ne.mpr c9
      have c9b1 : ((l0_3.length : Int) != 0) = true := bne_iff_ne.mpr c9
      have c9b2 : ¬ (l0_3 = []) := fun h_ => c9 (by rw [h_]; rfl)
      have H' := zj H
      clear H
      go_wp2_with (first | (go_at_call 111; (with_reducible refine (spec_l01In.calls (l0_1.length : Int) 1 4 true _ A5.out).mono ?_); rintro e w' ⟨rfl, ⟨nd, rfl⟩⟩; (try first | exact ⟨rfl, _, World.drewN_drewN _ _ _⟩ | exact ⟨rfl, _, Eq.trans (World.drewN_drewN _ _ _) (congrArg (World.drewN _) (Nat.add_assoc _ _ _))⟩); have hcz11_0 : w3.cell? ⟨gb110, 0, none⟩ = some (.bool true) := (zq BK110.out 0).trans rfl; have hcz11_1 : w3.cell? ⟨gb110, 1, none⟩ = some (.slice A0_1 l0_1.length c0_1) := (zq BK110.out 1).trans rfl; have hcz11_2 : w3.cell? ⟨gb110, 2, none⟩ = some (.slice A0_2 l0_2.length c0_2) := (zq BK110.out 2).trans rfl; have hcz11_3 : w3.cell? ⟨gb110, 3, none⟩ = some (.slice A0_3 l0_3.length c0_3) := (zq BK110.out 3).trans rfl; have hfz11_0 := zu BK110.out 0; have hfz11_1 := zu BK110.out 1; have hfz11_2 := zu BK110.out 2; have hfz11_3 := zu BK110.out 3))
      repeat (go_quiet (first | (go_at_call 111; (with_reducible refine (spec_l01In.calls (l0_1.length : Int) 1 4 true _ A5.out).mono ?_); rintro e w' ⟨rfl, ⟨nd, rfl⟩⟩; (try first | exact ⟨rfl, _, World.drewN_drewN _ _ _⟩ | exact ⟨rfl, _, Eq.trans (World.drewN_drewN _ _ _) (congrArg (World.drewN _) (Nat.add_assoc _ _ _))⟩); have hcz11_0 : w3.cell? ⟨gb110, 0, none⟩ = some (.bool true) := (zq BK110.out 0).trans rfl; have hcz11_1 : w3.cell? ⟨gb110, 1, none⟩ = some (.slice A0_1 l0_1.length c0_1) := (zq BK110.out 1).trans rfl; have hcz11_2 : w3.cell? ⟨gb110, 2, none⟩ = some (.slice A0_2 l0_2.length c0_2) := (zq BK110.out 2).trans rfl; have hcz11_3 : w3.cell? ⟨gb110, 3, none⟩ = some (.slice A0_3 l0_3.length c0_3) := (zq BK110.out 3).trans rfl; have hfz11_0 := zu BK110.out 0; have hfz11_1 := zu BK110.out 1; have hfz11_2 := zu BK110.out 2; have hfz11_3 := zu BK110.out 3)); try go_wp2_with (first | (go_at_call 111; (with_reducible refine (spec_l01In.calls (l0_1.length : Int) 1 4 true _ A5.out).mono ?_); rintro e w' ⟨rfl, ⟨nd, rfl⟩⟩; (try first | exact ⟨rfl, _, World.drewN_drewN _ _ _⟩ | exact ⟨rfl, _, Eq.trans (World.drewN_drewN _ _ _) (congrArg (World.drewN _) (Nat.add_assoc _ _ _))⟩); have hcz11_0 : w3.cell? ⟨gb110, 0, none⟩ = some (.bool true) := (zq BK110.out 0).trans rfl; have hcz11_1 : w3.cell? ⟨gb110, 1, none⟩ = some (.slice A0_1 l0_1.length c0_1) := (zq BK110.out 1).trans rfl; have hcz11_2 : w3.cell? ⟨gb110, 2, none⟩ = some (.slice A0_2 l0_2.length c0_2) := (zq BK110.out 2).trans rfl; have hcz11_3 : w3.cell? ⟨gb110, 3, none⟩ = some (.slice A0_3 l0_3.length c0_3) := (zq BK110.out 3).trans rfl; have hfz11_0 := zu BK110.out 0; have hfz11_1 := zu BK110.out 1; have hfz11_2 := zu BK110.out 2; have hfz11_3 := zu BK110.out 3)))
      go_meet
      case rel => exact ⟨_, (true), (by first | rfl | (simp; done) | (simp [*]; done)), H', ⟨by first | omega | exact Nat.le_refl _⟩, ⟨by (with_reducible repeat (first | refine za ?_ _ | refine zb ?_ | refine zc ?_ _)); exact BK110.out⟩, ⟨by repeat (first | (with_reducible first | exact HB.out | apply zg | apply zh | apply zi | refine zr ?_ GE110.out) | exact HB.out)⟩⟩
    ·rw [if_neg c8] at H
     have c8b0 : ((l0_2.length : Int) == (l0_1.length : Int)) = false := beq_eq_false_iff_ne.mpr c8
     have c8b1 : ((l0_2.length : Int) != (l0_1.length : Int)) = true := bne_iff_ne.mpr c8
     have c8b2 : (l0_2.length == l0_1.length) = false := by first | simpa using c8 | (simp at c8 ⊢; omega)
     (first | rw [c8b0] | (simp only [i64_w, i32_w]; rw [c8b0]) | skip)
     have H' := zj H
     clear H
     go_wp2_with (first | (go_at_call 111; (with_reducible refine (spec_l01In.calls (l0_1.length : Int) 1 4 true _ A5.out).mono ?_); rintro e w' ⟨rfl, ⟨nd, rfl⟩⟩; (try first | exact ⟨rfl, _, World.drewN_drewN _ _ _⟩ | exact ⟨rfl, _, Eq.trans (World.drewN_drewN _ _ _) (congrArg (World.drewN _) (Nat.add_assoc _ _ _))⟩); have hcz12_0 : w3.cell? ⟨gb110, 0, none⟩ = some (.bool true) := (zq BK110.out 0).trans rfl; have hcz12_1 : w3.cell? ⟨gb110, 1, none⟩ = some (.slice A0_1 l0_1.length c0_1) := (zq BK110.out 1).trans rfl; have hcz12_2 : w3.cell? ⟨gb110, 2, none⟩ = some (.slice A0_2 l0_2.length c0_2) := (zq BK110.out 2).trans rfl; have hcz12_3 : w3.cell? ⟨gb110, 3, none⟩ = some (.slice A0_3 l0_3.length c0_3) := (zq BK110.out 3).trans rfl; have hfz12_0 := zu BK110.out 0; have hfz12_1 := zu BK110.out 1; have hfz12_2 := zu BK110.out 2; have hfz12_3 := zu BK110.out 3))
     repeat (go_quiet (first | (go_at_call 111; (with_reducible refine (spec_l01In.calls (l0_1.length : Int) 1 4 true _ A5.out).mono ?_); rintro e w' ⟨rfl, ⟨nd, rfl⟩⟩; (try first | exact ⟨rfl, _, World.drewN_drewN _ _ _⟩ | exact ⟨rfl, _, Eq.trans (World.drewN_drewN _ _ _) (congrArg (World.drewN _) (Nat.add_assoc _ _ _))⟩); have hcz12_0 : w3.cell? ⟨gb110, 0, none⟩ = some (.bool true) := (zq BK110.out 0).trans rfl; have hcz12_1 : w3.cell? ⟨gb110, 1, none⟩ = some (.slice A0_1 l0_1.length c0_1) := (zq BK110.out 1).trans rfl; have hcz12_2 : w3.cell? ⟨gb110, 2, none⟩ = some (.slice A0_2 l0_2.length c0_2) := (zq BK110.out 2).trans rfl; have hcz12_3 : w3.cell? ⟨gb110, 3, none⟩ = some (.slice A0_3 l0_3.length c0_3) := (zq BK110.out 3).trans rfl; have hfz12_0 := zu BK110.out 0; have hfz12_1 := zu BK110.out 1; have hfz12_2 := zu BK110.out 2; have hfz12_3 := zu BK110.out 3)); try go_wp2_with (first | (go_at_call 111; (with_reducible refine (spec_l01In.calls (l0_1.length : Int) 1 4 true _ A5.out).mono ?_); rintro e w' ⟨rfl, ⟨nd, rfl⟩⟩; (try first | exact ⟨rfl, _, World.drewN_drewN _ _ _⟩ | exact ⟨rfl, _, Eq.trans (World.drewN_drewN _ _ _) (congrArg (World.drewN _) (Nat.add_assoc _ _ _))⟩); have hcz12_0 : w3.cell? ⟨gb110, 0, none⟩ = some (.bool true) := (zq BK110.out 0).trans rfl; have hcz12_1 : w3.cell? ⟨gb110, 1, none⟩ = some (.slice A0_1 l0_1.length c0_1) := (zq BK110.out 1).trans rfl; have hcz12_2 : w3.cell? ⟨gb110, 2, none⟩ = some (.slice A0_2 l0_2.length c0_2) := (zq BK110.out 2).trans rfl; have hcz12_3 : w3.cell? ⟨gb110, 3, none⟩ = some (.slice A0_3 l0_3.length c0_3) := (zq BK110.out 3).trans rfl; have hfz12_0 := zu BK110.out 0; have hfz12_1 := zu BK110.out 1; have hfz12_2 := zu BK110.out 2; have hfz12_3 := zu BK110.out 3)))
     go_meet
     case rel => exact ⟨_, (true), (by first | rfl | (simp; done) | (simp [*]; done)), H', ⟨by first | omega | exact Nat.le_refl _⟩, ⟨by (with_reducible repeat (first | refine za ?_ _ | refine zb ?_ | refine zc ?_ _)); exact BK110.out⟩, ⟨by repeat (first | (with_reducible first | exact HB.out | apply zg | apply zh | apply zi | refine zr ?_ GE110.out) | exact HB.out)⟩⟩
   ·replace c7 := Bool.eq_false_iff.mpr c7
    subst c7
    have H1 : (if (l0_3.length : Int) = (l0_1.length : Int) then (spec_NodeOk.j0 k (l0_1.length : Int) ((l0_2.length : Int) != 0) false l0_1 l0_2 l0_3) else (spec_NodeOk.j0 k (l0_1.length : Int) true false l0_1 l0_2 l0_3)) = some r := by rw [if_neg (show ¬ (false = true) by decide)] at H; exact H
    clear H
    have H := H1
    clear H1
    by_cases c13 : (l0_3.length : Int) = (l0_1.length : Int)
    ·rw [if_pos c13] at H
     have c13b0 : ((l0_3.length : Int) == (l0_1.length : Int)) = true := beq_iff_eq.mpr c13
     have c13b1 : ((l0_3.length : Int) != (l0_1.length : Int)) = false := bne_eq_false_iff_eq.mpr c13
     have c13b2 : (l0_3.length == l0_1.length) = true := by first | simpa using c13 | (simp at c13 ⊢; omega)
     clear c13
     have H' := zj H
     clear H
     go_wp2_with (first | (go_at_call 111; (with_reducible refine (spec_l01In.calls (l0_1.length : Int) 1 4 true _ A5.out).mono ?_); rintro e w' ⟨rfl, ⟨nd, rfl⟩⟩; (try first | exact ⟨rfl, _, World.drewN_drewN _ _ _⟩ | exact ⟨rfl, _, Eq.trans (World.drewN_drewN _ _ _) (congrArg (World.drewN _) (Nat.add_assoc _ _ _))⟩); have hcz14_0 : w3.cell? ⟨gb110, 0, none⟩ = some (.bool false) := (zq BK110.out 0).trans rfl; have hcz14_1 : w3.cell? ⟨gb110, 1, none⟩ = some (.slice A0_1 l0_1.length c0_1) := (zq BK110.out 1).trans rfl; have hcz14_2 : w3.cell? ⟨gb110, 2, none⟩ = some (.slice A0_2 l0_2.length c0_2) := (zq BK110.out 2).trans rfl; have hcz14_3 : w3.cell? ⟨gb110, 3, none⟩ = some (.slice A0_3 l0_3.length c0_3) := (zq BK110.out 3).trans rfl; have hfz14_0 := zu BK110.out 0; have hfz14_1 := zu BK110.out 1; have hfz14_2 := zu BK110.out 2; have hfz14_3 := zu BK110.out 3))
     repeat (go_quiet (first | (go_at_call 111; (with_reducible refine (spec_l01In.calls (l0_1.length : Int) 1 4 true _ A5.out).mono ?_); rintro e w' ⟨rfl, ⟨nd, rfl⟩⟩; (try first | exact ⟨rfl, _, World.drewN_drewN _ _ _⟩ | exact ⟨rfl, _, Eq.trans (World.drewN_drewN _ _ _) (congrArg (World.drewN _) (Nat.add_assoc _ _ _))⟩); have hcz14_0 : w3.cell? ⟨gb110, 0, none⟩ = some (.bool false) := (zq BK110.out 0).trans rfl; have hcz14_1 : w3.cell? ⟨gb110, 1, none⟩ = some (.slice A0_1 l0_1.length c0_1) := (zq BK110.out 1).trans rfl; have hcz14_2 : w3.cell? ⟨gb110, 2, none⟩ = some (.slice A0_2 l0_2.length c0_2) := (zq BK110.out 2).trans rfl; have hcz14_3 : w3.cell? ⟨gb110, 3, none⟩ = some (.slice A0_3 l0_3.length c0_3) := (zq BK110.out 3).trans rfl; have hfz14_0 := zu BK110.out 0; have hfz14_1 := zu BK110.out 1; have hfz14_2 := zu BK110.out 2; have hfz14_3 := zu BK110.out 3)); try go_wp2_with (first | (go_at_call 111; (with_reducible refine (spec_l01In.calls (l0_1.length : Int) 1 4 true _ A5.out).mono ?_); rintro e w' ⟨rfl, ⟨nd, rfl⟩⟩; (try first | exact ⟨rfl, _, World.drewN_drewN _ _ _⟩ | exact ⟨rfl, _, Eq.trans (World.drewN_drewN _ _ _) (congrArg (World.drewN _) (Nat.add_assoc _ _ _))⟩); have hcz14_0 : w3.cell? ⟨gb110, 0, none⟩ = some (.bool false) := (zq BK110.out 0).trans rfl; have hcz14_1 : w3.cell? ⟨gb110, 1, none⟩ = some (.slice A0_1 l0_1.length c0_1) := (zq BK110.out 1).trans rfl; have hcz14_2 : w3.cell? ⟨gb110, 2, none⟩ = some (.slice A0_2 l0_2.length c0_2) := (zq BK110.out 2).trans rfl; have hcz14_3 : w3.cell? ⟨gb110, 3, none⟩ = some (.slice A0_3 l0_3.length c0_3) := (zq BK110.out 3).trans rfl; have hfz14_0 := zu BK110.out 0; have hfz14_1 := zu BK110.out 1; have hfz14_2 := zu BK110.out 2; have hfz14_3 := zu BK110.out 3)))
     go_meet
     case rel => exact ⟨_, (((l0_2.length : Int) != 0)), (by first | rfl | (simp; done) | (simp [*]; done)), H', ⟨by first | omega | exact Nat.le_refl _⟩, ⟨by (with_reducible repeat (first | refine za ?_ _ | refine zb ?_ | refine zc ?_ _)); exact BK110.out⟩, ⟨by repeat (first | (with_reducible first | exact HB.out | apply zg | apply zh | apply zi | refine zr ?_ GE110.out) | exact HB.out)⟩⟩
    ·rw [if_neg c13] at H
     have c13b0 : ((l0_3.length : Int) == (l0_1.length : Int)) = false := beq_eq_false_iff_ne.mpr c13
     have c13b1 : ((l0_3.length : Int) != (l0_1.length : Int)) = true := bne_iff_ne.mpr c13
     have c13b2 : (l0_3.length == l0_1.length) = false := by first | simpa using c13 | (simp at c13 ⊢; omega)
     have H' := zj H
     clear H
     go_wp2_with (first | (go_at_call 111; (with_reducible refine (spec_l01In.calls (l0_1.length : Int) 1 4 true _ A5.out).mono ?_); rintro e w' ⟨rfl, ⟨nd, rfl⟩⟩; (try first | exact ⟨rfl, _, World.drewN_drewN _ _ _⟩ | exact ⟨rfl, _, Eq.trans (World.drewN_drewN _ _ _) (congrArg (World.drewN _) (Nat.add_assoc _ _ _))⟩); have hcz15_0 : w3.cell? ⟨gb110, 0, none⟩ = some (.bool false) := (zq BK110.out 0).trans rfl; have hcz15_1 : w3.cell? ⟨gb110, 1, none⟩ = some (.slice A0_1 l0_1.length c0_1) := (zq BK110.out 1).trans rfl; have hcz15_2 : w3.cell? ⟨gb110, 2, none⟩ = some (.slice A0_2 l0_2.length c0_2) := (zq BK110.out 2).trans rfl; have hcz15_3 : w3.cell? ⟨gb110, 3, none⟩ = some (.slice A0_3 l0_3.length c0_3) := (zq BK110.out 3).trans rfl; have hfz15_0 := zu BK110.out 0; have hfz15_1 := zu BK110.out 1; have hfz15_2 := zu BK110.out 2; have hfz15_3 := zu BK110.out 3))
     repeat (go_quiet (first | (go_at_call 111; (with_reducible refine (spec_l01In.calls (l0_1.length : Int) 1 4 true _ A5.out).mono ?_); rintro e w' ⟨rfl, ⟨nd, rfl⟩⟩; (try first | exact ⟨rfl, _, World.drewN_drewN _ _ _⟩ | exact ⟨rfl, _, Eq.trans (World.drewN_drewN _ _ _) (congrArg (World.drewN _) (Nat.add_assoc _ _ _))⟩); have hcz15_0 : w3.cell? ⟨gb110, 0, none⟩ = some (.bool false) := (zq BK110.out 0).trans rfl; have hcz15_1 : w3.cell? ⟨gb110, 1, none⟩ = some (.slice A0_1 l0_1.length c0_1) := (zq BK110.out 1).trans rfl; have hcz15_2 : w3.cell? ⟨gb110, 2, none⟩ = some (.slice A0_2 l0_2.length c0_2) := (zq BK110.out 2).trans rfl; have hcz15_3 : w3.cell? ⟨gb110, 3, none⟩ = some (.slice A0_3 l0_3.length c0_3) := (zq BK110.out 3).trans rfl; have hfz15_0 := zu BK110.out 0; have hfz15_1 := zu BK110.out 1; have hfz15_2 := zu BK110.out 2; have hfz15_3 := zu BK110.out 3)); try go_wp2_with (first | (go_at_call 111; (with_reducible refine (spec_l01In.calls (l0_1.length : Int) 1 4 true _ A5.out).mono ?_); rintro e w' ⟨rfl, ⟨nd, rfl⟩⟩; (try first | exact ⟨rfl, _, World.drewN_drewN _ _ _⟩ | exact ⟨rfl, _, Eq.trans (World.drewN_drewN _ _ _) (congrArg (World.drewN _) (Nat.add_assoc _ _ _))⟩); have hcz15_0 : w3.cell? ⟨gb110, 0, none⟩ = some (.bool false) := (zq BK110.out 0).trans rfl; have hcz15_1 : w3.cell? ⟨gb110, 1, none⟩ = some (.slice A0_1 l0_1.length c0_1) := (zq BK110.out 1).trans rfl; have hcz15_2 : w3.cell? ⟨gb110, 2, none⟩ = some (.slice A0_2 l0_2.length c0_2) := (zq BK110.out 2).trans rfl; have hcz15_3 : w3.cell? ⟨gb110, 3, none⟩ = some (.slice A0_3 l0_3.length c0_3) := (zq BK110.out 3).trans rfl; have hfz15_0 := zu BK110.out 0; have hfz15_1 := zu BK110.out 1; have hfz15_2 := zu BK110.out 2; have hfz15_3 := zu BK110.out 3)))
     go_meet
     case rel => exact ⟨_, (true), (by first | rfl | (simp; done) | (simp [*]; done)), H', ⟨by first | omega | exact Nat.le_refl _⟩, ⟨by (with_reducible repeat (first | refine za ?_ _ | refine zb ?_ | refine zc ?_ _)); exact BK110.out⟩, ⟨by repeat (first | (with_reducible first | exact HB.out | apply zg | apply zh | apply zi | refine zr ?_ GE110.out) | exact HB.out)⟩⟩
  ·replace c6 := Bool.eq_false_iff.mpr c6
   subst c6
   have H1 : (spec_NodeOk.j0 k (l0_1.length : Int) true a0_0 l0_1 l0_2 l0_3) = some r := by rw [if_neg (show ¬ (false = true) by decide)] at H; exact H
   clear H
   have H := H1
   clear H1
   have H' := zj H
   clear H
   go_wp2_with (first | (go_at_call 111; (with_reducible refine (spec_l01In.calls (l0_1.length : Int) 1 4 false _ A5.out).mono ?_); rintro e w' ⟨rfl, ⟨nd, rfl⟩⟩; (try first | exact ⟨rfl, _, World.drewN_drewN _ _ _⟩ | exact ⟨rfl, _, Eq.trans (World.drewN_drewN _ _ _) (congrArg (World.drewN _) (Nat.add_assoc _ _ _))⟩)))
   repeat (go_quiet (first | (go_at_call 111; (with_reducible refine (spec_l01In.calls (l0_1.length : Int) 1 4 false _ A5.out).mono ?_); rintro e w' ⟨rfl, ⟨nd, rfl⟩⟩; (try first | exact ⟨rfl, _, World.drewN_drewN _ _ _⟩ | exact ⟨rfl, _, Eq.trans (World.drewN_drewN _ _ _) (congrArg (World.drewN _) (Nat.add_assoc _ _ _))⟩))); try go_wp2_with (first | (go_at_call 111; (with_reducible refine (spec_l01In.calls (l0_1.length : Int) 1 4 false _ A5.out).mono ?_); rintro e w' ⟨rfl, ⟨nd, rfl⟩⟩; (try first | exact ⟨rfl, _, World.drewN_drewN _ _ _⟩ | exact ⟨rfl, _, Eq.trans (World.drewN_drewN _ _ _) (congrArg (World.drewN _) (Nat.add_assoc _ _ _))⟩))))
   go_meet
   case rel => exact ⟨_, (true), (by first | rfl | (simp; done) | (simp [*]; done)), H', ⟨by first | omega | exact Nat.le_refl _⟩, ⟨by (with_reducible repeat (first | refine za ?_ _ | refine zb ?_ | refine zc ?_ _)); exact BK110.out⟩, ⟨by repeat (first | (with_reducible first | exact HB.out | apply zg | apply zh | apply zi | refine zr ?_ GE110.out) | exact HB.out)⟩⟩
 case rest =>
  clear HC2
  try clear c1
  try clear p2
  try clear c6
  try clear c7
  try clear c8
  try clear c8b0
  try clear c8b1
  try clear c8b2
  try clear c9
  try clear c9b0
  try clear c9b1
  try clear c9b2
  try clear c13
  try clear c13b0
  try clear c13b1
  try clear c13b2
  try clear hcz10_0
  try clear hcz10_1
  try clear hcz10_2
  try clear hcz10_3
  try clear hcz11_0
  try clear hcz11_1
  try clear hcz11_2
  try clear hcz11_3
  try clear hcz12_0
  try clear hcz12_1
  try clear hcz12_2
  try clear hcz12_3
  try clear hcz14_0
  try clear hcz14_1
  try clear hcz14_2
  try clear hcz14_3
  try clear hcz15_0
  try clear hcz15_1
  try clear hcz15_2
  try clear hcz15_3
  try clear hcz4_0
  try clear hcz4_1
  try clear hcz4_2
  try clear hcz4_3
  try clear hfz10_0
  try clear hfz10_1
  try clear hfz10_2
  try clear hfz10_3
  try clear hfz11_0
  try clear hfz11_1
  try clear hfz11_2
  try clear hfz11_3
  try clear hfz12_0
  try clear hfz12_1
  try clear hfz12_2
  try clear hfz12_3
  try clear hfz14_0
  try clear hfz14_1
  try clear hfz14_2
  try clear hfz14_3
  try clear hfz15_0
  try clear hfz15_1
  try clear hfz15_2
  try clear hfz15_3
  try clear hfz4_0
  try clear hfz4_1
  try clear hfz4_2
  try clear hfz4_3
  obtain ⟨kq, x46_1, rfl, HA, HJ1, BK110, HB⟩ := hcut
  cases kq with
  | zero => exact absurd HA.out (by simp [spec_NodeOk.j0])
  | succ kj1 =>
   have H := HA.out
   clear HA
   simp only [spec_NodeOk.j0] at H
   by_cases c16 : x46_1 = true
   ·subst c16
    have H1 : (some false) = some r := by rw [if_pos rfl] at H; exact H
    clear H
    have H := H1
    clear H1
    obtain rfl := Option.some.inj H
    go_wp2
    repeat (go_quiet (fail); try go_wp2)
    go_ret
    exact ⟨by first | rfl | (simp [errW_none, errW_some] <;> rfl) | (simp [*, errW_none, errW_some] <;> rfl), by repeat (first | (with_reducible first | exact HB.out | apply zg | apply zh | apply zi | refine zr ?_ GE110.out) | exact HB.out)⟩
   ·replace c16 := Bool.eq_false_iff.mpr c16
    subst c16
    have H1 : (spec_NodeOk.l0 kj1 (l0_1.length : Int) 0 a0_0 l0_1 l0_2 l0_3) = some r := by rw [if_neg (show ¬ (false = true) by decide)] at H; exact H
    clear H
    have H := H1
    clear H1
    have H' := zj H
    clear H
    go_wp2
    repeat (go_quiet (fail); try go_wp2)
    go_loopg [4] kj1 (fun kq v4 w' => ∃ (x4_2 : Int), v4 = .int .i64 x4_2 ∧ Aside0 (spec_NodeOk.l0 kq (l0_1.length : Int) x4_2 a0_0 l0_1 l0_2 l0_3 = some r) ∧ Aside0 (kq ≤ kj1) ∧ Aside0 (w'.heap[gb110]? = some (.cells #[.bool a0_0, (.slice A0_1 l0_1.length c0_1), (.slice A0_2 l0_2.length c0_2), (.slice A0_3 l0_3.length c0_3)] 29 (0, 0))) ∧ Aside0 (Below w.heap.size w w'))
    case atStart => exact ⟨(0), (by first | rfl | (simp; done) | (simp [*]; done)), H', ⟨Nat.le_refl _⟩, ⟨by (with_reducible repeat (first | refine za ?_ _ | refine zb ?_ | refine zc ?_ _)); exact BK110.out⟩, ⟨by repeat (first | (with_reducible first | exact HB.out | apply zg | apply zh | apply zi | refine zr ?_ GE110.out) | exact HB.out)⟩⟩
    case round =>
     clear H'
     try clear c1
     try clear p2
     try clear c6
     try clear c7
     try clear c8
     try clear c8b0
     try clear c8b1
     try clear c8b2
     try clear c9
     try clear c9b0
     try clear c9b1
     try clear c9b2
     try clear c13
     try clear c13b0
     try clear c13b1
     try clear c13b2
     try clear c16
     try clear hcz10_0
     try clear hcz10_1
     try clear hcz10_2
     try clear hcz10_3
     try clear hcz11_0
     try clear hcz11_1
     try clear hcz11_2
     try clear hcz11_3
     try clear hcz12_0
     try clear hcz12_1
     try clear hcz12_2
     try clear hcz12_3
     try clear hcz14_0
     try clear hcz14_1
     try clear hcz14_2
     try clear hcz14_3
     try clear hcz15_0
     try clear hcz15_1
     try clear hcz15_2
     try clear hcz15_3
     try clear hcz4_0
     try clear hcz4_1
     try clear hcz4_2
     try clear hcz4_3
     try clear hfz10_0
     try clear hfz10_1
     try clear hfz10_2
     try clear hfz10_3
     try clear hfz11_0
     try clear hfz11_1
     try clear hfz11_2
     try clear hfz11_3
     try clear hfz12_0
     try clear hfz12_1
     try clear hfz12_2
     try clear hfz12_3
     try clear hfz14_0
     try clear hfz14_1
     try clear hfz14_2
     try clear hfz14_3
     try clear hfz15_0
     try clear hfz15_1
     try clear hfz15_2
     try clear hfz15_3
     try clear hfz4_0
     try clear hfz4_1
     try clear hfz4_2
     try clear hfz4_3
     try clear p2
     obtain ⟨x4_2, rfl, HA, HK2, BK110, HB⟩ := hrel
     cases gk with
     | zero => exact absurd HA.out (by simp [spec_NodeOk.l0])
     | succ k2 =>
      have H := HA.out
      clear HA
      simp only [spec_NodeOk.l0] at H
      by_cases c17 : x4_2 < (l0_1.length : Int)
      ·rw [if_pos c17] at H
       have c17b0 : decide (x4_2 < (l0_1.length : Int)) = true := decide_eq_true c17
       clear c17
       have HC18 := zj H
       clear H
       go_upto_region 7 with (fail)
       repeat (go_quiet (fail); go_upto_region 7 with (fail))
       go_cut [76] (fun v76 wc => ∃ (kq : Nat) (x76_17 : Bool), v76 = .bool x76_17 ∧ Aside0 (spec_NodeOk.j2 kq (l0_1.length : Int) x4_2 x76_17 a0_0 l0_1 l0_2 l0_3 = some r) ∧ Aside0 (kq ≤ k2) ∧ Aside0 (wc.heap[gb110]? = some (.cells #[.bool a0_0, (.slice A0_1 l0_1.length c0_1), (.slice A0_2 l0_2.length c0_2), (.slice A0_3 l0_3.length c0_3)] 29 (0, 0))) ∧ Aside0 (Below w.heap.size w wc))
       case first =>
        have H := HC18.out
        clear HC18
        by_cases c19 : 0 ≤ x4_2
        ·rw [if_pos c19] at H
         have c19b0 : decide (0 ≤ x4_2) = true := decide_eq_true c19
         clear c19
         (first | rw [c19b0] | (simp only [i64_w, i32_w]; rw [c19b0]) | skip)
         by_cases c20 : x4_2 < (l0_1.length : Int)
         ·rw [if_pos c20] at H
          have c20b0 : decide (x4_2 < (l0_1.length : Int)) = true := decide_eq_true c20
          clear c20
          by_cases c21 : ((rdOf ByteArray.empty l0_1 x4_2).size : Int) > 24
          ·rw [if_pos c21] at H
           have c21b0 : decide (24 < ((rdOf ByteArray.empty l0_1 x4_2).size : Int)) = true := decide_eq_true c21
           have c21b1 : decide (24 < (rdOf ByteArray.empty l0_1 x4_2).size) = true := decide_eq_true (by omega)
           clear c21
           have H' := zj H
           clear H
           have hcz22_0 : wr.cell? ⟨gb110, 0, none⟩ = some (.bool a0_0) := (zq BK110.out 0).trans rfl
           have hcz22_1 : wr.cell? ⟨gb110, 1, none⟩ = some (.slice A0_1 l0_1.length c0_1) := (zq BK110.out 1).trans rfl
           have hcz22_2 : wr.cell? ⟨gb110, 2, none⟩ = some (.slice A0_2 l0_2.length c0_2) := (zq BK110.out 2).trans rfl
           have hcz22_3 : wr.cell? ⟨gb110, 3, none⟩ = some (.slice A0_3 l0_3.length c0_3) := (zq BK110.out 3).trans rfl
           have hfz22_0 := zu BK110.out 0
           have hfz22_1 := zu BK110.out 1
           have hfz22_2 := zu BK110.out 2
           have hfz22_3 := zu BK110.out 3
           have p112 : 0 ≤ (x4_2 : Int) := of_decide_eq_true (by first | (with_reducible assumption) | assumption)
           have q112 : x4_2 < (l0_1.length : Int) := of_decide_eq_true (by first | (with_reducible assumption) | assumption)
           obtain ⟨ad112, e112, hx112_0⟩ := Kd.at_string HR0_1.out x4_2 p112 q112
           cases e112
           replace hx112_0 := (HB.out.cell (World.block_lt_of_cell? w _ hx112_0)).trans hx112_0
           replace p112 := eq_true p112
           replace q112 := eq_true q112
           go_wp2
           repeat (go_quiet (fail); try go_wp2)
           go_meet
           case rel => exact ⟨_, (true), (by first | rfl | (simp; done) | (simp [*]; done)), H', ⟨by have := HJ1.out; have := HK2.out; first | omega | exact Nat.le_refl _⟩, ⟨by (with_reducible repeat (first | refine za ?_ _ | refine zb ?_ | refine zc ?_ _)); exact BK110.out⟩, ⟨by repeat (first | (with_reducible first | exact HB.out | apply zg | apply zh | apply zi | refine zr ?_ GE110.out) | exact HB.out)⟩⟩
          ·rw [if_neg c21] at H
           have c21b0 : decide (24 < ((rdOf ByteArray.empty l0_1 x4_2).size : Int)) = false := decide_eq_false c21
           have c21b1 : decide (24 < (rdOf ByteArray.empty l0_1 x4_2).size) = false := decide_eq_false (by omega)
           clear c21
           by_cases c23 : x4_2 > 0
           ·rw [if_pos c23] at H
            have c23b0 : decide (0 < x4_2) = true := decide_eq_true c23
            clear c23
            obtain ⟨ji24, hji24⟩ : ∃ j_ : Int, (wrap64 (x4_2 - 1)) = j_ := ⟨_, rfl⟩
            replace H : (if 0 ≤ (ji24) then (if (ji24) < (l0_1.length : Int) then (spec_NodeOk.j2 k2 (l0_1.length : Int) x4_2 (!(Op.bytesLess ((rdOf ByteArray.empty l0_1 (ji24)).toList) ((rdOf ByteArray.empty l0_1 x4_2).toList))) a0_0 l0_1 l0_2 l0_3) else (none)) else (none)) = some r := by first | (rw [hji24] at H; exact H) | (simp only [hji24] at H ⊢; exact H)
            have hji24w : (IntKind.i64.wrap (x4_2 - 1)) = ji24 := (i64_w _).trans hji24
            by_cases c25 : 0 ≤ (ji24)
            ·rw [if_pos c25] at H
             have c25b0 : decide (0 ≤ (ji24)) = true := decide_eq_true c25
             clear c25
             by_cases c26 : (ji24) < (l0_1.length : Int)
             ·rw [if_pos c26] at H
              have c26b0 : decide ((ji24) < (l0_1.length : Int)) = true := decide_eq_true c26
              clear c26
              have H' := zj H
              clear H
              have hcz27_0 : wr.cell? ⟨gb110, 0, none⟩ = some (.bool a0_0) := (zq BK110.out 0).trans rfl
              have hcz27_1 : wr.cell? ⟨gb110, 1, none⟩ = some (.slice A0_1 l0_1.length c0_1) := (zq BK110.out 1).trans rfl
              have hcz27_2 : wr.cell? ⟨gb110, 2, none⟩ = some (.slice A0_2 l0_2.length c0_2) := (zq BK110.out 2).trans rfl
              have hcz27_3 : wr.cell? ⟨gb110, 3, none⟩ = some (.slice A0_3 l0_3.length c0_3) := (zq BK110.out 3).trans rfl
              have hfz27_0 := zu BK110.out 0
              have hfz27_1 := zu BK110.out 1
              have hfz27_2 := zu BK110.out 2
              have hfz27_3 := zu BK110.out 3
              have p112 : 0 ≤ (x4_2 : Int) := of_decide_eq_true (by first | (with_reducible assumption) | assumption)
              have q112 : x4_2 < (l0_1.length : Int) := of_decide_eq_true (by first | (with_reducible assumption) | assumption)
              obtain ⟨ad112, e112, hx112_0⟩ := Kd.at_string HR0_1.out x4_2 p112 q112
              cases e112
              replace hx112_0 := (HB.out.cell (World.block_lt_of_cell? w _ hx112_0)).trans hx112_0
              replace p112 := eq_true p112
              replace q112 := eq_true q112
              have p113 : 0 ≤ ((ji24) : Int) := of_decide_eq_true (by first | (with_reducible assumption) | assumption)
              have q113 : (ji24) < (l0_1.length : Int) := of_decide_eq_true (by first | (with_reducible assumption) | assumption)
              obtain ⟨ad113, e113, hx113_0⟩ := Kd.at_string HR0_1.out (ji24) p113 q113
              obtain rfl : ad112 = ad113 := (by injection e113)
              replace hx113_0 := (HB.out.cell (World.block_lt_of_cell? w _ hx113_0)).trans hx113_0
              replace p113 := eq_true p113
              replace q113 := eq_true q113
              have p114 : 0 ≤ (x4_2 : Int) := of_decide_eq_true (by first | (with_reducible assumption) | assumption)
              have q114 : x4_2 < (l0_1.length : Int) := of_decide_eq_true (by first | (with_reducible assumption) | assumption)
              obtain ⟨ad114, e114, hx114_0⟩ := Kd.at_string HR0_1.out x4_2 p114 q114
              obtain rfl : ad112 = ad114 := (by injection e114)
              replace hx114_0 := (HB.out.cell (World.block_lt_of_cell? w _ hx114_0)).trans hx114_0
              replace p114 := eq_true p114
              replace q114 := eq_true q114
              go_wp2
              repeat (go_quiet (fail); try go_wp2)
              go_meet
              case rel => exact ⟨_, (!(Op.bytesLess ((rdOf ByteArray.empty l0_1 (ji24)).toList) ((rdOf ByteArray.empty l0_1 x4_2).toList))), (by first | rfl | (simp; done) | (simp only [← hji24] <;> (first | rfl | simp)) | (simp [*]; done)), H', ⟨by have := HJ1.out; have := HK2.out; first | omega | exact Nat.le_refl _⟩, ⟨by (with_reducible repeat (first | refine za ?_ _ | refine zb ?_ | refine zc ?_ _)); exact BK110.out⟩, ⟨by repeat (first | (with_reducible first | exact HB.out | apply zg | apply zh | apply zi | refine zr ?_ GE110.out) | exact HB.out)⟩⟩
             ·rw [if_neg c26] at H
              exact absurd H (by simp)
            ·rw [if_neg c25] at H
             exact absurd H (by simp)
           ·rw [if_neg c23] at H
            have c23b0 : decide (0 < x4_2) = false := decide_eq_false c23
            clear c23
            have H' := zj H
            clear H
            have hcz28_0 : wr.cell? ⟨gb110, 0, none⟩ = some (.bool a0_0) := (zq BK110.out 0).trans rfl
            have hcz28_1 : wr.cell? ⟨gb110, 1, none⟩ = some (.slice A0_1 l0_1.length c0_1) := (zq BK110.out 1).trans rfl
            have hcz28_2 : wr.cell? ⟨gb110, 2, none⟩ = some (.slice A0_2 l0_2.length c0_2) := (zq BK110.out 2).trans rfl
            have hcz28_3 : wr.cell? ⟨gb110, 3, none⟩ = some (.slice A0_3 l0_3.length c0_3) := (zq BK110.out 3).trans rfl
            have hfz28_0 := zu BK110.out 0
            have hfz28_1 := zu BK110.out 1
            have hfz28_2 := zu BK110.out 2
            have hfz28_3 := zu BK110.out 3
            have p112 : 0 ≤ (x4_2 : Int) := of_decide_eq_true (by first | (with_reducible assumption) | assumption)
            have q112 : x4_2 < (l0_1.length : Int) := of_decide_eq_true (by first | (with_reducible assumption) | assumption)
            obtain ⟨ad112, e112, hx112_0⟩ := Kd.at_string HR0_1.out x4_2 p112 q112
            cases e112
            replace hx112_0 := (HB.out.cell (World.block_lt_of_cell? w _ hx112_0)).trans hx112_0
            replace p112 := eq_true p112
            replace q112 := eq_true q112
            go_wp2
            repeat (go_quiet (fail); try go_wp2)
            go_meet
            case rel => exact ⟨_, (false), (by first | rfl | (simp; done) | (simp [*]; done)), H', ⟨by have := HJ1.out; have := HK2.out; first | omega | exact Nat.le_refl _⟩, ⟨by (with_reducible repeat (first | refine za ?_ _ | refine zb ?_ | refine zc ?_ _)); exact BK110.out⟩, ⟨by repeat (first | (with_reducible first | exact HB.out | apply zg | apply zh | apply zi | refine zr ?_ GE110.out) | exact HB.out)⟩⟩
         ·rw [if_neg c20] at H
          exact absurd H (by simp)
        ·rw [if_neg c19] at H
         exact absurd H (by simp)
       case rest =>
        clear HC18
        try clear c1
        try clear p1
        try clear q1
        try clear hx1
        try clear c2
        try clear p2
        try clear c6
        try clear p6
        try clear c7
        try clear c8
        try clear c8b0
        try clear c8b1
        try clear c8b2
        try clear c9
        try clear c9b0
        try clear c9b1
        try clear c9b2
        try clear p11
        try clear q11
        try clear hx11
        try clear c13
        try clear c13b0
        try clear c13b1
        try clear c13b2
        try clear c16
        try clear c17
        try clear c17b0
        try clear c19
        try clear c19b0
        try clear c20
        try clear c20b0
        try clear c21
        try clear c21b0
        try clear c21b1
        try clear c23
        try clear c23b0
        try clear c25
        try clear c25b0
        try clear c26
        try clear c26b0
        try clear hcz10_0
        try clear hcz10_1
        try clear hcz10_2
        try clear hcz10_3
        try clear hcz11_0
        try clear hcz11_1
        try clear hcz11_2
        try clear hcz11_3
        try clear hcz12_0
        try clear hcz12_1
        try clear hcz12_2
        try clear hcz12_3
        try clear hcz14_0
        try clear hcz14_1
        try clear hcz14_2
        try clear hcz14_3
        try clear hcz15_0
        try clear hcz15_1
        try clear hcz15_2
        try clear hcz15_3
        try clear hcz22_0
        try clear hcz22_1
        try clear hcz22_2
        try clear hcz22_3
        try clear hcz27_0
        try clear hcz27_1
        try clear hcz27_2
        try clear hcz27_3
        try clear hcz28_0
        try clear hcz28_1
        try clear hcz28_2
        try clear hcz28_3
        try clear hcz4_0
        try clear hcz4_1
        try clear hcz4_2
        try clear hcz4_3
        try clear hfz10_0
        try clear hfz10_1
        try clear hfz10_2
        try clear hfz10_3
        try clear hfz11_0
        try clear hfz11_1
        try clear hfz11_2
        try clear hfz11_3
        try clear hfz12_0
        try clear hfz12_1
        try clear hfz12_2
        try clear hfz12_3
        try clear hfz14_0
        try clear hfz14_1
        try clear hfz14_2
        try clear hfz14_3
        try clear hfz15_0
        try clear hfz15_1
        try clear hfz15_2
        try clear hfz15_3
        try clear hfz22_0
        try clear hfz22_1
        try clear hfz22_2
        try clear hfz22_3
        try clear hfz27_0
        try clear hfz27_1
        try clear hfz27_2
        try clear hfz27_3
        try clear hfz28_0
        try clear hfz28_1
        try clear hfz28_2
        try clear hfz28_3
        try clear hfz4_0
        try clear hfz4_1
        try clear hfz4_2
        try clear hfz4_3
        try clear hx112_0
        try clear hx113_0
        try clear hx114_0
        try clear p112
        try clear p113
        try clear p114
        try clear p2
        try clear q112
        try clear q113
        try clear q114
        obtain ⟨kq, x76_17, rfl, HA, HJ17, BK110, HB⟩ := hcut
        cases kq with
        | zero => exact absurd HA.out (by simp [spec_NodeOk.j2])
        | succ kj17 =>
         have H := HA.out
         clear HA
         simp only [spec_NodeOk.j2] at H
         by_cases c29 : x76_17 = true
         ·subst c29
          have H1 : (some false) = some r := by rw [if_pos rfl] at H; exact H
          clear H
          have H := H1
          clear H1
          obtain rfl := Option.some.inj H
          go_wp2
          repeat (go_quiet (fail); try go_wp2)
          go_ret
          exact ⟨by first | rfl | (simp [errW_none, errW_some] <;> rfl) | (simp [*, errW_none, errW_some] <;> rfl), by repeat (first | (with_reducible first | exact HB.out | apply zg | apply zh | apply zi | refine zr ?_ GE110.out) | exact HB.out)⟩
         ·replace c29 := Bool.eq_false_iff.mpr c29
          subst c29
          have H1 : (if a0_0 = true then (if 0 ≤ x4_2 then (if x4_2 < (l0_2.length : Int) then (spec_NodeOk.j3 kj17 (l0_1.length : Int) x4_2 (decide (((rdOf ByteArray.empty l0_2 x4_2).size : Int) > 24)) a0_0 l0_1 l0_2 l0_3) else (none)) else (none)) else (spec_NodeOk.j3 kj17 (l0_1.length : Int) x4_2 false a0_0 l0_1 l0_2 l0_3)) = some r := by rw [if_neg (show ¬ (false = true) by decide)] at H; exact H
          clear H
          have H := H1
          clear H1
          have HC30 := zj H
          clear H
          go_upto_region 9 with (fail)
          repeat (go_quiet (fail); go_upto_region 9 with (fail))
          go_cut [87] (fun v87 wc => ∃ (kq : Nat) (x87_29 : Bool), v87 = .bool x87_29 ∧ Aside0 (spec_NodeOk.j3 kq (l0_1.length : Int) x4_2 x87_29 a0_0 l0_1 l0_2 l0_3 = some r) ∧ Aside0 (kq ≤ kj17) ∧ Aside0 (wc.heap[gb110]? = some (.cells #[.bool a0_0, (.slice A0_1 l0_1.length c0_1), (.slice A0_2 l0_2.length c0_2), (.slice A0_3 l0_3.length c0_3)] 29 (0, 0))) ∧ Aside0 (Below w.heap.size w wc))
          case first =>
           have H := HC30.out
           clear HC30
           by_cases c31 : a0_0 = true
           ·subst c31
            have H1 : (if 0 ≤ x4_2 then (if x4_2 < (l0_2.length : Int) then (spec_NodeOk.j3 kj17 (l0_1.length : Int) x4_2 (decide (((rdOf ByteArray.empty l0_2 x4_2).size : Int) > 24)) true l0_1 l0_2 l0_3) else (none)) else (none)) = some r := by rw [if_pos rfl] at H; exact H
            clear H
            have H := H1
            clear H1
            by_cases c32 : 0 ≤ x4_2
            ·rw [if_pos c32] at H
             have c32b0 : decide (0 ≤ x4_2) = true := decide_eq_true c32
             clear c32
             (first | rw [c32b0] | (simp only [i64_w, i32_w]; rw [c32b0]) | skip)
             by_cases c33 : x4_2 < (l0_2.length : Int)
             ·rw [if_pos c33] at H
              have c33b0 : decide (x4_2 < (l0_2.length : Int)) = true := decide_eq_true c33
              clear c33
              have H' := zj H
              clear H
              have hcz34_0 : wc.cell? ⟨gb110, 0, none⟩ = some (.bool true) := (zq BK110.out 0).trans rfl
              have hcz34_1 : wc.cell? ⟨gb110, 1, none⟩ = some (.slice A0_1 l0_1.length c0_1) := (zq BK110.out 1).trans rfl
              have hcz34_2 : wc.cell? ⟨gb110, 2, none⟩ = some (.slice A0_2 l0_2.length c0_2) := (zq BK110.out 2).trans rfl
              have hcz34_3 : wc.cell? ⟨gb110, 3, none⟩ = some (.slice A0_3 l0_3.length c0_3) := (zq BK110.out 3).trans rfl
              have hfz34_0 := zu BK110.out 0
              have hfz34_1 := zu BK110.out 1
              have hfz34_2 := zu BK110.out 2
              have hfz34_3 := zu BK110.out 3
              have p115 : 0 ≤ (x4_2 : Int) := of_decide_eq_true (by first | (with_reducible assumption) | assumption)
              have q115 : x4_2 < (l0_2.length : Int) := of_decide_eq_true (by first | (with_reducible assumption) | assumption)
              obtain ⟨ad115, e115, hx115_0⟩ := Kd.at_string HR0_2.out x4_2 p115 q115
              cases e115
              replace hx115_0 := (HB.out.cell (World.block_lt_of_cell? w _ hx115_0)).trans hx115_0
              replace p115 := eq_true p115
              replace q115 := eq_true q115
              go_wp2
              repeat (go_quiet (fail); try go_wp2)
              go_meet
              case rel => exact ⟨_, (decide (((rdOf ByteArray.empty l0_2 x4_2).size : Int) > 24)), (by first | rfl | (simp; done) | (simp [*]; done)), H', ⟨by have := HJ1.out; have := HK2.out; have := HJ17.out; first | omega | exact Nat.le_refl _⟩, ⟨by (with_reducible repeat (first | refine za ?_ _ | refine zb ?_ | refine zc ?_ _)); exact BK110.out⟩, ⟨by repeat (first | (with_reducible first | exact HB.out | apply zg | apply zh | apply zi | refine zr ?_ GE110.out) | exact HB.out)⟩⟩
             ·rw [if_neg c33] at H
              exact absurd H (by simp)
            ·rw [if_neg c32] at H
             exact absurd H (by simp)
           ·replace c31 := Bool.eq_false_iff.mpr c31
            subst c31
            have H1 : (spec_NodeOk.j3 kj17 (l0_1.length : Int) x4_2 false false l0_1 l0_2 l0_3) = some r := by rw [if_neg (show ¬ (false = true) by decide)] at H; exact H
            clear H
            have H := H1
            clear H1
            have H' := zj H
            clear H
            have hcz35_0 : wc.cell? ⟨gb110, 0, none⟩ = some (.bool false) := (zq BK110.out 0).trans rfl
            have hcz35_1 : wc.cell? ⟨gb110, 1, none⟩ = some (.slice A0_1 l0_1.length c0_1) := (zq BK110.out 1).trans rfl
            have hcz35_2 : wc.cell? ⟨gb110, 2, none⟩ = some (.slice A0_2 l0_2.length c0_2) := (zq BK110.out 2).trans rfl
            have hcz35_3 : wc.cell? ⟨gb110, 3, none⟩ = some (.slice A0_3 l0_3.length c0_3) := (zq BK110.out 3).trans rfl
            have hfz35_0 := zu BK110.out 0
            have hfz35_1 := zu BK110.out 1
            have hfz35_2 := zu BK110.out 2
            have hfz35_3 := zu BK110.out 3
            go_wp2
            repeat (go_quiet (fail); try go_wp2)
            go_meet
            case rel => exact ⟨_, (false), (by first | rfl | (simp; done) | (simp [*]; done)), H', ⟨by have := HJ1.out; have := HK2.out; have := HJ17.out; first | omega | exact Nat.le_refl _⟩, ⟨by (with_reducible repeat (first | refine za ?_ _ | refine zb ?_ | refine zc ?_ _)); exact BK110.out⟩, ⟨by repeat (first | (with_reducible first | exact HB.out | apply zg | apply zh | apply zi | refine zr ?_ GE110.out) | exact HB.out)⟩⟩
          case rest =>
           clear HC30
           try clear c1
           try clear p1
           try clear q1
           try clear hx1
           try clear c2
           try clear p2
           try clear c3
           try clear c6
           try clear p6
           try clear c7
           try clear c8
           try clear c8b0
           try clear c8b1
           try clear c8b2
           try clear c9
           try clear c9b0
           try clear c9b1
           try clear c9b2
           try clear p11
           try clear q11
           try clear hx11
           try clear c13
           try clear c13b0
           try clear c13b1
           try clear c13b2
           try clear c16
           try clear c17
           try clear c17b0
           try clear c19
           try clear c19b0
           try clear c20
           try clear c20b0
           try clear c21
           try clear c21b0
           try clear c21b1
           try clear c23
           try clear c23b0
           try clear c25
           try clear c25b0
           try clear c26
           try clear c26b0
           try clear c29
           try clear c31
           try clear c32
           try clear c32b0
           try clear c33
           try clear c33b0
           try clear hcz10_0
           try clear hcz10_1
           try clear hcz10_2
           try clear hcz10_3
           try clear hcz11_0
           try clear hcz11_1
           try clear hcz11_2
           try clear hcz11_3
           try clear hcz12_0
           try clear hcz12_1
           try clear hcz12_2
           try clear hcz12_3
           try clear hcz14_0
           try clear hcz14_1
           try clear hcz14_2
           try clear hcz14_3
           try clear hcz15_0
           try clear hcz15_1
           try clear hcz15_2
           try clear hcz15_3
           try clear hcz22_0
           try clear hcz22_1
           try clear hcz22_2
           try clear hcz22_3
           try clear hcz27_0
           try clear hcz27_1
           try clear hcz27_2
           try clear hcz27_3
           try clear hcz28_0
           try clear hcz28_1
           try clear hcz28_2
           try clear hcz28_3
           try clear hcz34_0
           try clear hcz34_1
           try clear hcz34_2
           try clear hcz34_3
           try clear hcz35_0
           try clear hcz35_1
           try clear hcz35_2
           try clear hcz35_3
           try clear hcz4_0
           try clear hcz4_1
           try clear hcz4_2
           try clear hcz4_3
           try clear hfz10_0
           try clear hfz10_1
           try clear hfz10_2
           try clear hfz10_3
           try clear hfz11_0
           try clear hfz11_1
           try clear hfz11_2
           try clear hfz11_3
           try clear hfz12_0
           try clear hfz12_1
           try clear hfz12_2
           try clear hfz12_3
           try clear hfz14_0
           try clear hfz14_1
           try clear hfz14_2
           try clear hfz14_3
           try clear hfz15_0
           try clear hfz15_1
           try clear hfz15_2
           try clear hfz15_3
           try clear hfz22_0
           try clear hfz22_1
           try clear hfz22_2
           try clear hfz22_3
           try clear hfz27_0
           try clear hfz27_1
           try clear hfz27_2
           try clear hfz27_3
           try clear hfz28_0
           try clear hfz28_1
           try clear hfz28_2
           try clear hfz28_3
           try clear hfz34_0
           try clear hfz34_1
           try clear hfz34_2
           try clear hfz34_3
           try clear hfz35_0
           try clear hfz35_1
           try clear hfz35_2
           try clear hfz35_3
           try clear hfz4_0
           try clear hfz4_1
           try clear hfz4_2
           try clear hfz4_3
           try clear hx112_0
           try clear hx113_0
           try clear hx114_0
           try clear hx115_0
           try clear p1
           try clear p11
           try clear p112
           try clear p113
           try clear p114
           try clear p115
           try clear p2
           try clear p6
           try clear q1
           try clear q11
           try clear q112
           try clear q113
           try clear q114
           try clear q115
           obtain ⟨kq, x87_29, rfl, HA, HJ29, BK110, HB⟩ := hcut
           cases kq with
           | zero => exact absurd HA.out (by simp [spec_NodeOk.j3])
           | succ kj29 =>
            have H := HA.out
            clear HA
            simp only [spec_NodeOk.j3] at H
            by_cases c36 : x87_29 = true
            ·subst c36
             have H1 : (some false) = some r := by rw [if_pos rfl] at H; exact H
             clear H
             have H := H1
             clear H1
             obtain rfl := Option.some.inj H
             go_wp2
             repeat (go_quiet (fail); try go_wp2)
             go_ret
             exact ⟨by first | rfl | (simp [errW_none, errW_some] <;> rfl) | (simp [*, errW_none, errW_some] <;> rfl), by repeat (first | (with_reducible first | exact HB.out | apply zg | apply zh | apply zi | refine zr ?_ GE110.out) | exact HB.out)⟩
            ·replace c36 := Bool.eq_false_iff.mpr c36
             subst c36
             have H1 : (if a0_0 = true then (spec_NodeOk.l0 kj29 (l0_1.length : Int) (wrap64 (x4_2 + 1)) a0_0 l0_1 l0_2 l0_3) else (if 0 ≤ x4_2 then (if x4_2 < (l0_3.length : Int) then ((spec_l01In.f (rd l0_3 x4_2) 2 39).bind fun t117 => (if t117 = true then (spec_NodeOk.l1 kj29 (l0_1.length : Int) x4_2 0 a0_0 l0_1 l0_2 l0_3) else (some false))) else (none)) else (none))) = some r := by rw [if_neg (show ¬ (false = true) by decide)] at H; exact H
             clear H
             have H := H1
             clear H1
             by_cases c37 : a0_0 = true
             ·subst c37
              have H1 : (spec_NodeOk.l0 kj29 (l0_1.length : Int) (wrap64 (x4_2 + 1)) true l0_1 l0_2 l0_3) = some r := by rw [if_pos rfl] at H; exact H
              clear H
              have H := H1
              clear H1
              have H' := zj H
              clear H
              have hcz38_0 : wc.cell? ⟨gb110, 0, none⟩ = some (.bool true) := (zq BK110.out 0).trans rfl
              have hcz38_1 : wc.cell? ⟨gb110, 1, none⟩ = some (.slice A0_1 l0_1.length c0_1) := (zq BK110.out 1).trans rfl
              have hcz38_2 : wc.cell? ⟨gb110, 2, none⟩ = some (.slice A0_2 l0_2.length c0_2) := (zq BK110.out 2).trans rfl
              have hcz38_3 : wc.cell? ⟨gb110, 3, none⟩ = some (.slice A0_3 l0_3.length c0_3) := (zq BK110.out 3).trans rfl
              have hfz38_0 := zu BK110.out 0
              have hfz38_1 := zu BK110.out 1
              have hfz38_2 := zu BK110.out 2
              have hfz38_3 := zu BK110.out 3
              go_wp2
              repeat (go_quiet (fail); try go_wp2)
              go_roundg kj29
              case measure => have := HJ1.out; have := HK2.out; have := HJ17.out; have := HJ29.out; omega
              case rel => exact ⟨(wrap64 (x4_2 + 1)), (by first | rfl | (simp; done) | (simp [*]; done)), H', ⟨by have := HJ1.out; have := HK2.out; have := HJ17.out; have := HJ29.out; omega⟩, ⟨by (with_reducible repeat (first | refine za ?_ _ | refine zb ?_ | refine zc ?_ _)); exact BK110.out⟩, ⟨by repeat (first | (with_reducible first | exact HB.out | apply zg | apply zh | apply zi | refine zr ?_ GE110.out) | exact HB.out)⟩⟩
             ·replace c37 := Bool.eq_false_iff.mpr c37
              subst c37
              have H1 : (if 0 ≤ x4_2 then (if x4_2 < (l0_3.length : Int) then ((spec_l01In.f (rd l0_3 x4_2) 2 39).bind fun t117 => (if t117 = true then (spec_NodeOk.l1 kj29 (l0_1.length : Int) x4_2 0 false l0_1 l0_2 l0_3) else (some false))) else (none)) else (none)) = some r := by rw [if_neg (show ¬ (false = true) by decide)] at H; exact H
              clear H
              have H := H1
              clear H1
              by_cases c39 : 0 ≤ x4_2
              ·rw [if_pos c39] at H
               have c39b0 : decide (0 ≤ x4_2) = true := decide_eq_true c39
               clear c39
               by_cases c40 : x4_2 < (l0_3.length : Int)
               ·rw [if_pos c40] at H
                have c40b0 : decide (x4_2 < (l0_3.length : Int)) = true := decide_eq_true c40
                clear c40
                replace H := Option.bind_eq_some_iff.mp H
                obtain ⟨t117, A410, H⟩ := H
                replace H : (if t117 = true then (spec_NodeOk.l1 kj29 (l0_1.length : Int) x4_2 0 false l0_1 l0_2 l0_3) else (some false)) = some r := H
                have A41 := zj A410
                clear A410
                by_cases c42 : t117 = true
                ·subst c42
                 have H1 : (spec_NodeOk.l1 kj29 (l0_1.length : Int) x4_2 0 false l0_1 l0_2 l0_3) = some r := by rw [if_pos rfl] at H; exact H
                 clear H
                 have H := H1
                 clear H1
                 have H' := zj H
                 clear H
                 have hcz43_0 : wc.cell? ⟨gb110, 0, none⟩ = some (.bool false) := (zq BK110.out 0).trans rfl
                 have hcz43_1 : wc.cell? ⟨gb110, 1, none⟩ = some (.slice A0_1 l0_1.length c0_1) := (zq BK110.out 1).trans rfl
                 have hcz43_2 : wc.cell? ⟨gb110, 2, none⟩ = some (.slice A0_2 l0_2.length c0_2) := (zq BK110.out 2).trans rfl
                 have hcz43_3 : wc.cell? ⟨gb110, 3, none⟩ = some (.slice A0_3 l0_3.length c0_3) := (zq BK110.out 3).trans rfl
                 have hfz43_0 := zu BK110.out 0
                 have hfz43_1 := zu BK110.out 1
                 have hfz43_2 := zu BK110.out 2
                 have hfz43_3 := zu BK110.out 3
                 have p116 : 0 ≤ (x4_2 : Int) := of_decide_eq_true (by first | (with_reducible assumption) | assumption)
                 have q116 : x4_2 < (l0_3.length : Int) := of_decide_eq_true (by first | (with_reducible assumption) | assumption)
                 obtain ⟨ad116, e116, hx116_0⟩ := Kd.at_int HR0_3.out x4_2 p116 q116
                 cases e116
                 replace hx116_0 := (HB.out.cell (World.block_lt_of_cell? w _ hx116_0)).trans hx116_0
                 replace p116 := eq_true p116
                 replace q116 := eq_true q116
                 go_wp2_with (first | (go_at_call 111; (with_reducible refine (spec_l01In.calls (rd l0_3 x4_2) 2 39 true _ A41.out).mono ?_); rintro e w' ⟨rfl, ⟨nd, rfl⟩⟩; (try first | exact ⟨rfl, _, World.drewN_drewN _ _ _⟩ | exact ⟨rfl, _, Eq.trans (World.drewN_drewN _ _ _) (congrArg (World.drewN _) (Nat.add_assoc _ _ _))⟩)))
                 repeat (go_quiet (first | (go_at_call 111; (with_reducible refine (spec_l01In.calls (rd l0_3 x4_2) 2 39 true _ A41.out).mono ?_); rintro e w' ⟨rfl, ⟨nd, rfl⟩⟩; (try first | exact ⟨rfl, _, World.drewN_drewN _ _ _⟩ | exact ⟨rfl, _, Eq.trans (World.drewN_drewN _ _ _) (congrArg (World.drewN _) (Nat.add_assoc _ _ _))⟩))); try go_wp2_with (first | (go_at_call 111; (with_reducible refine (spec_l01In.calls (rd l0_3 x4_2) 2 39 true _ A41.out).mono ?_); rintro e w' ⟨rfl, ⟨nd, rfl⟩⟩; (try first | exact ⟨rfl, _, World.drewN_drewN _ _ _⟩ | exact ⟨rfl, _, Eq.trans (World.drewN_drewN _ _ _) (congrArg (World.drewN _) (Nat.add_assoc _ _ _))⟩))))
                 go_loopg [5] kj29 (fun kq v5 w' => ∃ (x5_5 : Int), v5 = .int .i64 x5_5 ∧ Aside0 (spec_NodeOk.l1 kq (l0_1.length : Int) x4_2 x5_5 false l0_1 l0_2 l0_3 = some r) ∧ Aside0 (kq ≤ kj29) ∧ Aside0 (w'.heap[gb110]? = some (.cells #[.bool false, (.slice A0_1 l0_1.length c0_1), (.slice A0_2 l0_2.length c0_2), (.slice (some ad116) l0_3.length c0_3)] 29 (0, 0))) ∧ Aside0 (Below w.heap.size w w'))
                 case atStart => exact ⟨(0), (by first | rfl | (simp; done) | (simp [*]; done)), H', ⟨Nat.le_refl _⟩, ⟨by (with_reducible repeat (first | refine za ?_ _ | refine zb ?_ | refine zc ?_ _)); exact BK110.out⟩, ⟨by repeat (first | (with_reducible first | exact HB.out | apply zg | apply zh | apply zi | refine zr ?_ GE110.out) | exact HB.out)⟩⟩
                 case round =>
                  clear H'
                  try clear c1
                  try clear p1
                  try clear q1
                  try clear hx1
                  try clear c2
                  try clear p2
                  try clear c3
                  try clear c4
                  try clear c6
                  try clear p6
                  try clear c7
                  try clear c8
                  try clear c8b0
                  try clear c8b1
                  try clear c8b2
                  try clear c9
                  try clear c9b0
                  try clear c9b1
                  try clear c9b2
                  try clear p11
                  try clear q11
                  try clear hx11
                  try clear c13
                  try clear c13b0
                  try clear c13b1
                  try clear c13b2
                  try clear c16
                  try clear c17
                  try clear c17b0
                  try clear c19
                  try clear c19b0
                  try clear c20
                  try clear c20b0
                  try clear c21
                  try clear c21b0
                  try clear c21b1
                  try clear c23
                  try clear c23b0
                  try clear c25
                  try clear c25b0
                  try clear c26
                  try clear c26b0
                  try clear c29
                  try clear c31
                  try clear c32
                  try clear c32b0
                  try clear c33
                  try clear c33b0
                  try clear c36
                  try clear c37
                  try clear c39
                  try clear c39b0
                  try clear c40
                  try clear c40b0
                  try clear c42
                  try clear hcz10_0
                  try clear hcz10_1
                  try clear hcz10_2
                  try clear hcz10_3
                  try clear hcz11_0
                  try clear hcz11_1
                  try clear hcz11_2
                  try clear hcz11_3
                  try clear hcz12_0
                  try clear hcz12_1
                  try clear hcz12_2
                  try clear hcz12_3
                  try clear hcz14_0
                  try clear hcz14_1
                  try clear hcz14_2
                  try clear hcz14_3
                  try clear hcz15_0
                  try clear hcz15_1
                  try clear hcz15_2
                  try clear hcz15_3
                  try clear hcz22_0
                  try clear hcz22_1
                  try clear hcz22_2
                  try clear hcz22_3
                  try clear hcz27_0
                  try clear hcz27_1
                  try clear hcz27_2
                  try clear hcz27_3
                  try clear hcz28_0
                  try clear hcz28_1
                  try clear hcz28_2
                  try clear hcz28_3
                  try clear hcz34_0
                  try clear hcz34_1
                  try clear hcz34_2
                  try clear hcz34_3
                  try clear hcz35_0
                  try clear hcz35_1
                  try clear hcz35_2
                  try clear hcz35_3
                  try clear hcz38_0
                  try clear hcz38_1
                  try clear hcz38_2
                  try clear hcz38_3
                  try clear hcz43_0
                  try clear hcz43_1
                  try clear hcz43_2
                  try clear hcz43_3
                  try clear hcz4_0
                  try clear hcz4_1
                  try clear hcz4_2
                  try clear hcz4_3
                  try clear hfz10_0
                  try clear hfz10_1
                  try clear hfz10_2
                  try clear hfz10_3
                  try clear hfz11_0
                  try clear hfz11_1
                  try clear hfz11_2
                  try clear hfz11_3
                  try clear hfz12_0
                  try clear hfz12_1
                  try clear hfz12_2
                  try clear hfz12_3
                  try clear hfz14_0
                  try clear hfz14_1
                  try clear hfz14_2
                  try clear hfz14_3
                  try clear hfz15_0
                  try clear hfz15_1
                  try clear hfz15_2
                  try clear hfz15_3
                  try clear hfz22_0
                  try clear hfz22_1
                  try clear hfz22_2
                  try clear hfz22_3
                  try clear hfz27_0
                  try clear hfz27_1
                  try clear hfz27_2
                  try clear hfz27_3
                  try clear hfz28_0
                  try clear hfz28_1
                  try clear hfz28_2
                  try clear hfz28_3
                  try clear hfz34_0
                  try clear hfz34_1
                  try clear hfz34_2
                  try clear hfz34_3
                  try clear hfz35_0
                  try clear hfz35_1
                  try clear hfz35_2
                  try clear hfz35_3
                  try clear hfz38_0
                  try clear hfz38_1
                  try clear hfz38_2
                  try clear hfz38_3
                  try clear hfz43_0
                  try clear hfz43_1
                  try clear hfz43_2
                  try clear hfz43_3
                  try clear hfz4_0
                  try clear hfz4_1
                  try clear hfz4_2
                  try clear hfz4_3
                  try clear hx112_0
                  try clear hx113_0
                  try clear hx114_0
                  try clear hx115_0
                  try clear hx116_0
                  try clear p1
                  try clear p11
                  try clear p112
                  try clear p113
                  try clear p114
                  try clear p115
                  try clear p116
                  try clear p2
                  try clear p6
                  try clear q1
                  try clear q11
                  try clear q112
                  try clear q113
                  try clear q114
                  try clear q115
                  try clear q116
                  obtain ⟨x5_5, rfl, HA, HK5, BK110, HB⟩ := hrel
                  cases gk with
                  | zero => exact absurd HA.out (by simp [spec_NodeOk.l1])
                  | succ k5 =>
                   have H := HA.out
                   clear HA
                   simp only [spec_NodeOk.l1] at H
                   by_cases c44 : x5_5 < x4_2
                   ·rw [if_pos c44] at H
                    have c44b0 : decide (x5_5 < x4_2) = true := decide_eq_true c44
                    clear c44
                    by_cases c45 : 0 ≤ x5_5
                    ·rw [if_pos c45] at H
                     have c45b0 : decide (0 ≤ x5_5) = true := decide_eq_true c45
                     clear c45
                     by_cases c46 : x5_5 < (l0_3.length : Int)
                     ·rw [if_pos c46] at H
                      have c46b0 : decide (x5_5 < (l0_3.length : Int)) = true := decide_eq_true c46
                      clear c46
                      by_cases c47 : 0 ≤ x4_2
                      ·rw [if_pos c47] at H
                       have c47b0 : decide (0 ≤ x4_2) = true := decide_eq_true c47
                       clear c47
                       by_cases c48 : x4_2 < (l0_3.length : Int)
                       ·rw [if_pos c48] at H
                        have c48b0 : decide (x4_2 < (l0_3.length : Int)) = true := decide_eq_true c48
                        clear c48
                        by_cases c49 : (rd l0_3 x5_5) = (rd l0_3 x4_2)
                        ·rw [if_pos c49] at H
                         have c49b0 : ((rd l0_3 x5_5) == (rd l0_3 x4_2)) = true := beq_iff_eq.mpr c49
                         have c49b1 : ((rd l0_3 x5_5) != (rd l0_3 x4_2)) = false := bne_eq_false_iff_eq.mpr c49
                         clear c49
                         obtain rfl := Option.some.inj H
                         have hcz50_0 : wr.cell? ⟨gb110, 0, none⟩ = some (.bool false) := (zq BK110.out 0).trans rfl
                         have hcz50_1 : wr.cell? ⟨gb110, 1, none⟩ = some (.slice A0_1 l0_1.length c0_1) := (zq BK110.out 1).trans rfl
                         have hcz50_2 : wr.cell? ⟨gb110, 2, none⟩ = some (.slice A0_2 l0_2.length c0_2) := (zq BK110.out 2).trans rfl
                         have hcz50_3 : wr.cell? ⟨gb110, 3, none⟩ = some (.slice (some ad116) l0_3.length c0_3) := (zq BK110.out 3).trans rfl
                         have hfz50_0 := zu BK110.out 0
                         have hfz50_1 := zu BK110.out 1
                         have hfz50_2 := zu BK110.out 2
                         have hfz50_3 := zu BK110.out 3
                         have p118 : 0 ≤ (x5_5 : Int) := of_decide_eq_true (by first | (with_reducible assumption) | assumption)
                         have q118 : x5_5 < (l0_3.length : Int) := of_decide_eq_true (by first | (with_reducible assumption) | assumption)
                         obtain ⟨ad118, e118, hx118_0⟩ := Kd.at_int HR0_3.out x5_5 p118 q118
                         obtain rfl : ad116 = ad118 := (by injection e118)
                         replace hx118_0 := (HB.out.cell (World.block_lt_of_cell? w _ hx118_0)).trans hx118_0
                         replace p118 := eq_true p118
                         replace q118 := eq_true q118
                         have p119 : 0 ≤ (x4_2 : Int) := of_decide_eq_true (by first | (with_reducible assumption) | assumption)
                         have q119 : x4_2 < (l0_3.length : Int) := of_decide_eq_true (by first | (with_reducible assumption) | assumption)
                         obtain ⟨ad119, e119, hx119_0⟩ := Kd.at_int HR0_3.out x4_2 p119 q119
                         obtain rfl : ad116 = ad119 := (by injection e119)
                         replace hx119_0 := (HB.out.cell (World.block_lt_of_cell? w _ hx119_0)).trans hx119_0
                         replace p119 := eq_true p119
                         replace q119 := eq_true q119
                         go_wp2
                         repeat (go_quiet (fail); try go_wp2)
                         go_ret
                         exact ⟨by first | rfl | (simp [errW_none, errW_some] <;> rfl) | (simp [*, errW_none, errW_some] <;> rfl), by repeat (first | (with_reducible first | exact HB.out | apply zg | apply zh | apply zi | refine zr ?_ GE110.out) | exact HB.out)⟩
                        ·rw [if_neg c49] at H
                         have c49b0 : ((rd l0_3 x5_5) == (rd l0_3 x4_2)) = false := beq_eq_false_iff_ne.mpr c49
                         have c49b1 : ((rd l0_3 x5_5) != (rd l0_3 x4_2)) = true := bne_iff_ne.mpr c49
                         have H' := zj H
                         clear H
                         have hcz51_0 : wr.cell? ⟨gb110, 0, none⟩ = some (.bool false) := (zq BK110.out 0).trans rfl
                         have hcz51_1 : wr.cell? ⟨gb110, 1, none⟩ = some (.slice A0_1 l0_1.length c0_1) := (zq BK110.out 1).trans rfl
                         have hcz51_2 : wr.cell? ⟨gb110, 2, none⟩ = some (.slice A0_2 l0_2.length c0_2) := (zq BK110.out 2).trans rfl
                         have hcz51_3 : wr.cell? ⟨gb110, 3, none⟩ = some (.slice (some ad116) l0_3.length c0_3) := (zq BK110.out 3).trans rfl
                         have hfz51_0 := zu BK110.out 0
                         have hfz51_1 := zu BK110.out 1
                         have hfz51_2 := zu BK110.out 2
                         have hfz51_3 := zu BK110.out 3
                         have p118 : 0 ≤ (x5_5 : Int) := of_decide_eq_true (by first | (with_reducible assumption) | assumption)
                         have q118 : x5_5 < (l0_3.length : Int) := of_decide_eq_true (by first | (with_reducible assumption) | assumption)
                         obtain ⟨ad118, e118, hx118_0⟩ := Kd.at_int HR0_3.out x5_5 p118 q118
                         obtain rfl : ad116 = ad118 := (by injection e118)
                         replace hx118_0 := (HB.out.cell (World.block_lt_of_cell? w _ hx118_0)).trans hx118_0
                         replace p118 := eq_true p118
                         replace q118 := eq_true q118
                         have p119 : 0 ≤ (x4_2 : Int) := of_decide_eq_true (by first | (with_reducible assumption) | assumption)
                         have q119 : x4_2 < (l0_3.length : Int) := of_decide_eq_true (by first | (with_reducible assumption) | assumption)
                         obtain ⟨ad119, e119, hx119_0⟩ := Kd.at_int HR0_3.out x4_2 p119 q119
                         obtain rfl : ad116 = ad119 := (by injection e119)
                         replace hx119_0 := (HB.out.cell (World.block_lt_of_cell? w _ hx119_0)).trans hx119_0
                         replace p119 := eq_true p119
                         replace q119 := eq_true q119
                         go_wp2
                         repeat (go_quiet (fail); try go_wp2)
                         go_roundg k5
                         case measure => have := HJ1.out; have := HK2.out; have := HJ17.out; have := HJ29.out; have := HK5.out; omega
                         case rel => exact ⟨(wrap64 (x5_5 + 1)), (by first | rfl | (simp; done) | (simp [*]; done)), H', ⟨by have := HJ1.out; have := HK2.out; have := HJ17.out; have := HJ29.out; have := HK5.out; omega⟩, ⟨by (with_reducible repeat (first | refine za ?_ _ | refine zb ?_ | refine zc ?_ _)); exact BK110.out⟩, ⟨by repeat (first | (with_reducible first | exact HB.out | apply zg | apply zh | apply zi | refine zr ?_ GE110.out) | exact HB.out)⟩⟩
                       ·rw [if_neg c48] at H
                        exact absurd H (by simp)
                      ·rw [if_neg c47] at H
                       exact absurd H (by simp)
                     ·rw [if_neg c46] at H
                      exact absurd H (by simp)
                    ·rw [if_neg c45] at H
                     exact absurd H (by simp)
                   ·rw [if_neg c44] at H
                    have c44b0 : decide (x5_5 < x4_2) = false := decide_eq_false c44
                    clear c44
                    have H' := zj H
                    clear H
                    go_wp2
                    repeat (go_quiet (fail); try go_wp2)
                    go_roundg k5
                    case measure => have := HJ1.out; have := HK2.out; have := HJ17.out; have := HJ29.out; have := HK5.out; omega
                    case rel => exact ⟨(wrap64 (x4_2 + 1)), (by first | rfl | (simp; done) | (simp [*]; done)), H', ⟨by have := HJ1.out; have := HK2.out; have := HJ17.out; have := HJ29.out; have := HK5.out; omega⟩, ⟨by (with_reducible repeat (first | refine za ?_ _ | refine zb ?_ | refine zc ?_ _)); exact BK110.out⟩, ⟨by repeat (first | (with_reducible first | exact HB.out | apply zg | apply zh | apply zi | refine zr ?_ GE110.out) | exact HB.out)⟩⟩
                ·replace c42 := Bool.eq_false_iff.mpr c42
                 subst c42
                 have H1 : (some false) = some r := by rw [if_neg (show ¬ (false = true) by decide)] at H; exact H
                 clear H
                 have H := H1
                 clear H1
                 obtain rfl := Option.some.inj H
                 have hcz52_0 : wc.cell? ⟨gb110, 0, none⟩ = some (.bool false) := (zq BK110.out 0).trans rfl
                 have hcz52_1 : wc.cell? ⟨gb110, 1, none⟩ = some (.slice A0_1 l0_1.length c0_1) := (zq BK110.out 1).trans rfl
                 have hcz52_2 : wc.cell? ⟨gb110, 2, none⟩ = some (.slice A0_2 l0_2.length c0_2) := (zq BK110.out 2).trans rfl
                 have hcz52_3 : wc.cell? ⟨gb110, 3, none⟩ = some (.slice A0_3 l0_3.length c0_3) := (zq BK110.out 3).trans rfl
                 have hfz52_0 := zu BK110.out 0
                 have hfz52_1 := zu BK110.out 1
                 have hfz52_2 := zu BK110.out 2
                 have hfz52_3 := zu BK110.out 3
                 have p116 : 0 ≤ (x4_2 : Int) := of_decide_eq_true (by first | (with_reducible assumption) | assumption)
                 have q116 : x4_2 < (l0_3.length : Int) := of_decide_eq_true (by first | (with_reducible assumption) | assumption)
                 obtain ⟨ad116, e116, hx116_0⟩ := Kd.at_int HR0_3.out x4_2 p116 q116
                 cases e116
                 replace hx116_0 := (HB.out.cell (World.block_lt_of_cell? w _ hx116_0)).trans hx116_0
                 replace p116 := eq_true p116
                 replace q116 := eq_true q116
                 go_wp2_with (first | (go_at_call 111; (with_reducible refine (spec_l01In.calls (rd l0_3 x4_2) 2 39 false _ A41.out).mono ?_); rintro e w' ⟨rfl, ⟨nd, rfl⟩⟩; (try first | exact ⟨rfl, _, World.drewN_drewN _ _ _⟩ | exact ⟨rfl, _, Eq.trans (World.drewN_drewN _ _ _) (congrArg (World.drewN _) (Nat.add_assoc _ _ _))⟩)))
                 repeat (go_quiet (first | (go_at_call 111; (with_reducible refine (spec_l01In.calls (rd l0_3 x4_2) 2 39 false _ A41.out).mono ?_); rintro e w' ⟨rfl, ⟨nd, rfl⟩⟩; (try first | exact ⟨rfl, _, World.drewN_drewN _ _ _⟩ | exact ⟨rfl, _, Eq.trans (World.drewN_drewN _ _ _) (congrArg (World.drewN _) (Nat.add_assoc _ _ _))⟩))); try go_wp2_with (first | (go_at_call 111; (with_reducible refine (spec_l01In.calls (rd l0_3 x4_2) 2 39 false _ A41.out).mono ?_); rintro e w' ⟨rfl, ⟨nd, rfl⟩⟩; (try first | exact ⟨rfl, _, World.drewN_drewN _ _ _⟩ | exact ⟨rfl, _, Eq.trans (World.drewN_drewN _ _ _) (congrArg (World.drewN _) (Nat.add_assoc _ _ _))⟩))))
                 go_ret
                 exact ⟨by first | rfl | (simp [errW_none, errW_some] <;> rfl) | (simp [*, errW_none, errW_some] <;> rfl), by repeat (first | (with_reducible first | exact HB.out | apply zg | apply zh | apply zi | refine zr ?_ GE110.out) | exact HB.out)⟩
               ·rw [if_neg c40] at H
                exact absurd H (by simp)
              ·rw [if_neg c39] at H
               exact absurd H (by simp)
      ·rw [if_neg c17] at H
       have c17b0 : decide (x4_2 < (l0_1.length : Int)) = false := decide_eq_false c17
       clear c17
       obtain rfl := Option.some.inj H
       go_wp2
       repeat (go_quiet (fail); try go_wp2)
       go_ret
       exact ⟨by first | rfl | (simp [errW_none, errW_some] <;> rfl) | (simp [*, errW_none, errW_some] <;> rfl), by repeat (first | (with_reducible first | exact HB.out | apply zg | apply zh | apply zi | refine zr ?_ GE110.out) | exact HB.out)⟩

end Go.Proofs.Ytkobbccjjglfmaa.VFnExactReadNode
