-- Written by a program of this repo (wip/myprint.py), over the kit's print; functions that the print does not take stand in it by hand-proved contracts.
import Derived.Test.YtbjlpmhhcigkdaaVFnFallsx0
import Derived.Test.YtbjlpmhhcigkdaaVFnFallsx1
namespace Go.Proofs.Ytbjlpmhhcigkdaa.VFnFalls
open Go.RowKit Go.Proofs.YtbjlpmhhcigkdaaW.PrintWords Go.Proofs.YtbjlpmhhcigkdaaW.PrintLast Go.Proofs.YtbjlpmhhcigkdaaW.PrintMore
attribute [local go_sem] max2_int min2_int max_two min_two max_three min_three max_four min_four   -- for this text's walks alone
attribute [local go_sem high] str_leq str_gtr str_geq str_lss
set_option linter.unusedVariables false
set_option linter.unusedSimpArgs false

attribute [local go_sem high] eqA74
/-! ### laws_sameTexts: function 49 -/
def laws_sameTexts.l0 : Nat → List ByteArray → List ByteArray → Int → Option (Bool)
 | 0, _, _, _ => none
 | k + 1, x0, x1, x5 => if x5 < (x0.length : Int) then (if 0 ≤ x5 then (if x5 < (x1.length : Int) then (if (rdOf ByteArray.empty x0 x5).toList = (rdOf ByteArray.empty x1 x5).toList then (laws_sameTexts.l0 k x0 x1 (wrap64 (x5 + 1))) else (some false)) else (none)) else (none)) else (some true)
def laws_sameTexts.f (k : Nat) (l0 : List ByteArray) (l1 : List ByteArray) : Option (Bool) := if (l0.length : Int) = (l1.length : Int) then (laws_sameTexts.l0 k l0 l1 0) else (some false)
theorem laws_sameTexts.mono_l : ∀ k, (∀ y0 y1 y2, LeO (laws_sameTexts.l0 k y0 y1 y2) (laws_sameTexts.l0 (k + 1) y0 y1 y2))
 | 0 => fun _ _ _ r h => by simp [laws_sameTexts.l0] at h
 | k + 1 => by
  have ih0 := laws_sameTexts.mono_l k
  ·intro y0 y1 y2
   unfold laws_sameTexts.l0
   repeat' first
   | (with_reducible exact ih0 _ _ _)
   | (with_reducible exact LeO.refl _)
   | (with_reducible exact LeO.none _)
   | (with_reducible refine LeO.ite ?_ ?_)
   | (with_reducible refine LeO.bind ?_ (fun _ => ?_))
   | exact ih0 _ _ _
   | exact LeO.none _
   | refine LeO.ite ?_ ?_
   | refine LeO.bind ?_ (fun _ => ?_)
theorem laws_sameTexts.mono : ∀ a0 a1 k, LeO (laws_sameTexts.f k a0 a1) (laws_sameTexts.f (k + 1) a0 a1) := by
 intro a0 a1 k
 have ih0 := laws_sameTexts.mono_l k
 unfold laws_sameTexts.f
 repeat' first
   | (with_reducible exact ih0 _ _ _)
   | (with_reducible exact LeO.refl _)
   | (with_reducible exact LeO.none _)
   | (with_reducible refine LeO.ite ?_ ?_)
   | (with_reducible refine LeO.bind ?_ (fun _ => ?_))
   | exact ih0 _ _ _
   | exact LeO.none _
   | refine LeO.ite ?_ ?_
   | refine LeO.bind ?_ (fun _ => ?_)
set_option maxHeartbeats 8000000 in
set_option maxRecDepth 100000 in
theorem laws_sameTexts.calls (k : Nat) (A0 : Option Addr) (c0 : Nat) (l0 : List ByteArray) (A1 : Option Addr) (c1 : Nat) (l1 : List ByteArray) (r : Bool) (w : World) (hr0 : Kd.C Kd.string w A0 l0.length l0) (hc0 : l0.length ≤ c0) (hr1 : Kd.C Kd.string w A1 l1.length l1) (hc1 : l1.length ≤ c1) (h : laws_sameTexts.f k l0 l1 = some r) :
  Calls Try.prog 49 #[.slice A0 l0.length c0, .slice A1 l1.length c1] w fun e w' => e = .returned (.bool r) ∧ Drawn0 w w' := by
 have HR0 := zj hr0
 have HC0 := zj hc0
 clear hr0 hc0
 have HR1 := zj hr1
 have HC1 := zj hc1
 clear hr1 hc1
 have H : (if (l0.length : Int) = (l1.length : Int) then (laws_sameTexts.l0 k l0 l1 0) else (some false)) = some r := h
 clear h
 by_cases c3 : (l0.length : Int) = (l1.length : Int)
 ·rw [if_pos c3] at H
  have c3b0 : ((l0.length : Int) == (l1.length : Int)) = true := beq_iff_eq.mpr c3
  have c3b1 : ((l0.length : Int) != (l1.length : Int)) = false := bne_eq_false_iff_eq.mpr c3
  have c3b2 : (l0.length == l1.length) = true := by first | simpa using c3 | (simp at c3 ⊢; omega)
  clear c3
  have H' := zj H
  clear H
  go_enter Try.func49, Try.ntmps49
  go_wp2
  repeat (go_quiet (fail); try go_wp2)
  go_loopg [5] k (fun kq v5 w' => ∃ (x5_1 : Int), v5 = .int .i64 x5_1 ∧ Aside0 (laws_sameTexts.l0 kq l0 l1 x5_1 = some r) ∧ Aside0 (kq ≤ k) ∧ Drawn0 w w')
  case atStart => exact ⟨(0), (by first | rfl | (simp; done) | (simp [*]; done)), H', ⟨Nat.le_refl _⟩, by repeat (first | exact Drawn0.refl _ | apply Drawn0.step)⟩
  case round =>
   clear H'
   try clear c1
   try clear p2
   try clear c3
   try clear c3b0
   try clear c3b1
   try clear c3b2
   obtain ⟨x5_1, rfl, HA, HK1, ⟨m1, rfl⟩⟩ := hrel
   cases gk with
   | zero => exact absurd HA.out (by simp [laws_sameTexts.l0])
   | succ k1 =>
    have H := HA.out
    clear HA
    simp only [laws_sameTexts.l0] at H
    by_cases c4 : x5_1 < (l0.length : Int)
    ·rw [if_pos c4] at H
     have c4b0 : decide (x5_1 < (l0.length : Int)) = true := decide_eq_true c4
     clear c4
     by_cases c5 : 0 ≤ x5_1
     ·rw [if_pos c5] at H
      have c5b0 : decide (0 ≤ x5_1) = true := decide_eq_true c5
      clear c5
      by_cases c6 : x5_1 < (l1.length : Int)
      ·rw [if_pos c6] at H
       have c6b0 : decide (x5_1 < (l1.length : Int)) = true := decide_eq_true c6
       clear c6
       by_cases c7 : (rdOf ByteArray.empty l0 x5_1).toList = (rdOf ByteArray.empty l1 x5_1).toList
       ·rw [if_pos c7] at H
        have c7b0 : ((rdOf ByteArray.empty l0 x5_1).toList == (rdOf ByteArray.empty l1 x5_1).toList) = true := beq_iff_eq.mpr c7
        have c7b1 : ((rdOf ByteArray.empty l0 x5_1).toList != (rdOf ByteArray.empty l1 x5_1).toList) = false := bne_eq_false_iff_eq.mpr c7
        clear c7
        have H' := zj H
        clear H
        have p254 : 0 ≤ (x5_1 : Int) := of_decide_eq_true (by first | (with_reducible assumption) | assumption)
        have q254 : x5_1 < (l0.length : Int) := of_decide_eq_true (by first | (with_reducible assumption) | assumption)
        obtain ⟨ad254, e254, hx254_0⟩ := Kd.at_string HR0.out x5_1 p254 q254
        cases e254
        replace p254 := eq_true p254
        replace q254 := eq_true q254
        have p255 : 0 ≤ (x5_1 : Int) := of_decide_eq_true (by first | (with_reducible assumption) | assumption)
        have q255 : x5_1 < (l1.length : Int) := of_decide_eq_true (by first | (with_reducible assumption) | assumption)
        obtain ⟨ad255, e255, hx255_0⟩ := Kd.at_string HR1.out x5_1 p255 q255
        cases e255
        replace p255 := eq_true p255
        replace q255 := eq_true q255
        go_wp2
        repeat (go_quiet (fail); try go_wp2)
        go_roundg k1
        case measure => have := HK1.out; omega
        case rel => exact ⟨(wrap64 (x5_1 + 1)), (by first | rfl | (simp; done) | (simp [*]; done)), H', ⟨by have := HK1.out; omega⟩, by repeat (first | exact Drawn0.refl _ | apply Drawn0.step)⟩
       ·rw [if_neg c7] at H
        have c7b0 : ((rdOf ByteArray.empty l0 x5_1).toList == (rdOf ByteArray.empty l1 x5_1).toList) = false := beq_eq_false_iff_ne.mpr c7
        have c7b1 : ((rdOf ByteArray.empty l0 x5_1).toList != (rdOf ByteArray.empty l1 x5_1).toList) = true := bne_iff_ne.mpr c7
        obtain rfl := Option.some.inj H
        have p254 : 0 ≤ (x5_1 : Int) := of_decide_eq_true (by first | (with_reducible assumption) | assumption)
        have q254 : x5_1 < (l0.length : Int) := of_decide_eq_true (by first | (with_reducible assumption) | assumption)
        obtain ⟨ad254, e254, hx254_0⟩ := Kd.at_string HR0.out x5_1 p254 q254
        cases e254
        replace p254 := eq_true p254
        replace q254 := eq_true q254
        have p255 : 0 ≤ (x5_1 : Int) := of_decide_eq_true (by first | (with_reducible assumption) | assumption)
        have q255 : x5_1 < (l1.length : Int) := of_decide_eq_true (by first | (with_reducible assumption) | assumption)
        obtain ⟨ad255, e255, hx255_0⟩ := Kd.at_string HR1.out x5_1 p255 q255
        cases e255
        replace p255 := eq_true p255
        replace q255 := eq_true q255
        go_wp2
        repeat (go_quiet (fail); try go_wp2)
        go_ret
        exact ⟨by first | rfl | (simp; done) | (simp [*]; done), by repeat (first | exact Drawn0.refl _ | apply Drawn0.step)⟩
      ·rw [if_neg c6] at H
       exact absurd H (by simp)
     ·rw [if_neg c5] at H
      exact absurd H (by simp)
    ·rw [if_neg c4] at H
     have c4b0 : decide (x5_1 < (l0.length : Int)) = false := decide_eq_false c4
     clear c4
     obtain rfl := Option.some.inj H
     go_wp2
     repeat (go_quiet (fail); try go_wp2)
     go_ret
     exact ⟨by first | rfl | (simp; done) | (simp [*]; done), by repeat (first | exact Drawn0.refl _ | apply Drawn0.step)⟩
 ·rw [if_neg c3] at H
  have c3b0 : ((l0.length : Int) == (l1.length : Int)) = false := beq_eq_false_iff_ne.mpr c3
  have c3b1 : ((l0.length : Int) != (l1.length : Int)) = true := bne_iff_ne.mpr c3
  have c3b2 : (l0.length == l1.length) = false := by first | simpa using c3 | (simp at c3 ⊢; omega)
  obtain rfl := Option.some.inj H
  go_enter Try.func49, Try.ntmps49
  go_wp2
  repeat (go_quiet (fail); try go_wp2)
  go_ret
  exact ⟨by first | rfl | (simp; done) | (simp [*]; done), by repeat (first | exact Drawn0.refl _ | apply Drawn0.step)⟩

/-! ### laws_sameDisk: function 44 -/
mutual
def laws_sameDisk.j0 : Nat → Bool → List ByteArray → List (S74) → List ByteArray → List (S74) → Option (Bool)
 | 0, _, _, _, _, _ => none
 | k + 1, x20, x257000, x257001, x258000, x258001 => if x20 = true then (some false) else (laws_sameDisk.l0 k 0 x257000 x257001 x258000 x258001)
def laws_sameDisk.l0 : Nat → Int → List ByteArray → List (S74) → List ByteArray → List (S74) → Option (Bool)
 | 0, _, _, _, _, _ => none
 | k + 1, x5, x257000, x257001, x258000, x258001 => if x5 < (x257001.length : Int) then (if 0 ≤ x5 then (if x5 < (x258001.length : Int) then (if (!(((rd_T74 x257001 x5).f0) == ((rd_T74 x258001 x5).f0)) || (!((((rd_T74 x257001 x5).f1).toList) == (((rd_T74 x258001 x5).f1).toList)))) = true then (some false) else (laws_sameDisk.l0 k (wrap64 (x5 + 1)) x257000 x257001 x258000 x258001)) else (none)) else (none)) else (some true)
end
def laws_sameDisk.f (k : Nat) (l0_0 : List ByteArray) (l0_1 : List (S74)) (l1_0 : List ByteArray) (l1_1 : List (S74)) : Option (Bool) := (laws_sameTexts.f k l0_0 l1_0).bind fun t258 => (if t258 = true then (laws_sameDisk.j0 k ((l0_1.length : Int) != (l1_1.length : Int)) l0_0 l0_1 l1_0 l1_1) else (laws_sameDisk.j0 k true l0_0 l0_1 l1_0 l1_1))
theorem laws_sameDisk.mono_l : ∀ k, (∀ y0 y1 y2 y3 y4, LeO (laws_sameDisk.j0 k y0 y1 y2 y3 y4) (laws_sameDisk.j0 (k + 1) y0 y1 y2 y3 y4)) ∧ (∀ y0 y1 y2 y3 y4, LeO (laws_sameDisk.l0 k y0 y1 y2 y3 y4) (laws_sameDisk.l0 (k + 1) y0 y1 y2 y3 y4))
 | 0 => ⟨fun _ _ _ _ _ r h => by simp [laws_sameDisk.j0] at h, fun _ _ _ _ _ r h => by simp [laws_sameDisk.l0] at h⟩
 | k + 1 => by
  obtain ⟨ih0, ih1⟩ := laws_sameDisk.mono_l k
  refine ⟨?_, ?_⟩
  ·intro y0 y1 y2 y3 y4
   unfold laws_sameDisk.j0
   repeat' first
   | (with_reducible exact ih0 _ _ _ _ _)
   | (with_reducible exact ih1 _ _ _ _ _)
   | (with_reducible exact laws_sameTexts.mono _ _ _)
   | (with_reducible exact LeO.refl _)
   | (with_reducible exact LeO.none _)
   | (with_reducible refine LeO.ite ?_ ?_)
   | (with_reducible refine LeO.bind ?_ (fun _ => ?_))
   | exact ih0 _ _ _ _ _
   | exact ih1 _ _ _ _ _
   | exact laws_sameTexts.mono _ _ _
   | exact LeO.none _
   | refine LeO.ite ?_ ?_
   | refine LeO.bind ?_ (fun _ => ?_)
  ·intro y0 y1 y2 y3 y4
   unfold laws_sameDisk.l0
   repeat' first
   | (with_reducible exact ih0 _ _ _ _ _)
   | (with_reducible exact ih1 _ _ _ _ _)
   | (with_reducible exact laws_sameTexts.mono _ _ _)
   | (with_reducible exact LeO.refl _)
   | (with_reducible exact LeO.none _)
   | (with_reducible refine LeO.ite ?_ ?_)
   | (with_reducible refine LeO.bind ?_ (fun _ => ?_))
   | exact ih0 _ _ _ _ _
   | exact ih1 _ _ _ _ _
   | exact laws_sameTexts.mono _ _ _
   | exact LeO.none _
   | refine LeO.ite ?_ ?_
   | refine LeO.bind ?_ (fun _ => ?_)
theorem laws_sameDisk.mono : ∀ a0 a1 a2 a3 k, LeO (laws_sameDisk.f k a0 a1 a2 a3) (laws_sameDisk.f (k + 1) a0 a1 a2 a3) := by
 intro a0 a1 a2 a3 k
 obtain ⟨ih0, ih1⟩ := laws_sameDisk.mono_l k
 unfold laws_sameDisk.f
 repeat' first
   | (with_reducible exact ih0 _ _ _ _ _)
   | (with_reducible exact ih1 _ _ _ _ _)
   | (with_reducible exact laws_sameTexts.mono _ _ _)
   | (with_reducible exact LeO.refl _)
   | (with_reducible exact LeO.none _)
   | (with_reducible refine LeO.ite ?_ ?_)
   | (with_reducible refine LeO.bind ?_ (fun _ => ?_))
   | exact ih0 _ _ _ _ _
   | exact ih1 _ _ _ _ _
   | exact laws_sameTexts.mono _ _ _
   | exact LeO.none _
   | refine LeO.ite ?_ ?_
   | refine LeO.bind ?_ (fun _ => ?_)
set_option maxHeartbeats 8000000 in
set_option maxRecDepth 100000 in
theorem laws_sameDisk.calls (k : Nat) (A0_0 : Option Addr) (c0_0 : Nat) (l0_0 : List ByteArray) (A0_1 : Option Addr) (c0_1 : Nat) (l0_1 : List (S74)) (A1_0 : Option Addr) (c1_0 : Nat) (l1_0 : List ByteArray) (A1_1 : Option Addr) (c1_1 : Nat) (l1_1 : List (S74)) (r : Bool) (w : World) (hr0_0 : Kd.C Kd.string w A0_0 l0_0.length l0_0) (hc0_0 : l0_0.length ≤ c0_0) (hr0_1 : Kd.C k74 w A0_1 l0_1.length l0_1) (hc0_1 : l0_1.length ≤ c0_1) (hr1_0 : Kd.C Kd.string w A1_0 l1_0.length l1_0) (hc1_0 : l1_0.length ≤ c1_0) (hr1_1 : Kd.C k74 w A1_1 l1_1.length l1_1) (hc1_1 : l1_1.length ≤ c1_1) (h : laws_sameDisk.f k l0_0 l0_1 l1_0 l1_1 = some r) :
  Calls Try.prog 44 #[.agg #[.slice A0_0 l0_0.length c0_0, .slice A0_1 l0_1.length c0_1], .agg #[.slice A1_0 l1_0.length c1_0, .slice A1_1 l1_1.length c1_1]] w fun e w' => e = .returned (.bool r) ∧ Below w.heap.size w w' := by
 have hu36 := Try.underlying36
 have hu74 := Try.underlying74
 have HR0_0 := zj hr0_0
 have HC0_0 := zj hc0_0
 clear hr0_0 hc0_0
 have HR0_1 := zj hr0_1
 have HC0_1 := zj hc0_1
 clear hr0_1 hc0_1
 have HR1_0 := zj hr1_0
 have HC1_0 := zj hc1_0
 clear hr1_0 hc1_0
 have HR1_1 := zj hr1_1
 have HC1_1 := zj hc1_1
 clear hr1_1 hc1_1
 have HB := zj (Below.refl w.heap.size w)
 have H : ((laws_sameTexts.f k l0_0 l1_0).bind fun t258 => (if t258 = true then (laws_sameDisk.j0 k ((l0_1.length : Int) != (l1_1.length : Int)) l0_0 l0_1 l1_0 l1_1) else (laws_sameDisk.j0 k true l0_0 l0_1 l1_0 l1_1))) = some r := h
 clear h
 have HC3 := zj H
 clear H
 go_enter Try.func44, Try.ntmps44
 go_upto_region 1 with (first | ((with_reducible refine gate_dst (N := 2) rfl ?_); (try (refine gate_guard (by rfl) ?_; dsimp only)); refine box_event ?hg (N := 2) ?hd (cs := #[.slice A0_0 l0_0.length c0_0, .slice A0_1 l0_1.length c0_1]) (t := 36) ?hr ?_; (case hd => rfl); (case hg => rfl); (case hr => first | (go_simp; done) | (go_simp; rfl)); intro gb256 hg w4 hbox hb; have n0_ := zj (zl (by repeat (first | (with_reducible first | exact HB.out | apply zg | apply zh | apply zi) | exact HB.out)) hb); have n1_ := zj (hbox); have n2_ := zj ((by rw [hg]; exact (zk (by repeat (first | (with_reducible first | exact HB.out | apply zg | apply zh | apply zi) | exact HB.out))) : w.heap.size ≤ gb256)); have n3_ := zj ((by rw [hg]; exact (zk (by repeat (first | (with_reducible first | exact HB.out | apply zg | apply zh | apply zi) | exact HB.out))) : w.heap.size ≤ gb256)); clear HB; have HB := n0_; have BK256 := n1_; have GW256 := n2_; have GE256 := n3_; clear n0_ n1_ n2_ n3_; clear hb hbox hg) | ((with_reducible refine gate_dst (N := 3) rfl ?_); (try (refine gate_guard (by rfl) ?_; dsimp only)); refine box_event ?hg (N := 3) ?hd (cs := #[.slice A1_0 l1_0.length c1_0, .slice A1_1 l1_1.length c1_1]) (t := 36) ?hr ?_; (case hd => rfl); (case hg => rfl); (case hr => first | (go_simp; done) | (go_simp; rfl)); intro gb257 hg w5 hbox hb; have n0_ := zj (zo (g := gb256) (o := .cells #[.slice A0_0 l0_0.length c0_0, .slice A0_1 l0_1.length c0_1] 36 (0, 0)) (by (with_reducible repeat (first | refine za ?_ _ | refine zb ?_ | refine zc ?_ _)); exact BK256.out) hb); have n1_ := zj (zl (by repeat (first | (with_reducible first | exact HB.out | apply zg | apply zh | apply zi | refine zs ?_ GE256.out) | exact HB.out)) hb); have n2_ := zj (hbox); have n3_ := zj ((by rw [hg]; exact (zk (by repeat (first | (with_reducible first | exact HB.out | apply zg | apply zh | apply zi | refine zs ?_ GE256.out) | exact HB.out))) : w.heap.size ≤ gb257)); have n4_ := zj ((by rw [hg]; exact (zk (by repeat (first | (with_reducible first | exact HB.out | apply zg | apply zh | apply zi | refine zs ?_ GE256.out) | exact HB.out))) : w.heap.size ≤ gb257)); have n5_ := zj ((by rw [hg]; exact Nat.ne_of_lt (blk_lt (g := gb256) (o := .cells #[.slice A0_0 l0_0.length c0_0, .slice A0_1 l0_1.length c0_1] 36 (0, 0)) (by (with_reducible repeat (first | refine za ?_ _ | refine zb ?_ | refine zc ?_ _)); exact BK256.out)) : gb256 ≠ gb257)); have n6_ := zj ((by rw [hg]; exact Nat.ne_of_gt (blk_lt (g := gb256) (o := .cells #[.slice A0_0 l0_0.length c0_0, .slice A0_1 l0_1.length c0_1] 36 (0, 0)) (by (with_reducible repeat (first | refine za ?_ _ | refine zb ?_ | refine zc ?_ _)); exact BK256.out)) : gb257 ≠ gb256)); clear BK256; clear HB; have BK256 := n0_; have HB := n1_; have BK257 := n2_; have GW257 := n3_; have GE257 := n4_; have NB256_257 := n5_; have NB257_256 := n6_; clear n0_ n1_ n2_ n3_ n4_ n5_ n6_; clear hb hbox hg))
 repeat (go_quiet (first | ((with_reducible refine gate_dst (N := 2) rfl ?_); (try (refine gate_guard (by rfl) ?_; dsimp only)); refine box_event ?hg (N := 2) ?hd (cs := #[.slice A0_0 l0_0.length c0_0, .slice A0_1 l0_1.length c0_1]) (t := 36) ?hr ?_; (case hd => rfl); (case hg => rfl); (case hr => first | (go_simp; done) | (go_simp; rfl)); intro gb256 hg w4 hbox hb; have n0_ := zj (zl (by repeat (first | (with_reducible first | exact HB.out | apply zg | apply zh | apply zi) | exact HB.out)) hb); have n1_ := zj (hbox); have n2_ := zj ((by rw [hg]; exact (zk (by repeat (first | (with_reducible first | exact HB.out | apply zg | apply zh | apply zi) | exact HB.out))) : w.heap.size ≤ gb256)); have n3_ := zj ((by rw [hg]; exact (zk (by repeat (first | (with_reducible first | exact HB.out | apply zg | apply zh | apply zi) | exact HB.out))) : w.heap.size ≤ gb256)); clear HB; have HB := n0_; have BK256 := n1_; have GW256 := n2_; have GE256 := n3_; clear n0_ n1_ n2_ n3_; clear hb hbox hg) | ((with_reducible refine gate_dst (N := 3) rfl ?_); (try (refine gate_guard (by rfl) ?_; dsimp only)); refine box_event ?hg (N := 3) ?hd (cs := #[.slice A1_0 l1_0.length c1_0, .slice A1_1 l1_1.length c1_1]) (t := 36) ?hr ?_; (case hd => rfl); (case hg => rfl); (case hr => first | (go_simp; done) | (go_simp; rfl)); intro gb257 hg w5 hbox hb; have n0_ := zj (zo (g := gb256) (o := .cells #[.slice A0_0 l0_0.length c0_0, .slice A0_1 l0_1.length c0_1] 36 (0, 0)) (by (with_reducible repeat (first | refine za ?_ _ | refine zb ?_ | refine zc ?_ _)); exact BK256.out) hb); have n1_ := zj (zl (by repeat (first | (with_reducible first | exact HB.out | apply zg | apply zh | apply zi | refine zs ?_ GE256.out) | exact HB.out)) hb); have n2_ := zj (hbox); have n3_ := zj ((by rw [hg]; exact (zk (by repeat (first | (with_reducible first | exact HB.out | apply zg | apply zh | apply zi | refine zs ?_ GE256.out) | exact HB.out))) : w.heap.size ≤ gb257)); have n4_ := zj ((by rw [hg]; exact (zk (by repeat (first | (with_reducible first | exact HB.out | apply zg | apply zh | apply zi | refine zs ?_ GE256.out) | exact HB.out))) : w.heap.size ≤ gb257)); have n5_ := zj ((by rw [hg]; exact Nat.ne_of_lt (blk_lt (g := gb256) (o := .cells #[.slice A0_0 l0_0.length c0_0, .slice A0_1 l0_1.length c0_1] 36 (0, 0)) (by (with_reducible repeat (first | refine za ?_ _ | refine zb ?_ | refine zc ?_ _)); exact BK256.out)) : gb256 ≠ gb257)); have n6_ := zj ((by rw [hg]; exact Nat.ne_of_gt (blk_lt (g := gb256) (o := .cells #[.slice A0_0 l0_0.length c0_0, .slice A0_1 l0_1.length c0_1] 36 (0, 0)) (by (with_reducible repeat (first | refine za ?_ _ | refine zb ?_ | refine zc ?_ _)); exact BK256.out)) : gb257 ≠ gb256)); clear BK256; clear HB; have BK256 := n0_; have HB := n1_; have BK257 := n2_; have GW257 := n3_; have GE257 := n4_; have NB256_257 := n5_; have NB257_256 := n6_; clear n0_ n1_ n2_ n3_ n4_ n5_ n6_; clear hb hbox hg)); go_upto_region 1 with (first | ((with_reducible refine gate_dst (N := 2) rfl ?_); (try (refine gate_guard (by rfl) ?_; dsimp only)); refine box_event ?hg (N := 2) ?hd (cs := #[.slice A0_0 l0_0.length c0_0, .slice A0_1 l0_1.length c0_1]) (t := 36) ?hr ?_; (case hd => rfl); (case hg => rfl); (case hr => first | (go_simp; done) | (go_simp; rfl)); intro gb256 hg w4 hbox hb; have n0_ := zj (zl (by repeat (first | (with_reducible first | exact HB.out | apply zg | apply zh | apply zi) | exact HB.out)) hb); have n1_ := zj (hbox); have n2_ := zj ((by rw [hg]; exact (zk (by repeat (first | (with_reducible first | exact HB.out | apply zg | apply zh | apply zi) | exact HB.out))) : w.heap.size ≤ gb256)); have n3_ := zj ((by rw [hg]; exact (zk (by repeat (first | (with_reducible first | exact HB.out | apply zg | apply zh | apply zi) | exact HB.out))) : w.heap.size ≤ gb256)); clear HB; have HB := n0_; have BK256 := n1_; have GW256 := n2_; have GE256 := n3_; clear n0_ n1_ n2_ n3_; clear hb hbox hg) | ((with_reducible refine gate_dst (N := 3) rfl ?_); (try (refine gate_guard (by rfl) ?_; dsimp only)); refine box_event ?hg (N := 3) ?hd (cs := #[.slice A1_0 l1_0.length c1_0, .slice A1_1 l1_1.length c1_1]) (t := 36) ?hr ?_; (case hd => rfl); (case hg => rfl); (case hr => first | (go_simp; done) | (go_simp; rfl)); intro gb257 hg w5 hbox hb; have n0_ := zj (zo (g := gb256) (o := .cells #[.slice A0_0 l0_0.length c0_0, .slice A0_1 l0_1.length c0_1] 36 (0, 0)) (by (with_reducible repeat (first | refine za ?_ _ | refine zb ?_ | refine zc ?_ _)); exact BK256.out) hb); have n1_ := zj (zl (by repeat (first | (with_reducible first | exact HB.out | apply zg | apply zh | apply zi | refine zs ?_ GE256.out) | exact HB.out)) hb); have n2_ := zj (hbox); have n3_ := zj ((by rw [hg]; exact (zk (by repeat (first | (with_reducible first | exact HB.out | apply zg | apply zh | apply zi | refine zs ?_ GE256.out) | exact HB.out))) : w.heap.size ≤ gb257)); have n4_ := zj ((by rw [hg]; exact (zk (by repeat (first | (with_reducible first | exact HB.out | apply zg | apply zh | apply zi | refine zs ?_ GE256.out) | exact HB.out))) : w.heap.size ≤ gb257)); have n5_ := zj ((by rw [hg]; exact Nat.ne_of_lt (blk_lt (g := gb256) (o := .cells #[.slice A0_0 l0_0.length c0_0, .slice A0_1 l0_1.length c0_1] 36 (0, 0)) (by (with_reducible repeat (first | refine za ?_ _ | refine zb ?_ | refine zc ?_ _)); exact BK256.out)) : gb256 ≠ gb257)); have n6_ := zj ((by rw [hg]; exact Nat.ne_of_gt (blk_lt (g := gb256) (o := .cells #[.slice A0_0 l0_0.length c0_0, .slice A0_1 l0_1.length c0_1] 36 (0, 0)) (by (with_reducible repeat (first | refine za ?_ _ | refine zb ?_ | refine zc ?_ _)); exact BK256.out)) : gb257 ≠ gb256)); clear BK256; clear HB; have BK256 := n0_; have HB := n1_; have BK257 := n2_; have GW257 := n3_; have GE257 := n4_; have NB256_257 := n5_; have NB257_256 := n6_; clear n0_ n1_ n2_ n3_ n4_ n5_ n6_; clear hb hbox hg)))
 (try simp only [Act.put, List.setIfInBounds_toArray, List.set_cons_zero, List.set_cons_succ])
 go_cut [20] (fun v20 wc => ∃ (kq : Nat) (x20_2 : Bool), v20 = .bool x20_2 ∧ Aside0 (laws_sameDisk.j0 kq x20_2 l0_0 l0_1 l1_0 l1_1 = some r) ∧ Aside0 (kq ≤ k) ∧ Aside0 (wc.heap[gb256]? = some (.cells #[(.slice A0_0 l0_0.length c0_0), (.slice A0_1 l0_1.length c0_1)] 36 (0, 0))) ∧ Aside0 (wc.heap[gb257]? = some (.cells #[(.slice A1_0 l1_0.length c1_0), (.slice A1_1 l1_1.length c1_1)] 36 (0, 0))) ∧ Aside0 (Below w.heap.size w wc))
 case first =>
  have H := HC3.out
  clear HC3
  replace H := Option.bind_eq_some_iff.mp H
  obtain ⟨t258, A60, H⟩ := H
  replace H : (if t258 = true then (laws_sameDisk.j0 k ((l0_1.length : Int) != (l1_1.length : Int)) l0_0 l0_1 l1_0 l1_1) else (laws_sameDisk.j0 k true l0_0 l0_1 l1_0 l1_1)) = some r := H
  have A6 := zj A60
  clear A60
  by_cases c7 : t258 = true
  ·subst c7
   have H1 : (laws_sameDisk.j0 k ((l0_1.length : Int) != (l1_1.length : Int)) l0_0 l0_1 l1_0 l1_1) = some r := by rw [if_pos rfl] at H; exact H
   clear H
   have H := H1
   clear H1
   have H' := zj H
   clear H
   have hnb8 := NB256_257.out
   have hnc8 := NB257_256.out
   have hcz9_0 : w5.cell? ⟨gb256, 0, none⟩ = some (.slice A0_0 l0_0.length c0_0) := (zq BK256.out 0).trans rfl
   have hcz9_1 : w5.cell? ⟨gb256, 1, none⟩ = some (.slice A0_1 l0_1.length c0_1) := (zq BK256.out 1).trans rfl
   have hfz9_0 := zv BK256.out 0
   have hfz9_1 := zv BK256.out 1
   have hcz10_0 : w5.cell? ⟨gb257, 0, none⟩ = some (.slice A1_0 l1_0.length c1_0) := (zq BK257.out 0).trans rfl
   have hcz10_1 : w5.cell? ⟨gb257, 1, none⟩ = some (.slice A1_1 l1_1.length c1_1) := (zq BK257.out 1).trans rfl
   have hfz10_0 := zv BK257.out 0
   have hfz10_1 := zv BK257.out 1
   go_wp2_with (first | (go_at_call 49; (with_reducible refine (laws_sameTexts.calls k _ _ l0_0 _ _ l1_0 true _ ?side1 ?side2 ?side3 ?side4 A6.out).mono ?_); (case side1 => repeat (first | exact (Kd.C_below HR0_0.out HB.out) | (with_reducible refine Kd.C_alloc ?_ _) | (with_reducible refine Kd.C_drewN ?_ _) | (with_reducible refine Kd.C_drew ?_))); (case side2 => exact HC0_0.out); (case side3 => repeat (first | exact (Kd.C_below HR1_0.out HB.out) | (with_reducible refine Kd.C_alloc ?_ _) | (with_reducible refine Kd.C_drewN ?_ _) | (with_reducible refine Kd.C_drew ?_))); (case side4 => exact HC1_0.out); rintro e w' ⟨rfl, ⟨nd, rfl⟩⟩; (try first | exact ⟨rfl, _, World.drewN_drewN _ _ _⟩ | exact ⟨rfl, _, Eq.trans (World.drewN_drewN _ _ _) (congrArg (World.drewN _) (Nat.add_assoc _ _ _))⟩)))
   repeat (go_quiet (first | (go_at_call 49; (with_reducible refine (laws_sameTexts.calls k _ _ l0_0 _ _ l1_0 true _ ?side1 ?side2 ?side3 ?side4 A6.out).mono ?_); (case side1 => repeat (first | exact (Kd.C_below HR0_0.out HB.out) | (with_reducible refine Kd.C_alloc ?_ _) | (with_reducible refine Kd.C_drewN ?_ _) | (with_reducible refine Kd.C_drew ?_))); (case side2 => exact HC0_0.out); (case side3 => repeat (first | exact (Kd.C_below HR1_0.out HB.out) | (with_reducible refine Kd.C_alloc ?_ _) | (with_reducible refine Kd.C_drewN ?_ _) | (with_reducible refine Kd.C_drew ?_))); (case side4 => exact HC1_0.out); rintro e w' ⟨rfl, ⟨nd, rfl⟩⟩; (try first | exact ⟨rfl, _, World.drewN_drewN _ _ _⟩ | exact ⟨rfl, _, Eq.trans (World.drewN_drewN _ _ _) (congrArg (World.drewN _) (Nat.add_assoc _ _ _))⟩))); try go_wp2_with (first | (go_at_call 49; (with_reducible refine (laws_sameTexts.calls k _ _ l0_0 _ _ l1_0 true _ ?side1 ?side2 ?side3 ?side4 A6.out).mono ?_); (case side1 => repeat (first | exact (Kd.C_below HR0_0.out HB.out) | (with_reducible refine Kd.C_alloc ?_ _) | (with_reducible refine Kd.C_drewN ?_ _) | (with_reducible refine Kd.C_drew ?_))); (case side2 => exact HC0_0.out); (case side3 => repeat (first | exact (Kd.C_below HR1_0.out HB.out) | (with_reducible refine Kd.C_alloc ?_ _) | (with_reducible refine Kd.C_drewN ?_ _) | (with_reducible refine Kd.C_drew ?_))); (case side4 => exact HC1_0.out); rintro e w' ⟨rfl, ⟨nd, rfl⟩⟩; (try first | exact ⟨rfl, _, World.drewN_drewN _ _ _⟩ | exact ⟨rfl, _, Eq.trans (World.drewN_drewN _ _ _) (congrArg (World.drewN _) (Nat.add_assoc _ _ _))⟩))))
   go_meet
   case rel => exact ⟨_, (((l0_1.length : Int) != (l1_1.length : Int))), (by first | rfl | (simp; done) | (simp [*]; done)), H', ⟨by first | omega | exact Nat.le_refl _⟩, ⟨by (with_reducible repeat (first | refine za ?_ _ | refine zb ?_ | refine zc ?_ _)); exact BK256.out⟩, ⟨by (with_reducible repeat (first | refine za ?_ _ | refine zb ?_ | refine zc ?_ _)); exact BK257.out⟩, ⟨by repeat (first | (with_reducible first | exact HB.out | apply zg | apply zh | apply zi | refine zs ?_ GE256.out | refine zs ?_ GE257.out) | exact HB.out)⟩⟩
  ·replace c7 := Bool.eq_false_iff.mpr c7
   subst c7
   have H1 : (laws_sameDisk.j0 k true l0_0 l0_1 l1_0 l1_1) = some r := by rw [if_neg (show ¬ (false = true) by decide)] at H; exact H
   clear H
   have H := H1
   clear H1
   have H' := zj H
   clear H
   have hnb11 := NB256_257.out
   have hnc11 := NB257_256.out
   have hcz12_0 : w5.cell? ⟨gb256, 0, none⟩ = some (.slice A0_0 l0_0.length c0_0) := (zq BK256.out 0).trans rfl
   have hcz12_1 : w5.cell? ⟨gb256, 1, none⟩ = some (.slice A0_1 l0_1.length c0_1) := (zq BK256.out 1).trans rfl
   have hfz12_0 := zv BK256.out 0
   have hfz12_1 := zv BK256.out 1
   have hcz13_0 : w5.cell? ⟨gb257, 0, none⟩ = some (.slice A1_0 l1_0.length c1_0) := (zq BK257.out 0).trans rfl
   have hcz13_1 : w5.cell? ⟨gb257, 1, none⟩ = some (.slice A1_1 l1_1.length c1_1) := (zq BK257.out 1).trans rfl
   have hfz13_0 := zv BK257.out 0
   have hfz13_1 := zv BK257.out 1
   go_wp2_with (first | (go_at_call 49; (with_reducible refine (laws_sameTexts.calls k _ _ l0_0 _ _ l1_0 false _ ?side1 ?side2 ?side3 ?side4 A6.out).mono ?_); (case side1 => repeat (first | exact (Kd.C_below HR0_0.out HB.out) | (with_reducible refine Kd.C_alloc ?_ _) | (with_reducible refine Kd.C_drewN ?_ _) | (with_reducible refine Kd.C_drew ?_))); (case side2 => exact HC0_0.out); (case side3 => repeat (first | exact (Kd.C_below HR1_0.out HB.out) | (with_reducible refine Kd.C_alloc ?_ _) | (with_reducible refine Kd.C_drewN ?_ _) | (with_reducible refine Kd.C_drew ?_))); (case side4 => exact HC1_0.out); rintro e w' ⟨rfl, ⟨nd, rfl⟩⟩; (try first | exact ⟨rfl, _, World.drewN_drewN _ _ _⟩ | exact ⟨rfl, _, Eq.trans (World.drewN_drewN _ _ _) (congrArg (World.drewN _) (Nat.add_assoc _ _ _))⟩)))
   repeat (go_quiet (first | (go_at_call 49; (with_reducible refine (laws_sameTexts.calls k _ _ l0_0 _ _ l1_0 false _ ?side1 ?side2 ?side3 ?side4 A6.out).mono ?_); (case side1 => repeat (first | exact (Kd.C_below HR0_0.out HB.out) | (with_reducible refine Kd.C_alloc ?_ _) | (with_reducible refine Kd.C_drewN ?_ _) | (with_reducible refine Kd.C_drew ?_))); (case side2 => exact HC0_0.out); (case side3 => repeat (first | exact (Kd.C_below HR1_0.out HB.out) | (with_reducible refine Kd.C_alloc ?_ _) | (with_reducible refine Kd.C_drewN ?_ _) | (with_reducible refine Kd.C_drew ?_))); (case side4 => exact HC1_0.out); rintro e w' ⟨rfl, ⟨nd, rfl⟩⟩; (try first | exact ⟨rfl, _, World.drewN_drewN _ _ _⟩ | exact ⟨rfl, _, Eq.trans (World.drewN_drewN _ _ _) (congrArg (World.drewN _) (Nat.add_assoc _ _ _))⟩))); try go_wp2_with (first | (go_at_call 49; (with_reducible refine (laws_sameTexts.calls k _ _ l0_0 _ _ l1_0 false _ ?side1 ?side2 ?side3 ?side4 A6.out).mono ?_); (case side1 => repeat (first | exact (Kd.C_below HR0_0.out HB.out) | (with_reducible refine Kd.C_alloc ?_ _) | (with_reducible refine Kd.C_drewN ?_ _) | (with_reducible refine Kd.C_drew ?_))); (case side2 => exact HC0_0.out); (case side3 => repeat (first | exact (Kd.C_below HR1_0.out HB.out) | (with_reducible refine Kd.C_alloc ?_ _) | (with_reducible refine Kd.C_drewN ?_ _) | (with_reducible refine Kd.C_drew ?_))); (case side4 => exact HC1_0.out); rintro e w' ⟨rfl, ⟨nd, rfl⟩⟩; (try first | exact ⟨rfl, _, World.drewN_drewN _ _ _⟩ | exact ⟨rfl, _, Eq.trans (World.drewN_drewN _ _ _) (congrArg (World.drewN _) (Nat.add_assoc _ _ _))⟩))))
   go_meet
   case rel => exact ⟨_, (true), (by first | rfl | (simp; done) | (simp [*]; done)), H', ⟨by first | omega | exact Nat.le_refl _⟩, ⟨by (with_reducible repeat (first | refine za ?_ _ | refine zb ?_ | refine zc ?_ _)); exact BK256.out⟩, ⟨by (with_reducible repeat (first | refine za ?_ _ | refine zb ?_ | refine zc ?_ _)); exact BK257.out⟩, ⟨by repeat (first | (with_reducible first | exact HB.out | apply zg | apply zh | apply zi | refine zs ?_ GE256.out | refine zs ?_ GE257.out) | exact HB.out)⟩⟩
 case rest =>
  clear HC3
  try clear c1
  try clear p2
  try clear c4
  try clear c7
  try clear c8
  try clear c11
  try clear hcz10_0
  try clear hcz10_1
  try clear hcz12_0
  try clear hcz12_1
  try clear hcz13_0
  try clear hcz13_1
  try clear hcz9_0
  try clear hcz9_1
  try clear hfz10_0
  try clear hfz10_1
  try clear hfz12_0
  try clear hfz12_1
  try clear hfz13_0
  try clear hfz13_1
  try clear hfz9_0
  try clear hfz9_1
  obtain ⟨kq, x20_2, rfl, HA, HJ2, BK256, BK257, HB⟩ := hcut
  cases kq with
  | zero => exact absurd HA.out (by simp [laws_sameDisk.j0])
  | succ kj2 =>
   have H := HA.out
   clear HA
   simp only [laws_sameDisk.j0] at H
   by_cases c14 : x20_2 = true
   ·subst c14
    have H1 : (some false) = some r := by rw [if_pos rfl] at H; exact H
    clear H
    have H := H1
    clear H1
    obtain rfl := Option.some.inj H
    go_wp2
    repeat (go_quiet (fail); try go_wp2)
    go_ret
    exact ⟨by first | rfl | (simp [errW_none, errW_some] <;> rfl) | (simp [*, errW_none, errW_some] <;> rfl), by repeat (first | (with_reducible first | exact HB.out | apply zg | apply zh | apply zi | refine zs ?_ GE256.out | refine zs ?_ GE257.out) | exact HB.out)⟩
   ·replace c14 := Bool.eq_false_iff.mpr c14
    subst c14
    have H1 : (laws_sameDisk.l0 kj2 0 l0_0 l0_1 l1_0 l1_1) = some r := by rw [if_neg (show ¬ (false = true) by decide)] at H; exact H
    clear H
    have H := H1
    clear H1
    have H' := zj H
    clear H
    go_wp2
    repeat (go_quiet (fail); try go_wp2)
    go_loopg [5] kj2 (fun kq v5 w' => ∃ (x5_2 : Int), v5 = .int .i64 x5_2 ∧ Aside0 (laws_sameDisk.l0 kq x5_2 l0_0 l0_1 l1_0 l1_1 = some r) ∧ Aside0 (kq ≤ kj2) ∧ Aside0 (w'.heap[gb256]? = some (.cells #[(.slice A0_0 l0_0.length c0_0), (.slice A0_1 l0_1.length c0_1)] 36 (0, 0))) ∧ Aside0 (w'.heap[gb257]? = some (.cells #[(.slice A1_0 l1_0.length c1_0), (.slice A1_1 l1_1.length c1_1)] 36 (0, 0))) ∧ Aside0 (Below w.heap.size w w'))
    case atStart => exact ⟨(0), (by first | rfl | (simp; done) | (simp [*]; done)), H', ⟨Nat.le_refl _⟩, ⟨by (with_reducible repeat (first | refine za ?_ _ | refine zb ?_ | refine zc ?_ _)); exact BK256.out⟩, ⟨by (with_reducible repeat (first | refine za ?_ _ | refine zb ?_ | refine zc ?_ _)); exact BK257.out⟩, ⟨by repeat (first | (with_reducible first | exact HB.out | apply zg | apply zh | apply zi | refine zs ?_ GE256.out | refine zs ?_ GE257.out) | exact HB.out)⟩⟩
    case round =>
     clear H'
     try clear c1
     try clear p2
     try clear c4
     try clear c7
     try clear c8
     try clear c11
     try clear c14
     try clear hcz10_0
     try clear hcz10_1
     try clear hcz12_0
     try clear hcz12_1
     try clear hcz13_0
     try clear hcz13_1
     try clear hcz9_0
     try clear hcz9_1
     try clear hfz10_0
     try clear hfz10_1
     try clear hfz12_0
     try clear hfz12_1
     try clear hfz13_0
     try clear hfz13_1
     try clear hfz9_0
     try clear hfz9_1
     try clear p2
     obtain ⟨x5_2, rfl, HA, HK2, BK256, BK257, HB⟩ := hrel
     cases gk with
     | zero => exact absurd HA.out (by simp [laws_sameDisk.l0])
     | succ k2 =>
      have H := HA.out
      clear HA
      simp only [laws_sameDisk.l0] at H
      by_cases c15 : x5_2 < (l0_1.length : Int)
      ·rw [if_pos c15] at H
       have c15b0 : decide (x5_2 < (l0_1.length : Int)) = true := decide_eq_true c15
       clear c15
       by_cases c16 : 0 ≤ x5_2
       ·rw [if_pos c16] at H
        have c16b0 : decide (0 ≤ x5_2) = true := decide_eq_true c16
        clear c16
        by_cases c17 : x5_2 < (l1_1.length : Int)
        ·rw [if_pos c17] at H
         have c17b0 : decide (x5_2 < (l1_1.length : Int)) = true := decide_eq_true c17
         clear c17
         by_cases c18 : (!(((rd_T74 l0_1 x5_2).f0) == ((rd_T74 l1_1 x5_2).f0)) || (!((((rd_T74 l0_1 x5_2).f1).toList) == (((rd_T74 l1_1 x5_2).f1).toList)))) = true
         ·rw [if_pos c18] at H
          have c18b0 : (!(((rd_T74 l0_1 x5_2).f0) == ((rd_T74 l1_1 x5_2).f0)) || (!((((rd_T74 l0_1 x5_2).f1).toList) == (((rd_T74 l1_1 x5_2).f1).toList)))) = true := c18
          clear c18
          obtain rfl := Option.some.inj H
          have hnb19 := NB256_257.out
          have hnc19 := NB257_256.out
          have hcz20_0 : wr.cell? ⟨gb256, 0, none⟩ = some (.slice A0_0 l0_0.length c0_0) := (zq BK256.out 0).trans rfl
          have hcz20_1 : wr.cell? ⟨gb256, 1, none⟩ = some (.slice A0_1 l0_1.length c0_1) := (zq BK256.out 1).trans rfl
          have hfz20_0 := zv BK256.out 0
          have hfz20_1 := zv BK256.out 1
          have p259 : 0 ≤ (x5_2 : Int) := of_decide_eq_true (by first | (with_reducible assumption) | assumption)
          have q259 : x5_2 < (l0_1.length : Int) := of_decide_eq_true (by first | (with_reducible assumption) | assumption)
          obtain ⟨ad259, e259, hx259_0, hx259_1⟩ := at_T74 HR0_1.out x5_2 p259 q259
          cases e259
          replace hx259_0 := (HB.out.cell (World.block_lt_of_cell? w _ hx259_0)).trans hx259_0
          replace hx259_1 := (HB.out.cell (World.block_lt_of_cell? w _ hx259_1)).trans hx259_1
          replace p259 := eq_true p259
          replace q259 := eq_true q259
          have hcz21_0 : wr.cell? ⟨gb257, 0, none⟩ = some (.slice A1_0 l1_0.length c1_0) := (zq BK257.out 0).trans rfl
          have hcz21_1 : wr.cell? ⟨gb257, 1, none⟩ = some (.slice A1_1 l1_1.length c1_1) := (zq BK257.out 1).trans rfl
          have hfz21_0 := zv BK257.out 0
          have hfz21_1 := zv BK257.out 1
          have p260 : 0 ≤ (x5_2 : Int) := of_decide_eq_true (by first | (with_reducible assumption) | assumption)
          have q260 : x5_2 < (l1_1.length : Int) := of_decide_eq_true (by first | (with_reducible assumption) | assumption)
          obtain ⟨ad260, e260, hx260_0, hx260_1⟩ := at_T74 HR1_1.out x5_2 p260 q260
          cases e260
          replace hx260_0 := (HB.out.cell (World.block_lt_of_cell? w _ hx260_0)).trans hx260_0
          replace hx260_1 := (HB.out.cell (World.block_lt_of_cell? w _ hx260_1)).trans hx260_1
          replace p260 := eq_true p260
          replace q260 := eq_true q260
          go_wp2
          repeat (go_quiet (fail); try go_wp2)
          go_ret
          exact ⟨by first | rfl | (simp [errW_none, errW_some] <;> rfl) | (simp [*, errW_none, errW_some] <;> rfl), by repeat (first | (with_reducible first | exact HB.out | apply zg | apply zh | apply zi | refine zs ?_ GE256.out | refine zs ?_ GE257.out) | exact HB.out)⟩
         ·rw [if_neg c18] at H
          have c18b0 : (!(((rd_T74 l0_1 x5_2).f0) == ((rd_T74 l1_1 x5_2).f0)) || (!((((rd_T74 l0_1 x5_2).f1).toList) == (((rd_T74 l1_1 x5_2).f1).toList)))) = false := by simpa using c18
          clear c18
          have H' := zj H
          clear H
          have hnb22 := NB256_257.out
          have hnc22 := NB257_256.out
          have hcz23_0 : wr.cell? ⟨gb256, 0, none⟩ = some (.slice A0_0 l0_0.length c0_0) := (zq BK256.out 0).trans rfl
          have hcz23_1 : wr.cell? ⟨gb256, 1, none⟩ = some (.slice A0_1 l0_1.length c0_1) := (zq BK256.out 1).trans rfl
          have hfz23_0 := zv BK256.out 0
          have hfz23_1 := zv BK256.out 1
          have p259 : 0 ≤ (x5_2 : Int) := of_decide_eq_true (by first | (with_reducible assumption) | assumption)
          have q259 : x5_2 < (l0_1.length : Int) := of_decide_eq_true (by first | (with_reducible assumption) | assumption)
          obtain ⟨ad259, e259, hx259_0, hx259_1⟩ := at_T74 HR0_1.out x5_2 p259 q259
          cases e259
          replace hx259_0 := (HB.out.cell (World.block_lt_of_cell? w _ hx259_0)).trans hx259_0
          replace hx259_1 := (HB.out.cell (World.block_lt_of_cell? w _ hx259_1)).trans hx259_1
          replace p259 := eq_true p259
          replace q259 := eq_true q259
          have hcz24_0 : wr.cell? ⟨gb257, 0, none⟩ = some (.slice A1_0 l1_0.length c1_0) := (zq BK257.out 0).trans rfl
          have hcz24_1 : wr.cell? ⟨gb257, 1, none⟩ = some (.slice A1_1 l1_1.length c1_1) := (zq BK257.out 1).trans rfl
          have hfz24_0 := zv BK257.out 0
          have hfz24_1 := zv BK257.out 1
          have p260 : 0 ≤ (x5_2 : Int) := of_decide_eq_true (by first | (with_reducible assumption) | assumption)
          have q260 : x5_2 < (l1_1.length : Int) := of_decide_eq_true (by first | (with_reducible assumption) | assumption)
          obtain ⟨ad260, e260, hx260_0, hx260_1⟩ := at_T74 HR1_1.out x5_2 p260 q260
          cases e260
          replace hx260_0 := (HB.out.cell (World.block_lt_of_cell? w _ hx260_0)).trans hx260_0
          replace hx260_1 := (HB.out.cell (World.block_lt_of_cell? w _ hx260_1)).trans hx260_1
          replace p260 := eq_true p260
          replace q260 := eq_true q260
          go_wp2
          repeat (go_quiet (fail); try go_wp2)
          go_roundg k2
          case measure => have := HJ2.out; have := HK2.out; omega
          case rel => exact ⟨(wrap64 (x5_2 + 1)), (by first | rfl | (simp; done) | (simp [*]; done)), H', ⟨by have := HJ2.out; have := HK2.out; omega⟩, ⟨by (with_reducible repeat (first | refine za ?_ _ | refine zb ?_ | refine zc ?_ _)); exact BK256.out⟩, ⟨by (with_reducible repeat (first | refine za ?_ _ | refine zb ?_ | refine zc ?_ _)); exact BK257.out⟩, ⟨by repeat (first | (with_reducible first | exact HB.out | apply zg | apply zh | apply zi | refine zs ?_ GE256.out | refine zs ?_ GE257.out) | exact HB.out)⟩⟩
        ·rw [if_neg c17] at H
         exact absurd H (by simp)
       ·rw [if_neg c16] at H
        exact absurd H (by simp)
      ·rw [if_neg c15] at H
       have c15b0 : decide (x5_2 < (l0_1.length : Int)) = false := decide_eq_false c15
       clear c15
       obtain rfl := Option.some.inj H
       have hnb25 := NB256_257.out
       have hnc25 := NB257_256.out
       have hcz26_0 : wr.cell? ⟨gb256, 0, none⟩ = some (.slice A0_0 l0_0.length c0_0) := (zq BK256.out 0).trans rfl
       have hcz26_1 : wr.cell? ⟨gb256, 1, none⟩ = some (.slice A0_1 l0_1.length c0_1) := (zq BK256.out 1).trans rfl
       have hfz26_0 := zv BK256.out 0
       have hfz26_1 := zv BK256.out 1
       go_wp2
       repeat (go_quiet (fail); try go_wp2)
       go_ret
       exact ⟨by first | rfl | (simp [errW_none, errW_some] <;> rfl) | (simp [*, errW_none, errW_some] <;> rfl), by repeat (first | (with_reducible first | exact HB.out | apply zg | apply zh | apply zi | refine zs ?_ GE256.out | refine zs ?_ GE257.out) | exact HB.out)⟩

/-! ### impl_in: function 65 -/
def impl_in.f (a0 : Int) (a1 : Int) (a2 : Int) : Option (Bool) := if a0 ≥ a1 then (some (decide (a0 ≤ a2))) else (some false)
set_option maxHeartbeats 8000000 in
set_option maxRecDepth 100000 in
theorem impl_in.calls (a0 : Int) (a1 : Int) (a2 : Int) (r : Bool) (w : World) (h : impl_in.f a0 a1 a2 = some r) :
  Calls Try.prog 65 #[.int .i64 a0, .int .i64 a1, .int .i64 a2] w fun e w' => e = .returned (.bool r) ∧ Drawn0 w w' := by
 have H : (if a0 ≥ a1 then (some (decide (a0 ≤ a2))) else (some false)) = some r := h
 clear h
 by_cases c4 : a0 ≥ a1
 ·rw [if_pos c4] at H
  have c4b0 : decide (a1 ≤ a0) = true := decide_eq_true c4
  clear c4
  obtain rfl := Option.some.inj H
  go_enter Try.func65, Try.ntmps65
  go_wp2
  go_ret
  exact ⟨by first | rfl | (simp; done) | (simp [*]; done), by repeat (first | exact Drawn0.refl _ | apply Drawn0.step)⟩
 ·rw [if_neg c4] at H
  have c4b0 : decide (a1 ≤ a0) = false := decide_eq_false c4
  clear c4
  obtain rfl := Option.some.inj H
  go_enter Try.func65, Try.ntmps65
  go_wp2
  go_ret
  exact ⟨by first | rfl | (simp; done) | (simp [*]; done), by repeat (first | exact Drawn0.refl _ | apply Drawn0.step)⟩

/-! ### impl_isPage: function 76 -/
def impl_isPage.f (l0_0 : List ByteArray) (l0_1 : List (S74)) (a1 : Int) : Option (Bool) := (impl_in.f a1 0 (wrap64 ((l0_0.length : Int) - 1))).bind fun t262 => (some t262)
set_option maxHeartbeats 8000000 in
set_option maxRecDepth 100000 in
theorem impl_isPage.calls (A0_0 : Option Addr) (c0_0 : Nat) (l0_0 : List ByteArray) (A0_1 : Option Addr) (c0_1 : Nat) (l0_1 : List (S74)) (a1 : Int) (r : Bool) (w : World) (hr0_0 : Kd.C Kd.string w A0_0 l0_0.length l0_0) (hc0_0 : l0_0.length ≤ c0_0) (hr0_1 : Kd.C k74 w A0_1 l0_1.length l0_1) (hc0_1 : l0_1.length ≤ c0_1) (h : impl_isPage.f l0_0 l0_1 a1 = some r) :
  Calls Try.prog 76 #[.agg #[.slice A0_0 l0_0.length c0_0, .slice A0_1 l0_1.length c0_1], .int .i64 a1] w fun e w' => e = .returned (.bool r) ∧ Below w.heap.size w w' := by
 have hu36 := Try.underlying36
 have HR0_0 := zj hr0_0
 have HC0_0 := zj hc0_0
 clear hr0_0 hc0_0
 have HR0_1 := zj hr0_1
 have HC0_1 := zj hc0_1
 clear hr0_1 hc0_1
 have HB := zj (Below.refl w.heap.size w)
 have H : ((impl_in.f a1 0 (wrap64 ((l0_0.length : Int) - 1))).bind fun t262 => (some t262)) = some r := h
 clear h
 replace H := Option.bind_eq_some_iff.mp H
 obtain ⟨t262, A30, H⟩ := H
 replace H : (some t262) = some r := H
 have A3 := zj A30
 clear A30
 obtain rfl := Option.some.inj H
 go_enter Try.func76, Try.ntmps76
 go_wp2_with (first | ((with_reducible refine gate_dst (N := 2) rfl ?_); refine box_event ?hg (N := 2) ?hd (cs := #[.slice A0_0 l0_0.length c0_0, .slice A0_1 l0_1.length c0_1]) (t := 36) ?hr ?_; (case hd => rfl); (case hg => rfl); (case hr => first | (go_simp; done) | (go_simp; rfl)); intro gb261 hg w4 hbox hb; have n0_ := zj (zl (by repeat (first | (with_reducible first | exact HB.out | apply zg | apply zh | apply zi) | exact HB.out)) hb); have n1_ := zj (hbox); have n2_ := zj ((by rw [hg]; exact (zk (by repeat (first | (with_reducible first | exact HB.out | apply zg | apply zh | apply zi) | exact HB.out))) : w.heap.size ≤ gb261)); have n3_ := zj ((by rw [hg]; exact (zk (by repeat (first | (with_reducible first | exact HB.out | apply zg | apply zh | apply zi) | exact HB.out))) : w.heap.size ≤ gb261)); clear HB; have HB := n0_; have BK261 := n1_; have GW261 := n2_; have GE261 := n3_; clear n0_ n1_ n2_ n3_; clear hb hbox hg; have hcz5_0 : w4.cell? ⟨gb261, 0, none⟩ = some (.slice A0_0 l0_0.length c0_0) := (zq BK261.out 0).trans rfl; have hcz5_1 : w4.cell? ⟨gb261, 1, none⟩ = some (.slice A0_1 l0_1.length c0_1) := (zq BK261.out 1).trans rfl; have hfz5_0 := zv BK261.out 0; have hfz5_1 := zv BK261.out 1) | ((with_reducible refine gate_callee (f := 65) rfl ?_); refine goesL_ (some 10) rfl rfl Try.func65 (by kernel_rfl) rfl #[.int .i64 a1, .int .i64 0, .int .i64 (wrap64 ((l0_0.length : Int) - 1))] rfl (by (try simp only [List.map_toArray, List.map_cons, List.map_nil]); first | done | rfl | (simp only [List.length_drop, List.length_take]; rfl)) ?_; (with_reducible refine (impl_in.calls a1 0 (wrap64 ((l0_0.length : Int) - 1)) t262 _ A3.out).mono ?_); rintro e w' ⟨rfl, ⟨nd, rfl⟩⟩; refine ⟨_, rfl, ?_⟩))
 go_ret
 exact ⟨by first | rfl | (simp [errW_none, errW_some] <;> rfl) | (simp [*, errW_none, errW_some] <;> rfl), by repeat (first | (with_reducible first | exact HB.out | apply zg | apply zh | apply zi | refine zs ?_ GE261.out) | exact HB.out)⟩

/-! ### impl_DiskOk: function 25 -/
def impl_DiskOk.f (l0_0 : List ByteArray) (l0_1 : List (S74)) : Option (Bool) :=
 some (decide (4 ≤ (l0_0.length : Int) ∧ (l0_0.length : Int) ≤ 40) && decide ((l0_1.length : Int) ≤ 200) && !(l0_0.any fun s => decide ((s.size : Int) > 240)) && !(l0_1.any fun p => !decide (0 ≤ p.f0 ∧ p.f0 ≤ wrap64 ((l0_0.length : Int) - 1)) || decide ((p.f1.size : Int) > 240)))
theorem impl_DiskOk.idxs_drop (l0 : List ByteArray) (x : Int) (h0 : 0 ≤ x) (h1 : x < (l0.length : Int)) : l0.drop x.toNat = rdOf ByteArray.empty l0 x :: l0.drop (x + 1).toNat := by
 have hl : x.toNat < l0.length := by omega
 rw [List.drop_eq_getElem_cons hl, show (x + 1).toNat = x.toNat + 1 by omega]
 congr 1
 unfold rdOf
 simp [List.getD, hl]
set_option maxHeartbeats 8000000 in
set_option maxRecDepth 100000 in
theorem impl_DiskOk.idxs (p : ByteArray → Bool) (g : Nat) (lb : Array Value) (eg : ∀ args w, (callFunc g args).run Try.prog w = .ok (.enter g args) w) (A0 : Option Addr) (c0 : Nat) (l0 : List ByteArray) (w : World) (hr0 : Kd.C Kd.string w A0 l0.length l0)
  (hp : ∀ (W : World) (x : ByteArray), Below w.heap.size w W → Calls Try.prog g (#[.string x] ++ lb) W fun e w' => e = .returned (.bool (p x)) ∧ Below w.heap.size w w') :
  Calls Try.prog 123 #[.slice A0 l0.length c0, .func (.func g) #[] lb] w fun e w' => e = .returned (.int .i64 (idxP p l0 0)) ∧ Below w.heap.size w w' := by
 have hl : l0.length ≤ 9223372036854775807 := by have := hr0.2.1; exact this
 have HR0 := zj hr0
 clear hr0
 have HP := zj hp
 clear hp
 have HL := zj hl
 clear hl
 go_enter Try.func123, Try.ntmps123
 go_wp2
 go_loopg [5, 8] l0.length (fun gg _ s8 wr => ∃ x8 : Int, s8 = .int .i64 x8 ∧ Aside0 (0 ≤ x8 ∧ x8 ≤ (l0.length : Int) ∧ (l0.length : Int) - x8 ≤ (gg : Int)) ∧ Aside0 (Below w.heap.size w wr) ∧ Aside0 (idxP p l0 0 = idxP p (l0.drop x8.toNat) x8))
 case atStart => exact ⟨0, rfl, ⟨by omega, by omega, by omega⟩, ⟨Below.refl _ w⟩, ⟨rfl⟩⟩
 case round =>
  obtain ⟨x8, rfl, HK, HB, HA⟩ := hrel
  have h0 := HK.out.1
  by_cases c4 : x8 < (l0.length : Int)
  ·have hd := impl_DiskOk.idxs_drop l0 x8 h0 c4
   have HD := zj hd
   clear hd
   obtain ⟨ad102, e102, hx0⟩ := Kd.at_string HR0.out x8 h0 c4
   have hx0' := pw_cell_below HB.out hx0
   clear hx0
   have hcall := HP.out wr (rdOf ByteArray.empty l0 x8) HB.out
   have c4b0 : decide (x8 < (l0.length : Int)) = true := decide_eq_true c4
   have hw8 : wrap64 (x8 + 1) = x8 + 1 := by have := HL.out; unfold wrap64; omega
   have HW8 := zj hw8
   clear hw8
   have C4 := zj c4
   clear c4
   have q102 := C4.out
   replace q102 := eq_true q102
   replace h0 := eq_true h0
   cases e102
   cases hq : p (rdOf ByteArray.empty l0 x8) with
   | true =>
    rw [hq] at hcall
    have HQ := zj hq
    clear hq
    have HC := zj hcall
    clear hcall
    go_wp2_with fail
    refine (HC.out).mono ?_
    rintro e w' ⟨rfl, hb'⟩
    go_wp2
    go_ret
    refine ⟨?_, hb'⟩
    rw [HA.out, HD.out, idxP, if_pos HQ.out]
    rfl
   | false =>
    rw [hq] at hcall
    have HQ := zj hq
    clear hq
    have HC := zj hcall
    clear hcall
    go_wp2_with fail
    refine (HC.out).mono ?_
    rintro e w' ⟨rfl, hb'⟩
    go_wp2
    go_roundg (gk - 1)
    case measure => have := HK.out; have := C4.out; omega
    case rel => exact ⟨x8 + 1, by rw [HW8.out], ⟨by have := HK.out; omega, by have := C4.out; omega, by have := HK.out; have := C4.out; omega⟩, ⟨hb'⟩, ⟨by rw [HA.out, HD.out, idxP, if_neg (by rw [HQ.out]; decide)]⟩⟩
  ·have c4b0 : decide (x8 < (l0.length : Int)) = false := decide_eq_false c4
   have C4 := zj c4
   clear c4
   go_wp2
   go_ret
   refine ⟨?_, HB.out⟩
   rw [HA.out, List.drop_eq_nil_of_le (by have := C4.out; omega)]
   rfl
set_option maxHeartbeats 8000000 in
theorem impl_DiskOk.cons (p : ByteArray → Bool) (g : Nat) (lb : Array Value) (eg : ∀ args w, (callFunc g args).run Try.prog w = .ok (.enter g args) w) (A0 : Option Addr) (c0 : Nat) (l0 : List ByteArray) (w : World) (hr0 : Kd.C Kd.string w A0 l0.length l0)
  (hp : ∀ (W : World) (x : ByteArray), Below w.heap.size w W → Calls Try.prog g (#[.string x] ++ lb) W fun e w' => e = .returned (.bool (p x)) ∧ Below w.heap.size w w') :
  Calls Try.prog 77 #[.slice A0 l0.length c0, .func (.func g) #[] lb] w fun e w' => e = .returned (.bool (l0.any p)) ∧ Below w.heap.size w w' := by
 have hcon := impl_DiskOk.idxs p g lb eg A0 c0 l0 w hr0 hp
 rw [← idxP_any]
 generalize idxP p l0 0 = r at hcon ⊢
 have HCON := zj hcon
 clear hcon hr0 hp
 go_enter Try.func77, Try.ntmps77
 go_wp2_with fail
 refine HCON.out.mono ?_
 rintro e w' ⟨rfl, hb'⟩
 go_wp2
 go_ret
 exact ⟨rfl, hb'⟩
theorem impl_DiskOk.idxp_drop (l0 : List (S74)) (x : Int) (h0 : 0 ≤ x) (h1 : x < (l0.length : Int)) : l0.drop x.toNat = rd_T74 l0 x :: l0.drop (x + 1).toNat := by
 have hl : x.toNat < l0.length := by omega
 rw [List.drop_eq_getElem_cons hl, show (x + 1).toNat = x.toNat + 1 by omega]
 congr 1
 unfold rd_T74
 simp [List.getD, hl]
set_option maxHeartbeats 8000000 in
set_option maxRecDepth 100000 in
theorem impl_DiskOk.idxp (p : (S74) → Bool) (g : Nat) (lb : Array Value) (eg : ∀ args w, (callFunc g args).run Try.prog w = .ok (.enter g args) w) (A0 : Option Addr) (c0 : Nat) (l0 : List (S74)) (w : World) (hr0 : Kd.C k74 w A0 l0.length l0)
  (hp : ∀ (W : World) (x : (S74)), Below w.heap.size w W → Calls Try.prog g (#[.agg #[.int .i64 x.f0, .string x.f1]] ++ lb) W fun e w' => e = .returned (.bool (p x)) ∧ Below w.heap.size w w') :
  Calls Try.prog 124 #[.slice A0 l0.length c0, .func (.func g) #[] lb] w fun e w' => e = .returned (.int .i64 (idxP p l0 0)) ∧ Below w.heap.size w w' := by
 have hl : l0.length ≤ 9223372036854775807 := by have := hr0.2.1; exact this
 have HR0 := zj hr0
 clear hr0
 have HP := zj hp
 clear hp
 have HL := zj hl
 clear hl
 go_enter Try.func124, Try.ntmps124
 go_wp2
 go_loopg [5, 8] l0.length (fun gg _ s8 wr => ∃ x8 : Int, s8 = .int .i64 x8 ∧ Aside0 (0 ≤ x8 ∧ x8 ≤ (l0.length : Int) ∧ (l0.length : Int) - x8 ≤ (gg : Int)) ∧ Aside0 (Below w.heap.size w wr) ∧ Aside0 (idxP p l0 0 = idxP p (l0.drop x8.toNat) x8))
 case atStart => exact ⟨0, rfl, ⟨by omega, by omega, by omega⟩, ⟨Below.refl _ w⟩, ⟨rfl⟩⟩
 case round =>
  obtain ⟨x8, rfl, HK, HB, HA⟩ := hrel
  have h0 := HK.out.1
  by_cases c4 : x8 < (l0.length : Int)
  ·have hd := impl_DiskOk.idxp_drop l0 x8 h0 c4
   have HD := zj hd
   clear hd
   obtain ⟨ad102, e102, hx0, hx1⟩ := at_T74 HR0.out x8 h0 c4
   have hx0' := pw_cell_below HB.out hx0
   have hx1' := pw_cell_below HB.out hx1
   clear hx0 hx1
   have hcall := HP.out wr (rd_T74 l0 x8) HB.out
   have c4b0 : decide (x8 < (l0.length : Int)) = true := decide_eq_true c4
   have hw8 : wrap64 (x8 + 1) = x8 + 1 := by have := HL.out; unfold wrap64; omega
   have HW8 := zj hw8
   clear hw8
   have C4 := zj c4
   clear c4
   have q102 := C4.out
   replace q102 := eq_true q102
   replace h0 := eq_true h0
   cases e102
   cases hq : p (rd_T74 l0 x8) with
   | true =>
    rw [hq] at hcall
    have HQ := zj hq
    clear hq
    have HC := zj hcall
    clear hcall
    go_wp2_with fail
    refine (HC.out).mono ?_
    rintro e w' ⟨rfl, hb'⟩
    go_wp2
    go_ret
    refine ⟨?_, hb'⟩
    rw [HA.out, HD.out, idxP, if_pos HQ.out]
    rfl
   | false =>
    rw [hq] at hcall
    have HQ := zj hq
    clear hq
    have HC := zj hcall
    clear hcall
    go_wp2_with fail
    refine (HC.out).mono ?_
    rintro e w' ⟨rfl, hb'⟩
    go_wp2
    go_roundg (gk - 1)
    case measure => have := HK.out; have := C4.out; omega
    case rel => exact ⟨x8 + 1, by rw [HW8.out], ⟨by have := HK.out; omega, by have := C4.out; omega, by have := HK.out; have := C4.out; omega⟩, ⟨hb'⟩, ⟨by rw [HA.out, HD.out, idxP, if_neg (by rw [HQ.out]; decide)]⟩⟩
  ·have c4b0 : decide (x8 < (l0.length : Int)) = false := decide_eq_false c4
   have C4 := zj c4
   clear c4
   go_wp2
   go_ret
   refine ⟨?_, HB.out⟩
   rw [HA.out, List.drop_eq_nil_of_le (by have := C4.out; omega)]
   rfl
set_option maxHeartbeats 8000000 in
theorem impl_DiskOk.conp (p : (S74) → Bool) (g : Nat) (lb : Array Value) (eg : ∀ args w, (callFunc g args).run Try.prog w = .ok (.enter g args) w) (A0 : Option Addr) (c0 : Nat) (l0 : List (S74)) (w : World) (hr0 : Kd.C k74 w A0 l0.length l0)
  (hp : ∀ (W : World) (x : (S74)), Below w.heap.size w W → Calls Try.prog g (#[.agg #[.int .i64 x.f0, .string x.f1]] ++ lb) W fun e w' => e = .returned (.bool (p x)) ∧ Below w.heap.size w w') :
  Calls Try.prog 79 #[.slice A0 l0.length c0, .func (.func g) #[] lb] w fun e w' => e = .returned (.bool (l0.any p)) ∧ Below w.heap.size w w' := by
 have hcon := impl_DiskOk.idxp p g lb eg A0 c0 l0 w hr0 hp
 rw [← idxP_any]
 generalize idxP p l0 0 = r at hcon ⊢
 have HCON := zj hcon
 clear hcon hr0 hp
 go_enter Try.func79, Try.ntmps79
 go_wp2_with fail
 refine HCON.out.mono ?_
 rintro e w' ⟨rfl, hb'⟩
 go_wp2
 go_ret
 exact ⟨rfl, hb'⟩
set_option maxHeartbeats 8000000 in
theorem impl_DiskOk.pred1 (w : World) (W : World) (x : ByteArray) (hb : Below w.heap.size w W) :
  Calls Try.prog 78 (#[.string x] ++ #[]) W fun e w' => e = .returned (.bool (decide ((x.size : Int) > 240))) ∧ Below w.heap.size w w' := by
 show Calls Try.prog 78 #[.string x] W _
 go_enter Try.func78, Try.ntmps78
 go_wp2
 go_ret
 exact ⟨rfl, hb⟩
theorem impl_DiskOk.isPage (l0_0 : List ByteArray) (l0_1 : List (S74)) (x : Int) : impl_isPage.f l0_0 l0_1 x = some (decide (0 ≤ x ∧ x ≤ wrap64 ((l0_0.length : Int) - 1))) := by
 unfold impl_isPage.f impl_in.f
 by_cases c : x ≥ 0
 ·rw [if_pos c, Option.bind_some]
  congr 1
  by_cases c2 : x ≤ wrap64 ((l0_0.length : Int) - 1)
  ·rw [decide_eq_true c2, decide_eq_true ⟨c, c2⟩]
  ·rw [decide_eq_false c2, decide_eq_false (fun h => c2 h.2)]
 ·rw [if_neg c, Option.bind_some, decide_eq_false (fun h => c h.1)]
set_option maxHeartbeats 8000000 in
set_option maxRecDepth 100000 in
theorem impl_DiskOk.pred2 (A0 : Option Addr) (c0 : Nat) (l0_0 : List ByteArray) (A1 : Option Addr) (c1 : Nat) (l0_1 : List (S74)) (B : Nat) (w : World) (hr0 : Kd.C Kd.string w A0 l0_0.length l0_0) (hc0 : l0_0.length ≤ c0) (hr1 : Kd.C k74 w A1 l0_1.length l0_1) (hc1 : l0_1.length ≤ c1)
  (hB : B < w.heap.size) (hcell0 : w.cell? ⟨B, 0, none⟩ = some (.slice A0 l0_0.length c0)) (hcell1 : w.cell? ⟨B, 1, none⟩ = some (.slice A1 l0_1.length c1)) (W : World) (x : S74) (hb : Below w.heap.size w W) :
  Calls Try.prog 80 (#[.agg #[.int .i64 x.f0, .string x.f1]] ++ #[.pointer (some ⟨B, 0, none⟩)]) W fun e w' => e = .returned (.bool (!decide (0 ≤ x.f0 ∧ x.f0 ≤ wrap64 ((l0_0.length : Int) - 1)) || decide ((x.f1.size : Int) > 240))) ∧ Below w.heap.size w w' := by
 have hx0 : W.cell? ⟨B, 0, none⟩ = some (.slice A0 l0_0.length c0) := (hb.cell (p := ⟨B, 0, none⟩) hB).trans hcell0
 have hx1 : W.cell? ⟨B, 1, none⟩ = some (.slice A1 l0_1.length c1) := (hb.cell (p := ⟨B, 1, none⟩) hB).trans hcell1
 have hBW : B < W.heap.size := Nat.lt_of_lt_of_le hB hb.size
 have hne : B ≠ W.heap.size := by omega
 have HB := zj hb
 have H0 := zj (Kd.C_below hr0 hb)
 have H1 := zj (Kd.C_below hr1 hb)
 have HC0 := zj hc0
 have HC1 := zj hc1
 have HP := zj (impl_DiskOk.isPage l0_0 l0_1 x.f0)
 clear hr0 hr1 hc0 hc1 hcell0 hcell1 hb
 show Calls Try.prog 80 #[.agg #[.int .i64 x.f0, .string x.f1], .pointer (some ⟨B, 0, none⟩)] W _
 generalize decide (0 ≤ x.f0 ∧ x.f0 ≤ wrap64 ((l0_0.length : Int) - 1)) = b at HP ⊢
 go_enter Try.func80, Try.ntmps80
 go_wp2_with fail
 refine (impl_isPage.calls A0 c0 l0_0 A1 c1 l0_1 x.f0 b _ (Kd.C_alloc H0.out _) HC0.out (Kd.C_alloc H1.out _) HC1.out HP.out).mono ?_
 rintro e w' ⟨rfl, hb'⟩
 have HBW := zj hb'
 have hz1 : w'.cell? ⟨W.heap.size, 1, none⟩ = some (.string x.f1) := pw_cell_below hb' (by simp)
 have HF := zj (((HB.out).alloc (HB.out).size _).trans (HBW.out.mono (by have := HB.out.size; simp; omega)))
 clear hb' hx0 hx1
 cases b with
 | false =>
  go_wp2
  go_ret
  exact ⟨rfl, HF.out⟩
 | true =>
  go_wp2
  go_ret
  exact ⟨by simp, HF.out⟩
theorem impl_DiskOk.inRange (x : Int) : impl_in.f x 4 40 = some (decide (4 ≤ x ∧ x ≤ 40)) := by
 unfold impl_in.f
 by_cases c : x ≥ 4
 ·rw [if_pos c]
  congr 1
  by_cases c2 : x ≤ 40
  ·rw [decide_eq_true c2, decide_eq_true ⟨c, c2⟩]
  ·rw [decide_eq_false c2, decide_eq_false (fun h => c2 h.2)]
 ·rw [if_neg c, decide_eq_false (fun h => c h.1)]
set_option maxHeartbeats 8000000 in
set_option maxRecDepth 100000 in
theorem impl_DiskOk.calls (A0_0 : Option Addr) (c0_0 : Nat) (l0_0 : List ByteArray) (A0_1 : Option Addr) (c0_1 : Nat) (l0_1 : List (S74)) (r : Bool) (w : World) (hr0_0 : Kd.C Kd.string w A0_0 l0_0.length l0_0) (hc0_0 : l0_0.length ≤ c0_0) (hr0_1 : Kd.C k74 w A0_1 l0_1.length l0_1) (hc0_1 : l0_1.length ≤ c0_1) (h : impl_DiskOk.f l0_0 l0_1 = some r) :
  Calls Try.prog 25 #[.agg #[.slice A0_0 l0_0.length c0_0, .slice A0_1 l0_1.length c0_1]] w fun e w' => e = .returned (.bool r) ∧ Below w.heap.size w w' := by
 unfold impl_DiskOk.f at h
 have H := Option.some.inj h
 clear h
 have HR := zj H
 clear H
 have e1 : ∀ args w, (callFunc 78 args).run Try.prog w = .ok (.enter 78 args) w := enters_of Try.func78 (by kernel_rfl) rfl
 have e2 : ∀ args w, (callFunc 80 args).run Try.prog w = .ok (.enter 80 args) w := enters_of Try.func80 (by kernel_rfl) rfl
 have E1 := zj e1
 have E2 := zj e2
 clear e1 e2
 have H0 := zj hr0_0
 have H1 := zj hr0_1
 have HC0 := zj hc0_0
 have HC1 := zj hc0_1
 clear hr0_0 hr0_1 hc0_0 hc0_1
 have HI := zj (impl_DiskOk.inRange (l0_0.length : Int))
 by_cases c1 : 4 ≤ (l0_0.length : Int) ∧ (l0_0.length : Int) ≤ 40
 ·by_cases c2 : (l0_1.length : Int) ≤ 200
  ·have C1 := zj c1
   have C2 := zj c2
   have g2 : decide (200 < (l0_1.length : Int)) = false := decide_eq_false (by omega)
   have g2' : ¬ (200 < l0_1.length) := by omega
   have c1' : decide (4 ≤ (l0_0.length : Int) ∧ (l0_0.length : Int) ≤ 40) = true := decide_eq_true c1
   have C1' := zj c1'
   have C2' := zj (decide_eq_true c2)
   clear c1 c2 c1'
   go_enter Try.func25, Try.ntmps25
   go_wp2_with fail
   refine (impl_in.calls _ 4 40 true _ (by rw [HI.out, C1'.out])).mono ?_
   rintro e w1 ⟨rfl, ⟨n1, rfl⟩⟩
   go_wp2_with fail
   refine (impl_DiskOk.cons (fun s => decide ((s.size : Int) > 240)) 78 #[] E1.out A0_0 c0_0 l0_0 _ (Kd.C_drewN (Kd.C_alloc H0.out _) _) (fun W x hb => impl_DiskOk.pred1 _ W x hb)).mono ?_
   rintro e w2 ⟨rfl, hb2⟩
   have hx0 : w2.cell? ⟨w.heap.size, 0, none⟩ = some (.slice A0_0 l0_0.length c0_0) := pw_cell_below hb2 (by simp)
   have hx1 : w2.cell? ⟨w.heap.size, 1, none⟩ = some (.slice A0_1 l0_1.length c0_1) := pw_cell_below hb2 (by simp)
   have hB : Below w.heap.size w w2 := (zh ((Below.refl _ w).alloc (Nat.le_refl _) (.cells #[.slice A0_0 l0_0.length c0_0, .slice A0_1 l0_1.length c0_1] 36)) n1).trans (hb2.mono (by simp))
   have hS : w.heap.size < w2.heap.size := by have := hb2.size; simp at this; omega
   have HB2 := zj hb2
   clear hb2
   have HB := zj hB
   clear hB
   have HS := zj hS
   clear hS
   cases h3 : l0_0.any (fun s => decide ((s.size : Int) > 240)) with
   | true =>
    have HR3 := zj h3
    clear h3
    go_wp2
    go_ret
    refine ⟨?_, HB.out⟩
    rw [← HR.out, C1'.out, C2'.out, HR3.out]
    rfl
   | false =>
    have HR3 := zj h3
    clear h3
    have HX0 := zj hx0
    have HX1 := zj hx1
    go_wp2_with fail
    refine (impl_DiskOk.conp (fun p => !decide (0 ≤ p.f0 ∧ p.f0 ≤ wrap64 ((l0_0.length : Int) - 1)) || decide ((p.f1.size : Int) > 240)) 80 #[.pointer (some ⟨w.heap.size, 0, none⟩)] E2.out A0_1 c0_1 l0_1 w2 (Kd.C_below H1.out HB.out) (fun W x hb => impl_DiskOk.pred2 A0_0 c0_0 l0_0 A0_1 c0_1 l0_1 w.heap.size w2 (Kd.C_below H0.out HB.out) HC0.out (Kd.C_below H1.out HB.out) HC1.out HS.out HX0.out HX1.out W x hb)).mono ?_
    rintro e w3 ⟨rfl, hb3⟩
    have HF := zj (HB.out.trans (hb3.mono (by have := HS.out; omega)))
    clear hb3 hx0 hx1
    generalize hz : l0_1.any (fun p => !decide (0 ≤ p.f0 ∧ p.f0 ≤ wrap64 ((l0_0.length : Int) - 1)) || decide ((p.f1.size : Int) > 240)) = b4 at HR ⊢
    have HZ := zj hz
    clear hz
    go_wp2
    go_ret
    refine ⟨?_, HF.out⟩
    rw [← HR.out, C1'.out, C2'.out, HR3.out]
    rfl
  ·have C1' := zj (decide_eq_true c1)
   have C2' := zj (decide_eq_false c2)
   have g2 : decide (200 < (l0_1.length : Int)) = true := decide_eq_true (by omega)
   have g2' : 200 < l0_1.length := by omega
   clear c1 c2
   go_enter Try.func25, Try.ntmps25
   go_wp2_with fail
   refine (impl_in.calls _ 4 40 true _ (by rw [HI.out, C1'.out])).mono ?_
   rintro e w1 ⟨rfl, ⟨n1, rfl⟩⟩
   go_wp2
   go_ret
   refine ⟨?_, zh ((Below.refl _ w).alloc (Nat.le_refl _) (.cells #[.slice A0_0 l0_0.length c0_0, .slice A0_1 l0_1.length c0_1] 36)) n1⟩
   rw [← HR.out, C1'.out, C2'.out]
   rfl
 ·have C1' := zj (decide_eq_false c1)
  clear c1
  go_enter Try.func25, Try.ntmps25
  go_wp2_with fail
  refine (impl_in.calls _ 4 40 false _ (by rw [HI.out, C1'.out])).mono ?_
  rintro e w1 ⟨rfl, ⟨n1, rfl⟩⟩
  go_wp2
  go_ret
  refine ⟨?_, zh ((Below.refl _ w).alloc (Nat.le_refl _) (.cells #[.slice A0_0 l0_0.length c0_0, .slice A0_1 l0_1.length c0_1] 36)) n1⟩
  rw [← HR.out, C1'.out]
  rfl

end Go.Proofs.Ytbjlpmhhcigkdaa.VFnFalls
