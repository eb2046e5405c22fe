-- Written by a program of this repo (wip/myprint.py), over the kit's print; functions that the print does not take stand in it by hand-proved contracts.
import Derived.Test.YtkobbccjjglfmaaVFnExactReadNodex0
import Derived.Test.YtkobbccjjglfmaaVFnExactReadNodex10
import Derived.Test.YtkobbccjjglfmaaVFnExactReadNodex11
import Derived.Test.YtkobbccjjglfmaaVFnExactReadNodex12
namespace Go.Proofs.Ytkobbccjjglfmaa.VFnExactReadNode
open Go.RowKit Go.Proofs.YtkobbccjjglfmaaW.PrintWords Go.Proofs.YtkobbccjjglfmaaW.PrintLast Go.Proofs.YtkobbccjjglfmaaW.PrintMore
attribute [local go_sem] max2_int min2_int max_two min_two max_three min_three max_four min_four   -- for this text's walks alone
attribute [local go_sem high] str_leq str_gtr str_geq str_lss
set_option linter.unusedVariables false
set_option linter.unusedSimpArgs false

/-! ### impl_ReadNode: function 57 -/
def impl_ReadNode.l0 : Nat → ByteArray → Int → Int → Bool → List ByteArray → List ByteArray → List Int → ByteArray → Int → Bool → Option (Bool × List ByteArray × List ByteArray × List Int × Bool)
 | 0, _, _, _, _, _, _, _, _, _, _ => none
 | k + 1, x4, x36, x37, x228000, x228001, x228002, x228003, x229000, x229001, x229002 => if x37 < x36 then ((impl_reader_text.f k x229000 x229001 x229002).bind fun bt230 => (if x228001.length < 8796093022208 then ((some (x228001 ++ [bt230.1] : List ByteArray)).bind fun y234 => (if x228000 = true then ((impl_reader_text.f k bt230.2.1 bt230.2.2.1 bt230.2.2.2).bind fun bt237 => (if x228002.length < 8796093022208 then (impl_ReadNode.l0 k x4 x36 (wrap64 (x37 + 1)) x228000 y234 (x228002 ++ [bt237.1]) x228003 bt237.2.1 bt237.2.2.1 bt237.2.2.2) else (none))) else ((impl_reader_num.f k bt230.2.1 bt230.2.2.1 bt230.2.2.2 40).bind fun bt244 => (if x228003.length < 17592186044416 then (impl_ReadNode.l0 k x4 x36 (wrap64 (x37 + 1)) x228000 y234 x228002 (x228003 ++ [bt244.1]) bt244.2.1 bt244.2.2.1 bt244.2.2.2) else (none))))) else (none))) else (if x229002 = true then (some (false, ([] : List ByteArray), ([] : List ByteArray), ([] : List Int), false)) else (if x229001 = (x4.size : Int) then ((impl_NodeOk.f k x228000 x228001 x228002 x228003).bind fun t251 => (if t251 = true then (some (x228000, x228001, x228002, x228003, true)) else (some (false, ([] : List ByteArray), ([] : List ByteArray), ([] : List Int), false)))) else (some (false, ([] : List ByteArray), ([] : List ByteArray), ([] : List Int), false))))
def impl_ReadNode.f (k : Nat) (a0 : ByteArray) : Option (Bool × List ByteArray × List ByteArray × List Int × Bool) := (impl_Unsealed.f k a0).bind fun bt224 => (if bt224.2 = true then (if bt224.1.toList = ([] : List UInt8) then (some (false, ([] : List ByteArray), ([] : List ByteArray), ([] : List Int), false)) else (if 0 < (bt224.1.size : Int) then (if (bt bt224.1 0) = 108 then ((impl_reader_num.f k bt224.1 1 false 4).bind fun bt226 => (impl_ReadNode.l0 k bt224.1 bt226.1 0 ((bt bt224.1 0) == 108) ([] : List ByteArray) ([] : List ByteArray) ([] : List Int) bt226.2.1 bt226.2.2.1 bt226.2.2.2)) else ((impl_reader_num.f k bt224.1 1 ((bt bt224.1 0) != 98) 4).bind fun bt252 => (impl_ReadNode.l0 k bt224.1 bt252.1 0 ((bt bt224.1 0) == 108) ([] : List ByteArray) ([] : List ByteArray) ([] : List Int) bt252.2.1 bt252.2.2.1 bt252.2.2.2))) else (none))) else (some (false, ([] : List ByteArray), ([] : List ByteArray), ([] : List Int), false)))
theorem impl_ReadNode.mono_l : ∀ k, (∀ y0 y1 y2 y3 y4 y5 y6 y7 y8 y9, LeO (impl_ReadNode.l0 k y0 y1 y2 y3 y4 y5 y6 y7 y8 y9) (impl_ReadNode.l0 (k + 1) y0 y1 y2 y3 y4 y5 y6 y7 y8 y9))
 | 0 => fun _ _ _ _ _ _ _ _ _ _ r h => by simp [impl_ReadNode.l0] at h
 | k + 1 => by
  have ih0 := impl_ReadNode.mono_l k
  ·intro y0 y1 y2 y3 y4 y5 y6 y7 y8 y9
   unfold impl_ReadNode.l0
   repeat' first
   | (with_reducible exact ih0 _ _ _ _ _ _ _ _ _ _)
   | (with_reducible exact impl_NodeOk.mono _ _ _ _ _)
   | (with_reducible exact impl_Unsealed.mono _ _)
   | (with_reducible exact impl_reader_num.mono _ _ _ _ _)
   | (with_reducible exact impl_reader_text.mono _ _ _ _)
   | (with_reducible exact LeO.refl _)
   | (with_reducible exact LeO.none _)
   | (with_reducible refine LeO.ite ?_ ?_)
   | (with_reducible refine LeO.bind ?_ (fun _ => ?_))
   | exact ih0 _ _ _ _ _ _ _ _ _ _
   | exact impl_NodeOk.mono _ _ _ _ _
   | exact impl_Unsealed.mono _ _
   | exact impl_reader_num.mono _ _ _ _ _
   | exact impl_reader_text.mono _ _ _ _
   | exact LeO.none _
   | refine LeO.ite ?_ ?_
   | refine LeO.bind ?_ (fun _ => ?_)
theorem impl_ReadNode.mono : ∀ a0 k, LeO (impl_ReadNode.f k a0) (impl_ReadNode.f (k + 1) a0) := by
 intro a0 k
 have ih0 := impl_ReadNode.mono_l k
 unfold impl_ReadNode.f
 repeat' first
   | (with_reducible exact ih0 _ _ _ _ _ _ _ _ _ _)
   | (with_reducible exact impl_NodeOk.mono _ _ _ _ _)
   | (with_reducible exact impl_Unsealed.mono _ _)
   | (with_reducible exact impl_reader_num.mono _ _ _ _ _)
   | (with_reducible exact impl_reader_text.mono _ _ _ _)
   | (with_reducible exact LeO.refl _)
   | (with_reducible exact LeO.none _)
   | (with_reducible refine LeO.ite ?_ ?_)
   | (with_reducible refine LeO.bind ?_ (fun _ => ?_))
   | exact ih0 _ _ _ _ _ _ _ _ _ _
   | exact impl_NodeOk.mono _ _ _ _ _
   | exact impl_Unsealed.mono _ _
   | exact impl_reader_num.mono _ _ _ _ _
   | exact impl_reader_text.mono _ _ _ _
   | exact LeO.none _
   | refine LeO.ite ?_ ?_
   | refine LeO.bind ?_ (fun _ => ?_)
def impl_ReadNode.T8 : Bool × List (List Nat × List Nat) := (true, [([], []), ([0], [0]), ([], []), ([2], [2]), ([3], [3]), ([1, 4, 3], [1, 4]), ([0, 1, 2, 3, 4, 5], []), ([6, 5, 5, 0, 1, 2, 3, 4, 5], [5, 6])])
def impl_ReadNode.B8 : List Nat := [0, 1, 0, 4, 12, 31, 63, 127]
theorem impl_ReadNode.tab8 : rtab .any (opsOf Try.f57 8) = impl_ReadNode.T8 := by kernel_rfl
theorem impl_ReadNode.bits8 : waitsOk impl_ReadNode.T8.2 impl_ReadNode.B8 = true := by kernel_rfl
def impl_ReadNode.T10 : Bool × List (List Nat × List Nat) := (true, [([], []), ([0], [0]), ([], []), ([2], [2]), ([3], [3]), ([1, 4, 3], [1, 4]), ([0, 1, 2, 3, 4, 5], []), ([6, 5, 5, 0, 1, 2, 3, 4, 5], [5, 6])])
def impl_ReadNode.B10 : List Nat := [0, 1, 0, 4, 12, 31, 63, 127]
theorem impl_ReadNode.tab10 : rtab .any (opsOf Try.f57 10) = impl_ReadNode.T10 := by kernel_rfl
theorem impl_ReadNode.bits10 : waitsOk impl_ReadNode.T10.2 impl_ReadNode.B10 = true := by kernel_rfl
def impl_ReadNode.T11 : Bool × List (List Nat × List Nat) := (true, [([], []), ([0], [0]), ([], []), ([2], [2]), ([3], [3]), ([1, 4, 3], [1, 4]), ([0, 1, 2, 3, 4, 5], []), ([6, 5, 5, 0, 1, 2, 3, 4, 5], [5, 6])])
def impl_ReadNode.B11 : List Nat := [0, 1, 0, 4, 12, 31, 63, 127]
theorem impl_ReadNode.tab11 : rtab .any (opsOf Try.f57 11) = impl_ReadNode.T11 := by kernel_rfl
theorem impl_ReadNode.bits11 : waitsOk impl_ReadNode.T11.2 impl_ReadNode.B11 = true := by kernel_rfl
set_option maxHeartbeats 8000000 in
set_option maxRecDepth 100000 in
theorem impl_ReadNode.calls (k : Nat) (a0 : ByteArray) (r1 : Bool) (r2 : List ByteArray) (r3 : List ByteArray) (r4 : List Int) (r5 : Bool) (w : World) (h : impl_ReadNode.f k a0 = some (r1, r2, r3, r4, r5)) :
  Calls Try.prog 57 #[.string a0] w fun e w' => ∃ v1_ v2_ v3_ : Value, e = .returned (.tuple #[.agg #[.bool r1, v1_, v2_, v3_], .bool r5]) ∧ Kd.R Kd.string 9 w' w.heap.size (fun k_ => some k_ ≠ (v2_ : Value).ownBlock) v1_ r2 ∧ Kd.R Kd.string 9 w' w.heap.size (fun k_ => some k_ ≠ (v1_ : Value).ownBlock) v2_ r3 ∧ Kd.R (Kd.int .i64) 3 w' w.heap.size (fun _ => True) v3_ r4 ∧ Below w.heap.size w w' := by
 have hu29 := Try.underlying29
 have hu153 := Try.underlying153
 have HB := zj (Below.refl w.heap.size w)
 have H : ((impl_Unsealed.f k a0).bind fun bt224 => (if bt224.2 = true then (if bt224.1.toList = ([] : List UInt8) then (some (false, ([] : List ByteArray), ([] : List ByteArray), ([] : List Int), false)) else (if 0 < (bt224.1.size : Int) then (if (bt bt224.1 0) = 108 then ((impl_reader_num.f k bt224.1 1 false 4).bind fun bt226 => (impl_ReadNode.l0 k bt224.1 bt226.1 0 ((bt bt224.1 0) == 108) ([] : List ByteArray) ([] : List ByteArray) ([] : List Int) bt226.2.1 bt226.2.2.1 bt226.2.2.2)) else ((impl_reader_num.f k bt224.1 1 ((bt bt224.1 0) != 98) 4).bind fun bt252 => (impl_ReadNode.l0 k bt224.1 bt252.1 0 ((bt bt224.1 0) == 108) ([] : List ByteArray) ([] : List ByteArray) ([] : List Int) bt252.2.1 bt252.2.2.1 bt252.2.2.2))) else (none))) else (some (false, ([] : List ByteArray), ([] : List ByteArray), ([] : List Int), false)))) = some (r1, r2, r3, r4, r5) := h
 clear h
 replace H := Option.bind_eq_some_iff.mp H
 obtain ⟨⟨t224, t225⟩, A20, H⟩ := H
 replace H : (if t225 = true then (if t224.toList = ([] : List UInt8) then (some (false, ([] : List ByteArray), ([] : List ByteArray), ([] : List Int), false)) else (if 0 < (t224.size : Int) then (if (bt t224 0) = 108 then ((impl_reader_num.f k t224 1 false 4).bind fun bt226 => (impl_ReadNode.l0 k t224 bt226.1 0 ((bt t224 0) == 108) ([] : List ByteArray) ([] : List ByteArray) ([] : List Int) bt226.2.1 bt226.2.2.1 bt226.2.2.2)) else ((impl_reader_num.f k t224 1 ((bt t224 0) != 98) 4).bind fun bt252 => (impl_ReadNode.l0 k t224 bt252.1 0 ((bt t224 0) == 108) ([] : List ByteArray) ([] : List ByteArray) ([] : List Int) bt252.2.1 bt252.2.2.1 bt252.2.2.2))) else (none))) else (some (false, ([] : List ByteArray), ([] : List ByteArray), ([] : List Int), false))) = some (r1, r2, r3, r4, r5) := H
 have A2 := zj A20
 clear A20
 by_cases c3 : t225 = true
 ·subst c3
  have H1 : (if t224.toList = ([] : List UInt8) then (some (false, ([] : List ByteArray), ([] : List ByteArray), ([] : List Int), false)) else (if 0 < (t224.size : Int) then (if (bt t224 0) = 108 then ((impl_reader_num.f k t224 1 false 4).bind fun bt226 => (impl_ReadNode.l0 k t224 bt226.1 0 ((bt t224 0) == 108) ([] : List ByteArray) ([] : List ByteArray) ([] : List Int) bt226.2.1 bt226.2.2.1 bt226.2.2.2)) else ((impl_reader_num.f k t224 1 ((bt t224 0) != 98) 4).bind fun bt252 => (impl_ReadNode.l0 k t224 bt252.1 0 ((bt t224 0) == 108) ([] : List ByteArray) ([] : List ByteArray) ([] : List Int) bt252.2.1 bt252.2.2.1 bt252.2.2.2))) else (none))) = some (r1, r2, r3, r4, r5) := by rw [if_pos rfl] at H; exact H
  clear H
  have H := H1
  clear H1
  by_cases c4 : t224.toList = ([] : List UInt8)
  ·rw [if_pos c4] at H
   have c4b0 : (t224.toList == ([] : List UInt8)) = true := beq_iff_eq.mpr c4
   have c4b1 : (t224.toList != ([] : List UInt8)) = false := bne_eq_false_iff_eq.mpr c4
   clear c4
   simp only [Option.some.injEq, Prod.mk.injEq] at H
   obtain ⟨rfl, rfl, rfl, rfl, rfl⟩ := H
   go_enter Try.func57, Try.ntmps57
   go_wp2_with (first | ((with_reducible refine gate_dst (N := 2) rfl ?_); (try (refine gate_guard (by rfl) ?_; dsimp only)); refine box_event ?hg (N := 2) ?hd (cs := #[.bool false, .slice none 0 0, .slice none 0 0, .slice none 0 0]) (t := 29) ?hr ?_; (case hd => rfl); (case hg => rfl); (case hr => first | (go_simp; done) | (go_simp; rfl)); intro gb224 hg w5 hbox hb; have n0_ := zj (zl (by repeat (first | (with_reducible first | exact HB.out | apply zg | apply zh | apply zi) | exact HB.out)) hb); have n1_ := zj (hbox); have n2_ := zj ((by rw [hg]; exact (zk (by repeat (first | (with_reducible first | exact HB.out | apply zg | apply zh | apply zi) | exact HB.out))) : w.heap.size ≤ gb224)); have n3_ := zj ((by rw [hg]; exact (zk (by repeat (first | (with_reducible first | exact HB.out | apply zg | apply zh | apply zi) | exact HB.out))) : w.heap.size ≤ gb224)); clear HB; have HB := n0_; have BK224 := n1_; have GW224 := n2_; have GE224 := n3_; clear n0_ n1_ n2_ n3_; clear hb hbox hg) | ((with_reducible refine gate_callee (f := 128) rfl ?_); refine goesL_ (some 10) rfl rfl Try.func128 (by kernel_rfl) rfl #[.string a0] rfl (by (try simp only [List.map_toArray, List.map_cons, List.map_nil]); first | done | rfl | (simp only [List.length_drop, List.length_take]; rfl)) ?_; (with_reducible refine (impl_Unsealed.calls k a0 t224 true _ A2.out).mono ?_); rintro e w6 ⟨rfl, hb⟩; refine ⟨_, rfl, ?_⟩; have n0_ := zj (zo (g := gb224) (o := .cells #[.bool false, .slice none 0 0, .slice none 0 0, .slice none 0 0] 29 (0, 0)) (by (with_reducible repeat (first | refine za ?_ _ | refine zb ?_ | refine zc ?_ _)); exact BK224.out) hb); have n1_ := zj (zl (by repeat (first | (with_reducible first | exact HB.out | apply zg | apply zh | apply zi | refine zr ?_ GE224.out) | exact HB.out)) hb); clear BK224; clear HB; have BK224 := n0_; have HB := n1_; clear n0_ n1_; (try clear hb); (try clear hb2); (try clear hk); (try clear hi); have hcz7_0 : w6.cell? ⟨gb224, 0, none⟩ = some (.bool false) := (zq BK224.out 0).trans rfl; have hcz7_1 : w6.cell? ⟨gb224, 1, none⟩ = some (.slice none 0 0) := (zq BK224.out 1).trans rfl; have hcz7_2 : w6.cell? ⟨gb224, 2, none⟩ = some (.slice none 0 0) := (zq BK224.out 2).trans rfl; have hcz7_3 : w6.cell? ⟨gb224, 3, none⟩ = some (.slice none 0 0) := (zq BK224.out 3).trans rfl; have hfz7_0 := zu BK224.out 0; have hfz7_1 := zu BK224.out 1; have hfz7_2 := zu BK224.out 2; have hfz7_3 := zu BK224.out 3))
   refine bodyPost_ret (results_ct rfl _ _ gb224 29 #[.bool false, .slice none 0 0, .slice none 0 0, .slice none 0 0] (0, 0) _ rfl (by (with_reducible repeat (first | refine za ?_ _ | refine zb ?_ | refine zc ?_ _)); refine zp (cs := #[.bool false, .slice none 0 0, .slice none 0 0, .slice none 0 0]) ?_ 3 _ rfl; (with_reducible repeat (first | refine za ?_ _ | refine zb ?_ | refine zc ?_ _)); refine zp (cs := #[.bool false, .slice none 0 0, .slice none 0 0, .slice none 0 0]) ?_ 2 _ rfl; (with_reducible repeat (first | refine za ?_ _ | refine zb ?_ | refine zc ?_ _)); refine zp (cs := #[.bool false, .slice none 0 0, .slice none 0 0, .slice none 0 0]) ?_ 1 _ rfl; (with_reducible repeat (first | refine za ?_ _ | refine zb ?_ | refine zc ?_ _)); refine zp (cs := #[.bool false, .slice none 0 0, .slice none 0 0, .slice none 0 0]) ?_ 0 _ rfl; (with_reducible repeat (first | refine za ?_ _ | refine zb ?_ | refine zc ?_ _)); exact BK224.out) Try.underlying29 rfl (by kernel_rfl)) rfl ?_
   exact ⟨_, _, _, by first | rfl | (simp [errW_none, errW_some] <;> rfl) | (simp [*, errW_none, errW_some] <;> rfl), by first | exact Kd.R_nil _ _ _ _ _ | exact Kd.N_nil _ _ _ _ _ | exact Kd.V_nil _ _ _ _ _ | exact Kd.Q_nil _ _ _ _ _ | exact Kd.S_nil _ _ _ _ _, by first | exact Kd.R_nil _ _ _ _ _ | exact Kd.N_nil _ _ _ _ _ | exact Kd.V_nil _ _ _ _ _ | exact Kd.Q_nil _ _ _ _ _ | exact Kd.S_nil _ _ _ _ _, by first | exact Kd.R_nil _ _ _ _ _ | exact Kd.N_nil _ _ _ _ _ | exact Kd.V_nil _ _ _ _ _ | exact Kd.Q_nil _ _ _ _ _ | exact Kd.S_nil _ _ _ _ _, by repeat (first | (with_reducible first | exact HB.out | apply zg | apply zh | apply zi | refine zr ?_ GE224.out) | exact HB.out)⟩
  ·rw [if_neg c4] at H
   have c4b0 : (t224.toList == ([] : List UInt8)) = false := beq_eq_false_iff_ne.mpr c4
   have c4b1 : (t224.toList != ([] : List UInt8)) = true := bne_iff_ne.mpr c4
   by_cases c8 : 0 < (t224.size : Int)
   ·rw [if_pos c8] at H
    have c8b0 : decide (0 < (t224.size : Int)) = true := decide_eq_true c8
    have c8b1 : decide (0 < t224.size) = true := decide_eq_true (by omega)
    clear c8
    by_cases c11 : (bt t224 0) = 108
    ·rw [if_pos c11] at H
     have c11b1 : ((bt t224 0) != 108) = false := bne_eq_false_iff_eq.mpr c11
     clear c11
     replace H := Option.bind_eq_some_iff.mp H
     obtain ⟨⟨t226, t227, t228, t229⟩, A120, H⟩ := H
     replace H : (impl_ReadNode.l0 k t224 t226 0 ((bt t224 0) == 108) ([] : List ByteArray) ([] : List ByteArray) ([] : List Int) t227 t228 t229) = some (r1, r2, r3, r4, r5) := H
     have A12 := zj A120
     clear A120
     have H' := zj H
     clear H
     go_enter Try.func57, Try.ntmps57
     go_wp2_with (first | ((with_reducible refine gate_dst (N := 2) rfl ?_); (try (refine gate_guard (by rfl) ?_; dsimp only)); refine box_event ?hg (N := 2) ?hd (cs := #[.bool false, .slice none 0 0, .slice none 0 0, .slice none 0 0]) (t := 29) ?hr ?_; (case hd => rfl); (case hg => rfl); (case hr => first | (go_simp; done) | (go_simp; rfl)); intro gb224 hg w13 hbox hb; have n0_ := zj (zl (by repeat (first | (with_reducible first | exact HB.out | apply zg | apply zh | apply zi) | exact HB.out)) hb); have n1_ := zj (hbox); have n2_ := zj ((by rw [hg]; exact (zk (by repeat (first | (with_reducible first | exact HB.out | apply zg | apply zh | apply zi) | exact HB.out))) : w.heap.size ≤ gb224)); have n3_ := zj ((by rw [hg]; exact (zk (by repeat (first | (with_reducible first | exact HB.out | apply zg | apply zh | apply zi) | exact HB.out))) : w.heap.size ≤ gb224)); clear HB; have HB := n0_; have BK224 := n1_; have GW224 := n2_; have GE224 := n3_; clear n0_ n1_ n2_ n3_; clear hb hbox hg) | ((with_reducible refine gate_callee (f := 128) rfl ?_); refine goesL_ (some 10) rfl rfl Try.func128 (by kernel_rfl) rfl #[.string a0] rfl (by (try simp only [List.map_toArray, List.map_cons, List.map_nil]); first | done | rfl | (simp only [List.length_drop, List.length_take]; rfl)) ?_; (with_reducible refine (impl_Unsealed.calls k a0 t224 true _ A2.out).mono ?_); rintro e w14 ⟨rfl, hb⟩; refine ⟨_, rfl, ?_⟩; have n0_ := zj (zo (g := gb224) (o := .cells #[.bool false, .slice none 0 0, .slice none 0 0, .slice none 0 0] 29 (0, 0)) (by (with_reducible repeat (first | refine za ?_ _ | refine zb ?_ | refine zc ?_ _)); exact BK224.out) hb); have n1_ := zj (zl (by repeat (first | (with_reducible first | exact HB.out | apply zg | apply zh | apply zi | refine zr ?_ GE224.out) | exact HB.out)) hb); clear BK224; clear HB; have BK224 := n0_; have HB := n1_; clear n0_ n1_; (try clear hb); (try clear hb2); (try clear hk); (try clear hi); have p9 : 0 ≤ (0 : Int) := (by omega); have q9 : 0 < t224.size := (by have : (0 : Int) < (t224.size : Int) := of_decide_eq_true (by first | (with_reducible assumption) | assumption); omega); have hx9 : ∀ h : 0 < t224.size, ((t224[0]'h).toNat : Int) = bt t224 0 := bt_at t224 0; clear p9; have qi9 : (0 < (t224.size : Int)) = True := eq_true (of_decide_eq_true (by first | (with_reducible assumption) | assumption)); replace q9 := eq_true q9) | ((with_reducible refine gate_dst (N := 6) rfl ?_); (try (refine gate_guard (by rfl) ?_; dsimp only)); refine box_event ?hg (N := 6) ?hd (cs := #[.bool false, .slice none 0 0, .slice none 0 0, .slice none 0 0]) (t := 29) ?hr ?_; (case hd => rfl); (case hg => rfl); (case hr => first | (go_simp; done) | (go_simp; rfl)); intro gb227 hg w15 hbox hb; have n0_ := zj (zo (g := gb224) (o := .cells #[.bool false, .slice none 0 0, .slice none 0 0, .slice none 0 0] 29 (0, 0)) (by (with_reducible repeat (first | refine za ?_ _ | refine zb ?_ | refine zc ?_ _)); exact BK224.out) hb); have n1_ := zj (zl (by repeat (first | (with_reducible first | exact HB.out | apply zg | apply zh | apply zi | refine zr ?_ GE224.out) | exact HB.out)) hb); have n2_ := zj (hbox); have n3_ := zj ((by rw [hg]; exact (zk (by repeat (first | (with_reducible first | exact HB.out | apply zg | apply zh | apply zi | refine zr ?_ GE224.out) | exact HB.out))) : w.heap.size ≤ gb227)); have n4_ := zj ((by rw [hg]; exact (zk (by repeat (first | (with_reducible first | exact HB.out | apply zg | apply zh | apply zi | refine zr ?_ GE224.out) | exact HB.out))) : w.heap.size ≤ gb227)); have n5_ := zj ((by rw [hg]; exact Nat.ne_of_lt (blk_lt (g := gb224) (o := .cells #[.bool false, .slice none 0 0, .slice none 0 0, .slice none 0 0] 29 (0, 0)) (by (with_reducible repeat (first | refine za ?_ _ | refine zb ?_ | refine zc ?_ _)); exact BK224.out)) : gb224 ≠ gb227)); have n6_ := zj ((by rw [hg]; exact Nat.ne_of_gt (blk_lt (g := gb224) (o := .cells #[.bool false, .slice none 0 0, .slice none 0 0, .slice none 0 0] 29 (0, 0)) (by (with_reducible repeat (first | refine za ?_ _ | refine zb ?_ | refine zc ?_ _)); exact BK224.out)) : gb227 ≠ gb224)); clear BK224; clear HB; have BK224 := n0_; have HB := n1_; have BK227 := n2_; have GW227 := n3_; have GE227 := n4_; have NB224_227 := n5_; have NB227_224 := n6_; clear n0_ n1_ n2_ n3_ n4_ n5_ n6_; clear hb hbox hg; have hnb16 := NB227_224.out; have hnc16 := NB224_227.out; have hcz17_0 : w15.cell? ⟨gb227, 0, none⟩ = some (.bool false) := (zq BK227.out 0).trans rfl; have hcz17_1 : w15.cell? ⟨gb227, 1, none⟩ = some (.slice none 0 0) := (zq BK227.out 1).trans rfl; have hcz17_2 : w15.cell? ⟨gb227, 2, none⟩ = some (.slice none 0 0) := (zq BK227.out 2).trans rfl; have hcz17_3 : w15.cell? ⟨gb227, 3, none⟩ = some (.slice none 0 0) := (zq BK227.out 3).trans rfl; have hfz17_0 := zu BK227.out 0; have hfz17_1 := zu BK227.out 1; have hfz17_2 := zu BK227.out 2; have hfz17_3 := zu BK227.out 3; have p10 : 0 ≤ (0 : Int) := (by omega); have q10 : 0 < t224.size := (by have : (0 : Int) < (t224.size : Int) := of_decide_eq_true (by first | (with_reducible assumption) | assumption); omega); have hx10 : ∀ h : 0 < t224.size, ((t224[0]'h).toNat : Int) = bt t224 0 := bt_at t224 0; clear p10; have qi10 : (0 < (t224.size : Int)) = True := eq_true (of_decide_eq_true (by first | (with_reducible assumption) | assumption)); replace q10 := eq_true q10) | ((with_reducible refine gate_dst (N := 34) rfl ?_); (try (refine gate_guard (by rfl) ?_; dsimp only)); refine box_event ?hg (N := 34) ?hd (cs := #[.string t224, .int .i64 1, .bool false]) (t := 153) ?hr ?_; (case hd => rfl); (case hg => rfl); (case hr => first | (go_simp; done) | (go_simp; rfl)); intro gb228 hg w18 hbox hb; have n0_ := zj (zo (g := gb224) (o := .cells #[.bool false, .slice none 0 0, .slice none 0 0, .slice none 0 0] 29 (0, 0)) (by (with_reducible repeat (first | refine za ?_ _ | refine zb ?_ | refine zc ?_ _)); refine blk_far ?_ NB224_227.out _; (with_reducible repeat (first | refine za ?_ _ | refine zb ?_ | refine zc ?_ _)); refine blk_far ?_ NB224_227.out _; (with_reducible repeat (first | refine za ?_ _ | refine zb ?_ | refine zc ?_ _)); refine blk_far ?_ NB224_227.out _; (with_reducible repeat (first | refine za ?_ _ | refine zb ?_ | refine zc ?_ _)); refine blk_far ?_ NB224_227.out _; (with_reducible repeat (first | refine za ?_ _ | refine zb ?_ | refine zc ?_ _)); exact BK224.out) hb); have n1_ := zj (zo (g := gb227) (o := .cells #[.bool ((bt t224 0) == 108), .slice none 0 0, .slice none 0 0, .slice none 0 0] 29 (0, 0)) (by (with_reducible repeat (first | refine za ?_ _ | refine zb ?_ | refine zc ?_ _)); refine zp (cs := #[.bool ((bt t224 0) == 108), .slice none 0 0, .slice none 0 0, .slice none 0 0]) ?_ 3 _ rfl; (with_reducible repeat (first | refine za ?_ _ | refine zb ?_ | refine zc ?_ _)); refine zp (cs := #[.bool ((bt t224 0) == 108), .slice none 0 0, .slice none 0 0, .slice none 0 0]) ?_ 2 _ rfl; (with_reducible repeat (first | refine za ?_ _ | refine zb ?_ | refine zc ?_ _)); refine zp (cs := #[.bool ((bt t224 0) == 108), .slice none 0 0, .slice none 0 0, .slice none 0 0]) ?_ 1 _ rfl; (with_reducible repeat (first | refine za ?_ _ | refine zb ?_ | refine zc ?_ _)); refine zp (cs := #[.bool false, .slice none 0 0, .slice none 0 0, .slice none 0 0]) ?_ 0 _ rfl; (with_reducible repeat (first | refine za ?_ _ | refine zb ?_ | refine zc ?_ _)); exact BK227.out) hb); have n2_ := zj (zl (by repeat (first | (with_reducible first | exact HB.out | apply zg | apply zh | apply zi | refine zr ?_ GE224.out | refine zr ?_ GE227.out) | exact HB.out)) hb); have n3_ := zj ((show IsS153 w w18 gb228 t224 1 false from ⟨hbox, (by rw [hg]; exact (zk (by repeat (first | (with_reducible first | exact HB.out | apply zg | apply zh | apply zi | refine zr ?_ GE224.out | refine zr ?_ GE227.out) | exact HB.out))) : w.heap.size ≤ gb228)⟩)); have n4_ := zj ((by rw [hg]; exact (zk (by repeat (first | (with_reducible first | exact HB.out | apply zg | apply zh | apply zi | refine zr ?_ GE224.out | refine zr ?_ GE227.out) | exact HB.out))) : w.heap.size ≤ gb228)); have n5_ := zj ((by rw [hg]; exact (zk (by repeat (first | (with_reducible first | exact HB.out | apply zg | apply zh | apply zi | refine zr ?_ GE224.out | refine zr ?_ GE227.out) | exact HB.out))) : w.heap.size ≤ gb228)); have n6_ := zj ((by rw [hg]; exact Nat.ne_of_lt (blk_lt (g := gb224) (o := .cells #[.bool false, .slice none 0 0, .slice none 0 0, .slice none 0 0] 29 (0, 0)) (by (with_reducible repeat (first | refine za ?_ _ | refine zb ?_ | refine zc ?_ _)); refine blk_far ?_ NB224_227.out _; (with_reducible repeat (first | refine za ?_ _ | refine zb ?_ | refine zc ?_ _)); refine blk_far ?_ NB224_227.out _; (with_reducible repeat (first | refine za ?_ _ | refine zb ?_ | refine zc ?_ _)); refine blk_far ?_ NB224_227.out _; (with_reducible repeat (first | refine za ?_ _ | refine zb ?_ | refine zc ?_ _)); refine blk_far ?_ NB224_227.out _; (with_reducible repeat (first | refine za ?_ _ | refine zb ?_ | refine zc ?_ _)); exact BK224.out)) : gb224 ≠ gb228)); have n7_ := zj ((by rw [hg]; exact Nat.ne_of_gt (blk_lt (g := gb224) (o := .cells #[.bool false, .slice none 0 0, .slice none 0 0, .slice none 0 0] 29 (0, 0)) (by (with_reducible repeat (first | refine za ?_ _ | refine zb ?_ | refine zc ?_ _)); refine blk_far ?_ NB224_227.out _; (with_reducible repeat (first | refine za ?_ _ | refine zb ?_ | refine zc ?_ _)); refine blk_far ?_ NB224_227.out _; (with_reducible repeat (first | refine za ?_ _ | refine zb ?_ | refine zc ?_ _)); refine blk_far ?_ NB224_227.out _; (with_reducible repeat (first | refine za ?_ _ | refine zb ?_ | refine zc ?_ _)); refine blk_far ?_ NB224_227.out _; (with_reducible repeat (first | refine za ?_ _ | refine zb ?_ | refine zc ?_ _)); exact BK224.out)) : gb228 ≠ gb224)); have n8_ := zj ((by rw [hg]; exact Nat.ne_of_lt (blk_lt (g := gb227) (o := .cells #[.bool ((bt t224 0) == 108), .slice none 0 0, .slice none 0 0, .slice none 0 0] 29 (0, 0)) (by (with_reducible repeat (first | refine za ?_ _ | refine zb ?_ | refine zc ?_ _)); refine zp (cs := #[.bool ((bt t224 0) == 108), .slice none 0 0, .slice none 0 0, .slice none 0 0]) ?_ 3 _ rfl; (with_reducible repeat (first | refine za ?_ _ | refine zb ?_ | refine zc ?_ _)); refine zp (cs := #[.bool ((bt t224 0) == 108), .slice none 0 0, .slice none 0 0, .slice none 0 0]) ?_ 2 _ rfl; (with_reducible repeat (first | refine za ?_ _ | refine zb ?_ | refine zc ?_ _)); refine zp (cs := #[.bool ((bt t224 0) == 108), .slice none 0 0, .slice none 0 0, .slice none 0 0]) ?_ 1 _ rfl; (with_reducible repeat (first | refine za ?_ _ | refine zb ?_ | refine zc ?_ _)); refine zp (cs := #[.bool false, .slice none 0 0, .slice none 0 0, .slice none 0 0]) ?_ 0 _ rfl; (with_reducible repeat (first | refine za ?_ _ | refine zb ?_ | refine zc ?_ _)); exact BK227.out)) : gb227 ≠ gb228)); have n9_ := zj ((by rw [hg]; exact Nat.ne_of_gt (blk_lt (g := gb227) (o := .cells #[.bool ((bt t224 0) == 108), .slice none 0 0, .slice none 0 0, .slice none 0 0] 29 (0, 0)) (by (with_reducible repeat (first | refine za ?_ _ | refine zb ?_ | refine zc ?_ _)); refine zp (cs := #[.bool ((bt t224 0) == 108), .slice none 0 0, .slice none 0 0, .slice none 0 0]) ?_ 3 _ rfl; (with_reducible repeat (first | refine za ?_ _ | refine zb ?_ | refine zc ?_ _)); refine zp (cs := #[.bool ((bt t224 0) == 108), .slice none 0 0, .slice none 0 0, .slice none 0 0]) ?_ 2 _ rfl; (with_reducible repeat (first | refine za ?_ _ | refine zb ?_ | refine zc ?_ _)); refine zp (cs := #[.bool ((bt t224 0) == 108), .slice none 0 0, .slice none 0 0, .slice none 0 0]) ?_ 1 _ rfl; (with_reducible repeat (first | refine za ?_ _ | refine zb ?_ | refine zc ?_ _)); refine zp (cs := #[.bool false, .slice none 0 0, .slice none 0 0, .slice none 0 0]) ?_ 0 _ rfl; (with_reducible repeat (first | refine za ?_ _ | refine zb ?_ | refine zc ?_ _)); exact BK227.out)) : gb228 ≠ gb227)); clear BK224; clear BK227; clear HB; have BK224 := n0_; have BK227 := n1_; have HB := n2_; have HI228 := n3_; have GW228 := n4_; have GE228 := n5_; have NB224_228 := n6_; have NB228_224 := n7_; have NB227_228 := n8_; have NB228_227 := n9_; clear n0_ n1_ n2_ n3_ n4_ n5_ n6_ n7_ n8_ n9_; clear hb hbox hg) | ((with_reducible refine gate_callee (f := 129) rfl ?_); refine goesL_ (some 36) rfl rfl Try.func129 (by kernel_rfl) rfl #[.pointer (some ⟨gb228, 0, none⟩), .int .i64 4] rfl (by (try simp only [List.map_toArray, List.map_cons, List.map_nil]); first | done | rfl | (simp only [List.length_drop, List.length_take]; rfl)) ?_; (with_reducible refine (impl_reader_num.calls k gb228 t224 1 false 4 t226 t227 t228 t229 w _ ?side1 ?side2 A12.out).mono ?_); (case side1 => repeat (first | (with_reducible first | exact HI228.out | apply IsS153.alloc | apply IsS153.drewN | apply IsS153.drew | apply IsS153.set_0 | apply IsS153.set_1 | apply IsS153.set_2 | apply IsS153.far (hne := NB228_224.out) | apply IsS153.far (hne := NB228_227.out)) | apply IsS153.far (hne := NB228_224.out) | apply IsS153.far (hne := NB228_227.out) | exact HI228.out)); (case side2 => repeat (first | (with_reducible first | exact HB.out | apply zg | apply zh | apply zi | refine zr ?_ (IsS153.ge HI228.out) | refine zr ?_ GE224.out | refine zr ?_ GE227.out) | exact HB.out)); rintro e w19 ⟨rfl, hi, hb, hk⟩; refine ⟨_, rfl, ?_⟩; have n0_ := zj (KeepBut.blk hk (g' := gb224) (o := .cells #[.bool false, .slice none 0 0, .slice none 0 0, .slice none 0 0] 29 (0, 0)) (by (with_reducible repeat (first | refine za ?_ _ | refine zb ?_ | refine zc ?_ _)); exact BK224.out) NB224_228.out (by simp)); have n1_ := zj (KeepBut.blk hk (g' := gb227) (o := .cells #[.bool ((bt t224 0) == 108), .slice none 0 0, .slice none 0 0, .slice none 0 0] 29 (0, 0)) (by (with_reducible repeat (first | refine za ?_ _ | refine zb ?_ | refine zc ?_ _)); exact BK227.out) NB227_228.out (by simp)); have n2_ := zj (hb); have n3_ := zj (hi); clear BK224; clear BK227; clear HB; clear HI228; have BK224 := n0_; have BK227 := n1_; have HB := n2_; have HI228 := n3_; clear n0_ n1_ n2_ n3_; (try clear hb); (try clear hb2); (try clear hk); (try clear hi)))
     go_loopg [37] k (fun kq v37 w' => ∃ (x37_1 : Int) (x228001_1 : List ByteArray) (x228002_1 : List ByteArray) (x228003_1 : List Int) (x229000_1 : ByteArray) (x229001_1 : Int) (x229002_1 : Bool) (u228001 : Value) (u228002 : Value) (u228003 : Value), v37 = .int .i64 x37_1 ∧ Aside0 (impl_ReadNode.l0 kq t224 t226 x37_1 ((bt t224 0) == 108) x228001_1 x228002_1 x228003_1 x229000_1 x229001_1 x229002_1 = some (r1, r2, r3, r4, r5)) ∧ Aside0 (kq ≤ k) ∧ Aside0 (Kd.R Kd.string 9 w' w.heap.size (fun k_ => some k_ ≠ (u228002 : Value).ownBlock) u228001 x228001_1) ∧ Aside0 (Kd.R Kd.string 9 w' w.heap.size (fun k_ => some k_ ≠ (u228001 : Value).ownBlock) u228002 x228002_1) ∧ Aside0 (Kd.R (Kd.int .i64) 3 w' w.heap.size (fun _ => True) u228003 x228003_1) ∧ Aside0 (w'.heap[gb224]? = some (.cells #[.bool false, (.slice none 0 0), (.slice none 0 0), (.slice none 0 0)] 29 (0, 0))) ∧ Aside0 (w'.heap[gb227]? = some (.cells #[.bool ((bt t224 0) == 108), u228001, u228002, u228003] 29 (0, 0))) ∧ Aside0 (IsS153 w w' gb228 x229000_1 x229001_1 x229002_1) ∧ Aside0 (Below w.heap.size w w'))
     case atStart => exact ⟨(0), (([] : List ByteArray)), (([] : List ByteArray)), (([] : List Int)), (t227), (t228), (t229), (.slice none 0 0), (.slice none 0 0), (.slice none 0 0), (by first | rfl | (simp; done) | (simp [*]; done)), H', ⟨Nat.le_refl _⟩, ⟨by first | exact Kd.R_nil _ _ _ _ _ | exact Kd.N_nil _ _ _ _ _ | exact Kd.V_nil _ _ _ _ _ | exact Kd.Q_nil _ _ _ _ _ | exact Kd.S_nil _ _ _ _ _⟩, ⟨by first | exact Kd.R_nil _ _ _ _ _ | exact Kd.N_nil _ _ _ _ _ | exact Kd.V_nil _ _ _ _ _ | exact Kd.Q_nil _ _ _ _ _ | exact Kd.S_nil _ _ _ _ _⟩, ⟨by first | exact Kd.R_nil _ _ _ _ _ | exact Kd.N_nil _ _ _ _ _ | exact Kd.V_nil _ _ _ _ _ | exact Kd.Q_nil _ _ _ _ _ | exact Kd.S_nil _ _ _ _ _⟩, ⟨by (with_reducible repeat (first | refine za ?_ _ | refine zb ?_ | refine zc ?_ _)); exact BK224.out⟩, ⟨by (with_reducible repeat (first | refine za ?_ _ | refine zb ?_ | refine zc ?_ _)); exact BK227.out⟩, ⟨by repeat (first | (with_reducible first | exact HI228.out | apply IsS153.alloc | apply IsS153.drewN | apply IsS153.drew | apply IsS153.set_0 | apply IsS153.set_1 | apply IsS153.set_2 | apply IsS153.far (hne := NB228_224.out) | apply IsS153.far (hne := NB228_227.out)) | apply IsS153.far (hne := NB228_224.out) | apply IsS153.far (hne := NB228_227.out) | exact HI228.out)⟩, ⟨by repeat (first | (with_reducible first | exact HB.out | apply zg | apply zh | apply zi | refine zr ?_ (IsS153.ge HI228.out) | refine zr ?_ GE224.out | refine zr ?_ GE227.out) | exact HB.out)⟩⟩
     case round =>
      clear H'
      try clear c1
      try clear p1
      try clear q1
      try clear hx1
      try clear qi1
      try clear p2
      try clear c3
      try clear c4
      try clear c4b0
      try clear c4b1
      try clear c5
      try clear c8
      try clear c8b0
      try clear c8b1
      try clear p9
      try clear q9
      try clear hx9
      try clear qi9
      try clear p10
      try clear q10
      try clear hx10
      try clear qi10
      try clear c11
      try clear c11b0
      try clear c11b1
      try clear c12
      try clear c16
      try clear hcz17_0
      try clear hcz17_1
      try clear hcz17_2
      try clear hcz17_3
      try clear hcz7_0
      try clear hcz7_1
      try clear hcz7_2
      try clear hcz7_3
      try clear hfz17_0
      try clear hfz17_1
      try clear hfz17_2
      try clear hfz17_3
      try clear hfz7_0
      try clear hfz7_1
      try clear hfz7_2
      try clear hfz7_3
      try clear p10
      try clear p9
      try clear q10
      try clear q9
      obtain ⟨x37_1, x228001_1, x228002_1, x228003_1, x229000_1, x229001_1, x229002_1, u228001, u228002, u228003, rfl, HA, HK1, HO_228001, HO_228002, HO_228003, BK224, BK227, HI228, HB⟩ := hrel
      cases gk with
      | zero => exact absurd HA.out (by simp [impl_ReadNode.l0])
      | succ k1 =>
       have H := HA.out
       clear HA
       simp only [impl_ReadNode.l0] at H
       by_cases c20 : x37_1 < t226
       ·rw [if_pos c20] at H
        have c20b0 : decide (x37_1 < t226) = true := decide_eq_true c20
        clear c20
        replace H := Option.bind_eq_some_iff.mp H
        obtain ⟨⟨t230, t231, t232, t233⟩, A210, H⟩ := H
        replace H : (if x228001_1.length < 8796093022208 then ((some (x228001_1 ++ [t230] : List ByteArray)).bind fun y234 => (if ((bt t224 0) == 108) = true then ((impl_reader_text.f k1 t231 t232 t233).bind fun bt237 => (if x228002_1.length < 8796093022208 then (impl_ReadNode.l0 k1 t224 t226 (wrap64 (x37_1 + 1)) ((bt t224 0) == 108) y234 (x228002_1 ++ [bt237.1]) x228003_1 bt237.2.1 bt237.2.2.1 bt237.2.2.2) else (none))) else ((impl_reader_num.f k1 t231 t232 t233 40).bind fun bt244 => (if x228003_1.length < 17592186044416 then (impl_ReadNode.l0 k1 t224 t226 (wrap64 (x37_1 + 1)) ((bt t224 0) == 108) y234 x228002_1 (x228003_1 ++ [bt244.1]) bt244.2.1 bt244.2.2.1 bt244.2.2.2) else (none))))) else (none)) = some (r1, r2, r3, r4, r5) := H
        have A21 := zj A210
        clear A210
        by_cases c22 : x228001_1.length < 8796093022208
        ·rw [if_pos c22] at H
         have LMc22 := zj c22
         clear c22
         obtain ⟨y234, hy234⟩ : ∃ y_ : List ByteArray, y_ = (x228001_1 ++ [t230]) := ⟨_, rfl⟩
         replace H : (if ((bt t224 0) == 108) = true then ((impl_reader_text.f k1 t231 t232 t233).bind fun bt237 => (if x228002_1.length < 8796093022208 then (impl_ReadNode.l0 k1 t224 t226 (wrap64 (x37_1 + 1)) ((bt t224 0) == 108) y234 (x228002_1 ++ [bt237.1]) x228003_1 bt237.2.1 bt237.2.2.1 bt237.2.2.2) else (none))) else ((impl_reader_num.f k1 t231 t232 t233 40).bind fun bt244 => (if x228003_1.length < 17592186044416 then (impl_ReadNode.l0 k1 t224 t226 (wrap64 (x37_1 + 1)) ((bt t224 0) == 108) y234 x228002_1 (x228003_1 ++ [bt244.1]) bt244.2.1 bt244.2.2.1 bt244.2.2.2) else (none)))) = some (r1, r2, r3, r4, r5) := by first | (rw [hy234]; with_reducible exact H) | (have H2_ := (Option.bind_some _ _).symm.trans H; rw [hy234]; with_reducible exact H2_) | (have H2_ := (Option.bind_some _ _).symm.trans H; with_reducible exact H2_) | with_reducible exact H | (rw [hy234]; exact H) | exact H
         have Ny234 := zj hy234
         clear hy234
         by_cases c23 : ((bt t224 0) == 108) = true
         ·rw [if_pos c23] at H
          have c23b0 : ((bt t224 0) == 108) = true := c23
          (try (have c23b1 : decide ((bt t224 0) = 108) = true := by simpa using c23))
          (try (have c23b2 : ((bt t224 0) == 108) = true := by simpa using c23))
          clear c23
          replace H := Option.bind_eq_some_iff.mp H
          obtain ⟨⟨t237, t238, t239, t240⟩, A240, H⟩ := H
          replace H : (if x228002_1.length < 8796093022208 then (impl_ReadNode.l0 k1 t224 t226 (wrap64 (x37_1 + 1)) ((bt t224 0) == 108) y234 (x228002_1 ++ [t237]) x228003_1 t238 t239 t240) else (none)) = some (r1, r2, r3, r4, r5) := H
          have A24 := zj A240
          clear A240
          by_cases c25 : x228002_1.length < 8796093022208
          ·rw [if_pos c25] at H
           have LMc25 := zj c25
           clear c25
           obtain ⟨y241, hy241⟩ : ∃ y_ : List ByteArray, y_ = (x228002_1 ++ [t237]) := ⟨_, rfl⟩
           replace H : (impl_ReadNode.l0 k1 t224 t226 (wrap64 (x37_1 + 1)) ((bt t224 0) == 108) y234 y241 x228003_1 t238 t239 t240) = some (r1, r2, r3, r4, r5) := by first | (rw [hy241]; with_reducible exact H) | (have H2_ := (Option.bind_some _ _).symm.trans H; rw [hy241]; with_reducible exact H2_) | (have H2_ := (Option.bind_some _ _).symm.trans H; with_reducible exact H2_) | with_reducible exact H | (rw [hy241]; exact H) | exact H
           have Ny241 := zj hy241
           clear hy241
           have H' := zj H
           clear H
           try go_wp2
           have n0_ := zj (zf HO_228001.out)
           have n1_ := zj (zf HO_228002.out)
           have n2_ := zj (zf HO_228003.out)
           have n3_ := zj (zb BK224.out)
           have n4_ := zj (zb BK227.out)
           have n5_ := zj (IsS153.drew HI228.out)
           have n6_ := zj (zi HB.out)
           clear HO_228001
           clear HO_228002
           clear HO_228003
           clear BK224
           clear BK227
           clear HI228
           clear HB
           have HO_228001 := n0_
           have HO_228002 := n1_
           have HO_228003 := n2_
           have BK224 := n3_
           have BK227 := n4_
           have HI228 := n5_
           have HB := n6_
           clear n0_ n1_ n2_ n3_ n4_ n5_ n6_
           refine start_ (n := 8) (S := fun w' => w'.cell? ⟨gb227, 0, none⟩ = some (.bool ((bt t224 0) == 108)) ∧ w'.cell? ⟨gb227, 1, none⟩ = some (u228001) ∧ w'.cell? ⟨gb227, 2, none⟩ = some (u228002) ∧ w'.cell? ⟨gb227, 3, none⟩ = some (u228003)) (ds := [7]) #[false, false, false, false, false, false, false, false] (by kernel_rfl) rfl rfl ⟨(zq BK227.out 0).trans rfl, (zq BK227.out 1).trans rfl, (zq BK227.out 2).trans rfl, (zq BK227.out 3).trans rfl⟩ (fun hHeld => ?_); refine with_tabW impl_ReadNode.tab8 impl_ReadNode.bits8 (fun HT_ HW_ => ?_)
           generalize wr.drew = w26 at HO_228001 HO_228002 HO_228003 BK224 BK227 HI228 HB hHeld ⊢
           refine pure_ (i := 0) (N := some 39) (v := ?_) (a' := ?_) #[true, false, false, false, false, false, false, false] rfl rfl (any_of HT_.out (by kernel_rfl)) (fun _ _ _ h => h) (Or.inl ⟨by rfl, ?_⟩) ?_ ?_
           rotate_left
           ·intro w'
            go_simp
            with_reducible rfl
           rotate_left
           ·simp only [Act.put, List.setIfInBounds_toArray, List.set_cons_zero, List.set_cons_succ, i64_w, i32_w]
            rfl
           refine pure_ (i := 2) (N := some 41) (v := ?_) (a' := ?_) #[true, false, true, false, false, false, false, false] rfl rfl (any_of HT_.out (by kernel_rfl)) (fun _ _ _ h => h) (Or.inl ⟨by rfl, ?_⟩) ?_ ?_
           rotate_left
           ·intro w'
            go_simp
            with_reducible rfl
           rotate_left
           ·simp only [Act.put, List.setIfInBounds_toArray, List.set_cons_zero, List.set_cons_succ, i64_w, i32_w]
            rfl
           refine take_ (i := 1) (N := some 40) (v := ?_) (a' := ?_) #[true, true, true, false, false, false, false, false] rfl rfl (take_ofW HT_.out HW_.out (by kernel_rfl)) (fun _ _ _ h => h) (Or.inl ⟨by rfl, ?_⟩) hHeld ?_ ?_
           rotate_left
           ·rintro w' ⟨s0, s1, s2, s3⟩
            go_simp
            with_reducible rfl
           rotate_left
           ·simp only [Act.put, List.setIfInBounds_toArray, List.set_cons_zero, List.set_cons_succ, i64_w, i32_w]
            rfl
           refine one_ (i := 3) (N := some 42) #[true, true, true, true, false, false, false, false] rfl rfl (one_of HT_.out (by kernel_rfl)) (by decide) (fun K hK => ?_)
           refine goes_ Try.func134 (by kernel_rfl) rfl #[.pointer (some ⟨gb228, 0, none⟩)] (by rfl) rfl rfl (by (try simp only [List.map_toArray, List.map_cons, List.map_nil]); first | done | rfl | (simp only [List.length_drop, List.length_take]; rfl)) ?_
           with_reducible refine (impl_reader_text.calls k1 gb228 x229000_1 x229001_1 x229002_1 t230 t231 t232 t233 w _ ?side1 ?side2 A21.out).mono ?_
           (case side1 => repeat (first | (with_reducible first | exact HI228.out | apply IsS153.alloc | apply IsS153.drewN | apply IsS153.drew | apply IsS153.set_0 | apply IsS153.set_1 | apply IsS153.set_2 | apply IsS153.far (hne := NB228_224.out) | apply IsS153.far (hne := NB228_227.out)) | apply IsS153.far (hne := NB228_224.out) | apply IsS153.far (hne := NB228_227.out) | exact HI228.out))
           (case side2 => repeat (first | (with_reducible first | exact HB.out | apply zg | apply zh | apply zi | refine zr ?_ (IsS153.ge HI228.out) | refine zr ?_ GE224.out | refine zr ?_ GE227.out) | exact HB.out))
           rintro e w27 ⟨rfl, hi, hb, hk⟩
           refine ⟨_, rfl, ?_⟩
           have n0_ := zj (zm (Kd.R_keep (IsS153.apart (show IsS153 w _ gb228 x229000_1 x229001_1 x229002_1 from by repeat (first | (with_reducible first | exact HI228.out | apply IsS153.alloc | apply IsS153.drewN | apply IsS153.drew | apply IsS153.set_0 | apply IsS153.set_1 | apply IsS153.set_2 | apply IsS153.far (hne := NB228_224.out) | apply IsS153.far (hne := NB228_227.out)) | apply IsS153.far (hne := NB228_224.out) | apply IsS153.far (hne := NB228_227.out) | exact HI228.out)) (by (with_reducible repeat (first | apply zd | apply ze | apply zf)); exact HO_228001.out) (by decide)) hk (fun _ h => h.2)) (fun _ h => h.1))
           have n1_ := zj (zm (Kd.R_keep (IsS153.apart (show IsS153 w _ gb228 x229000_1 x229001_1 x229002_1 from by repeat (first | (with_reducible first | exact HI228.out | apply IsS153.alloc | apply IsS153.drewN | apply IsS153.drew | apply IsS153.set_0 | apply IsS153.set_1 | apply IsS153.set_2 | apply IsS153.far (hne := NB228_224.out) | apply IsS153.far (hne := NB228_227.out)) | apply IsS153.far (hne := NB228_224.out) | apply IsS153.far (hne := NB228_227.out) | exact HI228.out)) (by (with_reducible repeat (first | apply zd | apply ze | apply zf)); exact HO_228002.out) (by decide)) hk (fun _ h => h.2)) (fun _ h => h.1))
           have n2_ := zj (zm (Kd.R_keep (IsS153.apart (show IsS153 w _ gb228 x229000_1 x229001_1 x229002_1 from by repeat (first | (with_reducible first | exact HI228.out | apply IsS153.alloc | apply IsS153.drewN | apply IsS153.drew | apply IsS153.set_0 | apply IsS153.set_1 | apply IsS153.set_2 | apply IsS153.far (hne := NB228_224.out) | apply IsS153.far (hne := NB228_227.out)) | apply IsS153.far (hne := NB228_224.out) | apply IsS153.far (hne := NB228_227.out) | exact HI228.out)) (by (with_reducible repeat (first | apply zd | apply ze | apply zf)); exact HO_228003.out) (by decide)) hk (fun _ h => h.2)) (fun _ h => h.1))
           have n3_ := zj (KeepBut.blk hk (g' := gb224) (o := .cells #[.bool false, .slice none 0 0, .slice none 0 0, .slice none 0 0] 29 (0, 0)) (by (with_reducible repeat (first | refine za ?_ _ | refine zb ?_ | refine zc ?_ _)); exact BK224.out) NB224_228.out (by simp))
           have n4_ := zj (KeepBut.blk hk (g' := gb227) (o := .cells #[.bool ((bt t224 0) == 108), u228001, u228002, u228003] 29 (0, 0)) (by (with_reducible repeat (first | refine za ?_ _ | refine zb ?_ | refine zc ?_ _)); exact BK227.out) NB227_228.out (by simp))
           have n5_ := zj (hb)
           have n6_ := zj (hi)
           clear HO_228001
           clear HO_228002
           clear HO_228003
           clear BK224
           clear BK227
           clear HB
           clear HI228
           have HO_228001 := n0_
           have HO_228002 := n1_
           have HO_228003 := n2_
           have BK224 := n3_
           have BK227 := n4_
           have HB := n5_
           have HI228 := n6_
           clear n0_ n1_ n2_ n3_ n4_ n5_ n6_
           (try clear hb)
           (try clear hb2)
           (try clear hk)
           (try clear hi)
           refine hK.out _ _ ⟨(zq BK227.out 0).trans rfl, (zq BK227.out 1).trans rfl, (zq BK227.out 2).trans rfl, (zq BK227.out 3).trans rfl⟩ (fun hHeld => ?_)
           clear hK K
           refine norm_ (a' := ?_) ?_ ?_
           rotate_left
           ·show Act.put _ (some 42) _ = _
            simp only [Act.put, List.setIfInBounds_toArray, List.set_cons_zero, List.set_cons_succ, i64_w, i32_w]
            rfl
           refine one_ (i := 4) (N := some 43) #[true, true, true, true, true, false, false, false] rfl rfl (one_of HT_.out (by kernel_rfl)) (by decide) (fun K hK => ?_)
           refine value_ (w1 := ?_) (v := ?_) (by rfl) rfl ?_ ?_
           rotate_left 2
           ·go_simp
            constructor
            ·rfl
            ·rfl
           refine hK.out _ _ ⟨(zq (zc BK227.out _) 0).trans rfl, (zq (zc BK227.out _) 1).trans rfl, (zq (zc BK227.out _) 2).trans rfl, (zq (zc BK227.out _) 3).trans rfl⟩ (fun hHeld => ?_)
           clear hK K
           refine norm_ (a' := ?_) ?_ ?_
           rotate_left
           ·show Act.put _ (some 43) _ = _
            simp only [Act.put, List.setIfInBounds_toArray, List.set_cons_zero, List.set_cons_succ, i64_w, i32_w]
            rfl
           refine one_ (i := 5) (N := some 44) #[true, true, true, true, true, true, false, false] rfl rfl (one_of HT_.out (by kernel_rfl)) (by decide) (fun K hK => ?_)
           refine Kd.R_append_step Kd.string (w0 := w) w.heap.size (by rfl) (.tmp 40) (.tmp 43) 22 9 (.string ⟨#[]⟩) 16 rfl Try.underlying22 info9 rfl (by decide) (by omega) u228001 x228001_1 t230 [.string t230] (fun k_ => some k_ ≠ (u228002 : Value).ownBlock) (fun _ => False) rfl rfl ?aP (fun _ hk => hk.elim) ?aF ?aO ?aB ?aS ?aL ?_
           (case aP => exact rfl)
           (case aB => exact (by repeat (first | (with_reducible first | exact HB.out | apply zg | apply zh | apply zi | refine zr ?_ (IsS153.ge HI228.out) | refine zr ?_ GE224.out | refine zr ?_ GE227.out) | exact HB.out)))
           (case aF => exact (fun k_ hk => Kd.fresh' (Kd.R_lt (by (with_reducible repeat (first | apply zd | apply ze | apply zf)); exact HO_228002.out)) k_ hk))
           (case aO => exact (by (with_reducible repeat (first | apply zd | apply ze | apply zf)); exact HO_228001.out))
           (case aS => exact (zk (by repeat (first | (with_reducible first | exact HB.out | apply zg | apply zh | apply zi | refine zr ?_ (IsS153.ge HI228.out) | refine zr ?_ GE224.out | refine zr ?_ GE227.out) | exact HB.out))))
           (case aL => have := LMc22.out; omega)
           intro v235 w28 ho hb hg hat
           rw [← Ny234.out] at ho
           have n0_ := zj (Kd.R_after (ok := (fun _ => True)) (by (with_reducible repeat (first | apply zd | apply ze | apply zf)); exact zm HO_228002.out (fun _ hk => ⟨trivial, hk⟩)) hg hat)
           have n1_ := zj (Kd.R_over' (by (with_reducible repeat (first | apply zd | apply ze | apply zf)); exact HO_228003.out) (Kd.R_typed (by (with_reducible repeat (first | apply zd | apply ze | apply zf)); exact HO_228001.out)) (by decide) hg)
           have n2_ := zj (blk_grown (g := gb224) (o := .cells #[.bool false, .slice none 0 0, .slice none 0 0, .slice none 0 0] 29 (0, 0)) (by (with_reducible repeat (first | refine za ?_ _ | refine zb ?_ | refine zc ?_ _)); exact BK224.out) hg (Kd.R_ne HO_228001.out BK224.out (by decide)))
           have n3_ := zj (blk_grown (g := gb227) (o := .cells #[.bool ((bt t224 0) == 108), u228001, u228002, u228003] 29 (0, 0)) (by (with_reducible repeat (first | refine za ?_ _ | refine zb ?_ | refine zc ?_ _)); exact BK227.out) hg (Kd.R_ne HO_228001.out BK227.out (by decide)))
           have n4_ := zj (IsS153.grown (by repeat (first | (with_reducible first | exact HI228.out | apply IsS153.alloc | apply IsS153.drewN | apply IsS153.drew | apply IsS153.set_0 | apply IsS153.set_1 | apply IsS153.set_2 | apply IsS153.far (hne := NB228_224.out) | apply IsS153.far (hne := NB228_227.out)) | apply IsS153.far (hne := NB228_224.out) | apply IsS153.far (hne := NB228_227.out) | exact HI228.out)) hg (IsS153.own_ne HI228.out HO_228001.out (by decide)))
           have n5_ := zj (hb)
           have n6_ := zj (ho)
           clear HO_228002
           clear HO_228003
           clear BK224
           clear BK227
           clear HI228
           clear HB
           clear HO_228001
           have HO_228002 := n0_
           have HO_228003 := n1_
           have BK224 := n2_
           have BK227 := n3_
           have HI228 := n4_
           have HB := n5_
           have HO236 := n6_
           clear n0_ n1_ n2_ n3_ n4_ n5_ n6_
           clear ho hb hg hat
           obtain ⟨Ao29, co29, eo29⟩ := Kd.R_slice HO236.out
           (first | subst eo29 | (injection eo29 with f1_ f2_ f3_; have f4_ := f1_.symm; have f5_ := f3_.symm; clear f1_ f2_ f3_; subst f4_; subst f5_))
           refine hK.out _ _ ⟨(zq BK227.out 0).trans rfl, (zq BK227.out 1).trans rfl, (zq BK227.out 2).trans rfl, (zq BK227.out 3).trans rfl⟩ (fun hHeld => ?_)
           clear hK K
           refine norm_ (a' := ?_) ?_ ?_
           rotate_left
           ·show Act.put _ (some 44) _ = _
            simp only [Act.put, List.setIfInBounds_toArray, List.set_cons_zero, List.set_cons_succ, i64_w, i32_w]
            rfl
           refine pure_ (i := 6) (N := some 45) (v := ?_) (a' := ?_) #[true, true, true, true, true, true, true, false] rfl rfl (any_of HT_.out (by kernel_rfl)) (fun _ _ _ h => h) (Or.inl ⟨by rfl, ?_⟩) ?_ ?_
           rotate_left
           ·intro w'
            go_simp
            with_reducible rfl
           rotate_left
           ·simp only [Act.put, List.setIfInBounds_toArray, List.set_cons_zero, List.set_cons_succ, i64_w, i32_w]
            rfl
           refine last_ (i := 7) (N := none) #[true, true, true, true, true, true, true, true] rfl rfl (one_of HT_.out (by kernel_rfl)) (by decide) (fun K hK => ?_)
           have hs30 : w28.cell? ⟨gb227, 1, none⟩ = some (u228001) := (zq BK227.out 1).trans rfl
           have hfs30 := zu BK227.out 1
           have hns30_0 := NB224_227.out
           have hms30_0 := NB227_224.out
           refine skip_ (w1 := ?_) (by rfl) rfl ?_ ?_
           rotate_left
           ·go_simp
            rfl
           refine hK.out _ _ ?_
           clear hK K
           refine done_ (done_of HT_.out (by kernel_rfl)) ?_
           have hnb31 := NB227_224.out
           have hnc31 := NB224_227.out
           have hnb32 := NB227_228.out
           have hnc32 := NB228_227.out
           have hcz33_0 : w28.cell? ⟨gb227, 0, none⟩ = some (.bool ((bt t224 0) == 108)) := (zq BK227.out 0).trans rfl
           have hcz33_1 : w28.cell? ⟨gb227, 1, none⟩ = some (u228001) := (zq BK227.out 1).trans rfl
           have hcz33_2 : w28.cell? ⟨gb227, 2, none⟩ = some (u228002) := (zq BK227.out 2).trans rfl
           have hcz33_3 : w28.cell? ⟨gb227, 3, none⟩ = some (u228003) := (zq BK227.out 3).trans rfl
           have hfz33_0 := zu BK227.out 0
           have hfz33_1 := zu BK227.out 1
           have hfz33_2 := zu BK227.out 2
           have hfz33_3 := zu BK227.out 3
           try go_wp2
           have n0_ : Aside0 (Kd.R Kd.string 9 (w28.setCell ⟨gb227, 1, none⟩ (.slice Ao29 y234.length co29)) w.heap.size (fun k_ => some k_ ≠ (.slice Ao29 y234.length co29 : Value).ownBlock) u228002 x228002_1) := ⟨by (with_reducible repeat (first | apply zd | apply ze | apply zf)); exact zm (zn (p := ⟨gb227, 1, none⟩) (zt HO_228002.out BK227.out (by decide)) (fun _ hk => hk.2) (.slice Ao29 y234.length co29)) (fun _ hk => hk.1.2)⟩
           have n1_ : Aside0 (Kd.R (Kd.int .i64) 3 (w28.setCell ⟨gb227, 1, none⟩ (.slice Ao29 y234.length co29)) w.heap.size (fun _ => True) u228003 x228003_1) := ⟨by (with_reducible repeat (first | apply zd | apply ze | apply zf)); exact zm (zn (p := ⟨gb227, 1, none⟩) (zt HO_228003.out BK227.out (by decide)) (fun _ hk => hk.2) (.slice Ao29 y234.length co29)) (fun _ hk => trivial)⟩
           have n2_ : Aside0 (Kd.R Kd.string 9 (w28.setCell ⟨gb227, 1, none⟩ (.slice Ao29 y234.length co29)) w.heap.size (fun k_ => some k_ ≠ (u228002 : Value).ownBlock) (.slice Ao29 y234.length co29) y234) := ⟨by (with_reducible repeat (first | apply zd | apply ze | apply zf)); exact zm (zn (p := ⟨gb227, 1, none⟩) (zt HO236.out BK227.out (by decide)) (fun _ hk => hk.2) (.slice Ao29 y234.length co29)) (fun _ hk => hk.1)⟩
           have n3_ : Aside0 ((w28.setCell ⟨gb227, 1, none⟩ (.slice Ao29 y234.length co29)).heap[gb224]? = some (.cells #[.bool false, .slice none 0 0, .slice none 0 0, .slice none 0 0] 29 (0, 0))) := ⟨by (with_reducible repeat (first | refine za ?_ _ | refine zb ?_ | refine zc ?_ _)); refine blk_far ?_ NB224_227.out _; (with_reducible repeat (first | refine za ?_ _ | refine zb ?_ | refine zc ?_ _)); exact BK224.out⟩
           have n4_ : Aside0 ((w28.setCell ⟨gb227, 1, none⟩ (.slice Ao29 y234.length co29)).heap[gb227]? = some (.cells #[.bool ((bt t224 0) == 108), .slice Ao29 y234.length co29, u228002, u228003] 29 (0, 0))) := ⟨by (with_reducible repeat (first | refine za ?_ _ | refine zb ?_ | refine zc ?_ _)); refine zp (cs := #[.bool ((bt t224 0) == 108), u228001, u228002, u228003]) ?_ 1 _ rfl; (with_reducible repeat (first | refine za ?_ _ | refine zb ?_ | refine zc ?_ _)); exact BK227.out⟩
           have n5_ : Aside0 (IsS153 w (w28.setCell ⟨gb227, 1, none⟩ (.slice Ao29 y234.length co29)) gb228 t231 t232 t233) := ⟨by repeat (first | (with_reducible first | exact HI228.out | apply IsS153.alloc | apply IsS153.drewN | apply IsS153.drew | apply IsS153.set_0 | apply IsS153.set_1 | apply IsS153.set_2 | apply IsS153.far (hne := NB228_224.out) | apply IsS153.far (hne := NB228_227.out)) | apply IsS153.far (hne := NB228_224.out) | apply IsS153.far (hne := NB228_227.out) | exact HI228.out)⟩
           have n6_ : Aside0 (Below w.heap.size w (w28.setCell ⟨gb227, 1, none⟩ (.slice Ao29 y234.length co29))) := ⟨by repeat (first | (with_reducible first | exact HB.out | apply zg | apply zh | apply zi | refine zr ?_ (IsS153.ge HI228.out) | refine zr ?_ GE224.out | refine zr ?_ GE227.out) | exact HB.out)⟩
           (try clear HO_228002)
           (try clear HO_228003)
           (try clear HO236)
           (try clear BK224)
           (try clear BK227)
           (try clear HI228)
           (try clear HB)
           generalize (w28.setCell ⟨gb227, 1, none⟩ (.slice Ao29 y234.length co29)) = w34 at n0_ n1_ n2_ n3_ n4_ n5_ n6_ ⊢
           have HO_228002 := n0_
           have HO_228003 := n1_
           have HO236 := n2_
           have BK224 := n3_
           have BK227 := n4_
           have HI228 := n5_
           have HB := n6_
           clear n0_ n1_ n2_ n3_ n4_ n5_ n6_
           have n0_ := zj (zf HO_228002.out)
           have n1_ := zj (zf HO_228003.out)
           have n2_ := zj (zf HO236.out)
           have n3_ := zj (zb BK224.out)
           have n4_ := zj (zb BK227.out)
           have n5_ := zj (IsS153.drew HI228.out)
           have n6_ := zj (zi HB.out)
           clear HO_228002
           clear HO_228003
           clear HO236
           clear BK224
           clear BK227
           clear HI228
           clear HB
           have HO_228002 := n0_
           have HO_228003 := n1_
           have HO236 := n2_
           have BK224 := n3_
           have BK227 := n4_
           have HI228 := n5_
           have HB := n6_
           clear n0_ n1_ n2_ n3_ n4_ n5_ n6_
           refine start_ (n := 8) (S := fun w' => w'.cell? ⟨gb227, 0, none⟩ = some (.bool ((bt t224 0) == 108)) ∧ w'.cell? ⟨gb227, 1, none⟩ = some (.slice Ao29 y234.length co29) ∧ w'.cell? ⟨gb227, 2, none⟩ = some (u228002) ∧ w'.cell? ⟨gb227, 3, none⟩ = some (u228003)) (ds := [7]) #[false, false, false, false, false, false, false, false] (by kernel_rfl) rfl rfl ⟨(zq BK227.out 0).trans rfl, (zq BK227.out 1).trans rfl, (zq BK227.out 2).trans rfl, (zq BK227.out 3).trans rfl⟩ (fun hHeld => ?_); refine with_tabW impl_ReadNode.tab10 impl_ReadNode.bits10 (fun HT_ HW_ => ?_)
           generalize w34.drew = w35 at HO_228002 HO_228003 HO236 BK224 BK227 HI228 HB hHeld ⊢
           refine pure_ (i := 0) (N := some 48) (v := ?_) (a' := ?_) #[true, false, false, false, false, false, false, false] rfl rfl (any_of HT_.out (by kernel_rfl)) (fun _ _ _ h => h) (Or.inl ⟨by rfl, ?_⟩) ?_ ?_
           rotate_left
           ·intro w'
            go_simp
            with_reducible rfl
           rotate_left
           ·simp only [Act.put, List.setIfInBounds_toArray, List.set_cons_zero, List.set_cons_succ, i64_w, i32_w]
            rfl
           refine pure_ (i := 2) (N := some 50) (v := ?_) (a' := ?_) #[true, false, true, false, false, false, false, false] rfl rfl (any_of HT_.out (by kernel_rfl)) (fun _ _ _ h => h) (Or.inl ⟨by rfl, ?_⟩) ?_ ?_
           rotate_left
           ·intro w'
            go_simp
            with_reducible rfl
           rotate_left
           ·simp only [Act.put, List.setIfInBounds_toArray, List.set_cons_zero, List.set_cons_succ, i64_w, i32_w]
            rfl
           refine take_ (i := 1) (N := some 49) (v := ?_) (a' := ?_) #[true, true, true, false, false, false, false, false] rfl rfl (take_ofW HT_.out HW_.out (by kernel_rfl)) (fun _ _ _ h => h) (Or.inl ⟨by rfl, ?_⟩) hHeld ?_ ?_
           rotate_left
           ·rintro w' ⟨s0, s1, s2, s3⟩
            go_simp
            with_reducible rfl
           rotate_left
           ·simp only [Act.put, List.setIfInBounds_toArray, List.set_cons_zero, List.set_cons_succ, i64_w, i32_w]
            rfl
           refine one_ (i := 3) (N := some 51) #[true, true, true, true, false, false, false, false] rfl rfl (one_of HT_.out (by kernel_rfl)) (by decide) (fun K hK => ?_)
           refine goes_ Try.func134 (by kernel_rfl) rfl #[.pointer (some ⟨gb228, 0, none⟩)] (by rfl) rfl rfl (by (try simp only [List.map_toArray, List.map_cons, List.map_nil]); first | done | rfl | (simp only [List.length_drop, List.length_take]; rfl)) ?_
           with_reducible refine (impl_reader_text.calls k1 gb228 t231 t232 t233 t237 t238 t239 t240 w _ ?side1 ?side2 A24.out).mono ?_
           (case side1 => repeat (first | (with_reducible first | exact HI228.out | apply IsS153.alloc | apply IsS153.drewN | apply IsS153.drew | apply IsS153.set_0 | apply IsS153.set_1 | apply IsS153.set_2 | apply IsS153.far (hne := NB228_224.out) | apply IsS153.far (hne := NB228_227.out)) | apply IsS153.far (hne := NB228_224.out) | apply IsS153.far (hne := NB228_227.out) | exact HI228.out))
           (case side2 => repeat (first | (with_reducible first | exact HB.out | apply zg | apply zh | apply zi | refine zr ?_ (IsS153.ge HI228.out) | refine zr ?_ GE224.out | refine zr ?_ GE227.out) | exact HB.out))
           rintro e w36 ⟨rfl, hi, hb, hk⟩
           refine ⟨_, rfl, ?_⟩
           have n0_ := zj (zm (Kd.R_keep (IsS153.apart (show IsS153 w _ gb228 t231 t232 t233 from by repeat (first | (with_reducible first | exact HI228.out | apply IsS153.alloc | apply IsS153.drewN | apply IsS153.drew | apply IsS153.set_0 | apply IsS153.set_1 | apply IsS153.set_2 | apply IsS153.far (hne := NB228_224.out) | apply IsS153.far (hne := NB228_227.out)) | apply IsS153.far (hne := NB228_224.out) | apply IsS153.far (hne := NB228_227.out) | exact HI228.out)) (by (with_reducible repeat (first | apply zd | apply ze | apply zf)); exact HO_228002.out) (by decide)) hk (fun _ h => h.2)) (fun _ h => h.1))
           have n1_ := zj (zm (Kd.R_keep (IsS153.apart (show IsS153 w _ gb228 t231 t232 t233 from by repeat (first | (with_reducible first | exact HI228.out | apply IsS153.alloc | apply IsS153.drewN | apply IsS153.drew | apply IsS153.set_0 | apply IsS153.set_1 | apply IsS153.set_2 | apply IsS153.far (hne := NB228_224.out) | apply IsS153.far (hne := NB228_227.out)) | apply IsS153.far (hne := NB228_224.out) | apply IsS153.far (hne := NB228_227.out) | exact HI228.out)) (by (with_reducible repeat (first | apply zd | apply ze | apply zf)); exact HO_228003.out) (by decide)) hk (fun _ h => h.2)) (fun _ h => h.1))
           have n2_ := zj (KeepBut.blk hk (g' := gb224) (o := .cells #[.bool false, .slice none 0 0, .slice none 0 0, .slice none 0 0] 29 (0, 0)) (by (with_reducible repeat (first | refine za ?_ _ | refine zb ?_ | refine zc ?_ _)); exact BK224.out) NB224_228.out (by simp))
           have n3_ := zj (KeepBut.blk hk (g' := gb227) (o := .cells #[.bool ((bt t224 0) == 108), .slice Ao29 y234.length co29, u228002, u228003] 29 (0, 0)) (by (with_reducible repeat (first | refine za ?_ _ | refine zb ?_ | refine zc ?_ _)); exact BK227.out) NB227_228.out (by simp))
           have n4_ := zj (zm (Kd.R_keep (IsS153.apart (show IsS153 w _ gb228 t231 t232 t233 from by repeat (first | (with_reducible first | exact HI228.out | apply IsS153.alloc | apply IsS153.drewN | apply IsS153.drew | apply IsS153.set_0 | apply IsS153.set_1 | apply IsS153.set_2 | apply IsS153.far (hne := NB228_224.out) | apply IsS153.far (hne := NB228_227.out)) | apply IsS153.far (hne := NB228_224.out) | apply IsS153.far (hne := NB228_227.out) | exact HI228.out)) (by (with_reducible repeat (first | apply zd | apply ze | apply zf)); exact HO236.out) (by decide)) hk (fun _ h => h.2)) (fun _ h => h.1))
           have n5_ := zj (hb)
           have n6_ := zj (hi)
           clear HO_228002
           clear HO_228003
           clear BK224
           clear BK227
           clear HO236
           clear HB
           clear HI228
           have HO_228002 := n0_
           have HO_228003 := n1_
           have BK224 := n2_
           have BK227 := n3_
           have HO236 := n4_
           have HB := n5_
           have HI228 := n6_
           clear n0_ n1_ n2_ n3_ n4_ n5_ n6_
           (try clear hb)
           (try clear hb2)
           (try clear hk)
           (try clear hi)
           refine hK.out _ _ ⟨(zq BK227.out 0).trans rfl, (zq BK227.out 1).trans rfl, (zq BK227.out 2).trans rfl, (zq BK227.out 3).trans rfl⟩ (fun hHeld => ?_)
           clear hK K
           refine norm_ (a' := ?_) ?_ ?_
           rotate_left
           ·show Act.put _ (some 51) _ = _
            simp only [Act.put, List.setIfInBounds_toArray, List.set_cons_zero, List.set_cons_succ, i64_w, i32_w]
            rfl
           refine one_ (i := 4) (N := some 52) #[true, true, true, true, true, false, false, false] rfl rfl (one_of HT_.out (by kernel_rfl)) (by decide) (fun K hK => ?_)
           refine value_ (w1 := ?_) (v := ?_) (by rfl) rfl ?_ ?_
           rotate_left 2
           ·go_simp
            constructor
            ·rfl
            ·rfl
           refine hK.out _ _ ⟨(zq (zc BK227.out _) 0).trans rfl, (zq (zc BK227.out _) 1).trans rfl, (zq (zc BK227.out _) 2).trans rfl, (zq (zc BK227.out _) 3).trans rfl⟩ (fun hHeld => ?_)
           clear hK K
           refine norm_ (a' := ?_) ?_ ?_
           rotate_left
           ·show Act.put _ (some 52) _ = _
            simp only [Act.put, List.setIfInBounds_toArray, List.set_cons_zero, List.set_cons_succ, i64_w, i32_w]
            rfl
           refine one_ (i := 5) (N := some 53) #[true, true, true, true, true, true, false, false] rfl rfl (one_of HT_.out (by kernel_rfl)) (by decide) (fun K hK => ?_)
           refine Kd.R_append_step Kd.string (w0 := w) w.heap.size (by rfl) (.tmp 49) (.tmp 52) 22 9 (.string ⟨#[]⟩) 16 rfl Try.underlying22 info9 rfl (by decide) (by omega) u228002 x228002_1 t237 [.string t237] (fun k_ => some k_ ≠ (.slice Ao29 y234.length co29 : Value).ownBlock) (fun _ => False) rfl rfl ?aP (fun _ hk => hk.elim) ?aF ?aO ?aB ?aS ?aL ?_
           (case aP => exact rfl)
           (case aB => exact (by repeat (first | (with_reducible first | exact HB.out | apply zg | apply zh | apply zi | refine zr ?_ (IsS153.ge HI228.out) | refine zr ?_ GE224.out | refine zr ?_ GE227.out) | exact HB.out)))
           (case aF => exact (fun k_ hk => Kd.fresh' (Kd.R_lt (by (with_reducible repeat (first | apply zd | apply ze | apply zf)); exact HO236.out)) k_ hk))
           (case aO => exact (by (with_reducible repeat (first | apply zd | apply ze | apply zf)); exact HO_228002.out))
           (case aS => exact (zk (by repeat (first | (with_reducible first | exact HB.out | apply zg | apply zh | apply zi | refine zr ?_ (IsS153.ge HI228.out) | refine zr ?_ GE224.out | refine zr ?_ GE227.out) | exact HB.out))))
           (case aL => have := LMc25.out; omega)
           intro v242 w37 ho hb hg hat
           rw [← Ny241.out] at ho
           have n0_ := zj (Kd.R_over' (by (with_reducible repeat (first | apply zd | apply ze | apply zf)); exact HO_228003.out) (Kd.R_typed (by (with_reducible repeat (first | apply zd | apply ze | apply zf)); exact HO_228002.out)) (by decide) hg)
           have n1_ := zj (blk_grown (g := gb224) (o := .cells #[.bool false, .slice none 0 0, .slice none 0 0, .slice none 0 0] 29 (0, 0)) (by (with_reducible repeat (first | refine za ?_ _ | refine zb ?_ | refine zc ?_ _)); exact BK224.out) hg (Kd.R_ne HO_228002.out BK224.out (by decide)))
           have n2_ := zj (blk_grown (g := gb227) (o := .cells #[.bool ((bt t224 0) == 108), .slice Ao29 y234.length co29, u228002, u228003] 29 (0, 0)) (by (with_reducible repeat (first | refine za ?_ _ | refine zb ?_ | refine zc ?_ _)); exact BK227.out) hg (Kd.R_ne HO_228002.out BK227.out (by decide)))
           have n3_ := zj (IsS153.grown (by repeat (first | (with_reducible first | exact HI228.out | apply IsS153.alloc | apply IsS153.drewN | apply IsS153.drew | apply IsS153.set_0 | apply IsS153.set_1 | apply IsS153.set_2 | apply IsS153.far (hne := NB228_224.out) | apply IsS153.far (hne := NB228_227.out)) | apply IsS153.far (hne := NB228_224.out) | apply IsS153.far (hne := NB228_227.out) | exact HI228.out)) hg (IsS153.own_ne HI228.out HO_228002.out (by decide)))
           have n4_ := zj (Kd.R_after (ok := (fun _ => True)) (by (with_reducible repeat (first | apply zd | apply ze | apply zf)); exact zm HO236.out (fun _ hk => ⟨trivial, hk⟩)) hg hat)
           have n5_ := zj (hb)
           have n6_ := zj (ho)
           clear HO_228003
           clear BK224
           clear BK227
           clear HI228
           clear HO236
           clear HB
           clear HO_228002
           have HO_228003 := n0_
           have BK224 := n1_
           have BK227 := n2_
           have HI228 := n3_
           have HO236 := n4_
           have HB := n5_
           have HO243 := n6_
           clear n0_ n1_ n2_ n3_ n4_ n5_ n6_
           clear ho hb hg hat
           obtain ⟨Ao38, co38, eo38⟩ := Kd.R_slice HO243.out
           (first | subst eo38 | (injection eo38 with f1_ f2_ f3_; have f4_ := f1_.symm; have f5_ := f3_.symm; clear f1_ f2_ f3_; subst f4_; subst f5_))
           refine hK.out _ _ ⟨(zq BK227.out 0).trans rfl, (zq BK227.out 1).trans rfl, (zq BK227.out 2).trans rfl, (zq BK227.out 3).trans rfl⟩ (fun hHeld => ?_)
           clear hK K
           refine norm_ (a' := ?_) ?_ ?_
           rotate_left
           ·show Act.put _ (some 53) _ = _
            simp only [Act.put, List.setIfInBounds_toArray, List.set_cons_zero, List.set_cons_succ, i64_w, i32_w]
            rfl
           refine pure_ (i := 6) (N := some 54) (v := ?_) (a' := ?_) #[true, true, true, true, true, true, true, false] rfl rfl (any_of HT_.out (by kernel_rfl)) (fun _ _ _ h => h) (Or.inl ⟨by rfl, ?_⟩) ?_ ?_
           rotate_left
           ·intro w'
            go_simp
            with_reducible rfl
           rotate_left
           ·simp only [Act.put, List.setIfInBounds_toArray, List.set_cons_zero, List.set_cons_succ, i64_w, i32_w]
            rfl
           refine last_ (i := 7) (N := none) #[true, true, true, true, true, true, true, true] rfl rfl (one_of HT_.out (by kernel_rfl)) (by decide) (fun K hK => ?_)
           have hs39 : w37.cell? ⟨gb227, 2, none⟩ = some (u228002) := (zq BK227.out 2).trans rfl
           have hfs39 := zu BK227.out 2
           have hns39_0 := NB224_227.out
           have hms39_0 := NB227_224.out
           refine skip_ (w1 := ?_) (by rfl) rfl ?_ ?_
           rotate_left
           ·go_simp
            rfl
           refine hK.out _ _ ?_
           clear hK K
           refine done_ (done_of HT_.out (by kernel_rfl)) ?_
           try go_wp2
           go_roundg k1
           case measure => have := HK1.out; omega
           case rel => exact ⟨(wrap64 (x37_1 + 1)), (y234), (y241), (x228003_1), (t238), (t239), (t240), (.slice Ao29 y234.length co29), (.slice Ao38 y241.length co38), (u228003), (by first | rfl | (simp; done) | (simp [*]; done)), H', ⟨by have := HK1.out; omega⟩, ⟨by (with_reducible repeat (first | apply zd | apply ze | apply zf)); exact zm (zn (p := ⟨gb227, 2, none⟩) (zt HO236.out BK227.out (by decide)) (fun _ hk => hk.2) (.slice Ao38 y241.length co38)) (fun _ hk => hk.1.2)⟩, ⟨by (with_reducible repeat (first | apply zd | apply ze | apply zf)); exact zm (zn (p := ⟨gb227, 2, none⟩) (zt HO243.out BK227.out (by decide)) (fun _ hk => hk.2) (.slice Ao38 y241.length co38)) (fun _ hk => hk.1)⟩, ⟨by (with_reducible repeat (first | apply zd | apply ze | apply zf)); exact zm (zn (p := ⟨gb227, 2, none⟩) (zt HO_228003.out BK227.out (by decide)) (fun _ hk => hk.2) (.slice Ao38 y241.length co38)) (fun _ hk => trivial)⟩, ⟨by (with_reducible repeat (first | refine za ?_ _ | refine zb ?_ | refine zc ?_ _)); refine blk_far ?_ NB224_227.out _; (with_reducible repeat (first | refine za ?_ _ | refine zb ?_ | refine zc ?_ _)); exact BK224.out⟩, ⟨by (with_reducible repeat (first | refine za ?_ _ | refine zb ?_ | refine zc ?_ _)); refine zp (cs := #[.bool ((bt t224 0) == 108), .slice Ao29 y234.length co29, u228002, u228003]) ?_ 2 _ rfl; (with_reducible repeat (first | refine za ?_ _ | refine zb ?_ | refine zc ?_ _)); exact BK227.out⟩, ⟨by repeat (first | (with_reducible first | exact HI228.out | apply IsS153.alloc | apply IsS153.drewN | apply IsS153.drew | apply IsS153.set_0 | apply IsS153.set_1 | apply IsS153.set_2 | apply IsS153.far (hne := NB228_224.out) | apply IsS153.far (hne := NB228_227.out)) | apply IsS153.far (hne := NB228_224.out) | apply IsS153.far (hne := NB228_227.out) | exact HI228.out)⟩, ⟨by repeat (first | (with_reducible first | exact HB.out | apply zg | apply zh | apply zi | refine zr ?_ (IsS153.ge HI228.out) | refine zr ?_ GE224.out | refine zr ?_ GE227.out) | exact HB.out)⟩⟩
          ·rw [if_neg c25] at H
           exact absurd H (by simp)
         ·rw [if_neg c23] at H
          have c23b0 : ((bt t224 0) == 108) = false := by simpa using c23
          (try (have c23b1 : decide ((bt t224 0) = 108) = false := by simpa using c23))
          (try (have c23b2 : ((bt t224 0) == 108) = false := by simpa using c23))
          (try (have c23b3 : ¬ ((bt t224 0) = 108) := by simpa using c23))
          clear c23
          replace H := Option.bind_eq_some_iff.mp H
          obtain ⟨⟨t244, t245, t246, t247⟩, A400, H⟩ := H
          replace H : (if x228003_1.length < 17592186044416 then (impl_ReadNode.l0 k1 t224 t226 (wrap64 (x37_1 + 1)) ((bt t224 0) == 108) y234 x228002_1 (x228003_1 ++ [t244]) t245 t246 t247) else (none)) = some (r1, r2, r3, r4, r5) := H
          have A40 := zj A400
          clear A400
          by_cases c41 : x228003_1.length < 17592186044416
          ·rw [if_pos c41] at H
           have LMc41 := zj c41
           clear c41
           obtain ⟨y248, hy248⟩ : ∃ y_ : List Int, y_ = (x228003_1 ++ [t244]) := ⟨_, rfl⟩
           replace H : (impl_ReadNode.l0 k1 t224 t226 (wrap64 (x37_1 + 1)) ((bt t224 0) == 108) y234 x228002_1 y248 t245 t246 t247) = some (r1, r2, r3, r4, r5) := by first | (rw [hy248]; with_reducible exact H) | (have H2_ := (Option.bind_some _ _).symm.trans H; rw [hy248]; with_reducible exact H2_) | (have H2_ := (Option.bind_some _ _).symm.trans H; with_reducible exact H2_) | with_reducible exact H | (rw [hy248]; exact H) | exact H
           have Ny248 := zj hy248
           clear hy248
           have H' := zj H
           clear H
           try go_wp2
           have n0_ := zj (zf HO_228001.out)
           have n1_ := zj (zf HO_228002.out)
           have n2_ := zj (zf HO_228003.out)
           have n3_ := zj (zb BK224.out)
           have n4_ := zj (zb BK227.out)
           have n5_ := zj (IsS153.drew HI228.out)
           have n6_ := zj (zi HB.out)
           clear HO_228001
           clear HO_228002
           clear HO_228003
           clear BK224
           clear BK227
           clear HI228
           clear HB
           have HO_228001 := n0_
           have HO_228002 := n1_
           have HO_228003 := n2_
           have BK224 := n3_
           have BK227 := n4_
           have HI228 := n5_
           have HB := n6_
           clear n0_ n1_ n2_ n3_ n4_ n5_ n6_
           refine start_ (n := 8) (S := fun w' => w'.cell? ⟨gb227, 0, none⟩ = some (.bool ((bt t224 0) == 108)) ∧ w'.cell? ⟨gb227, 1, none⟩ = some (u228001) ∧ w'.cell? ⟨gb227, 2, none⟩ = some (u228002) ∧ w'.cell? ⟨gb227, 3, none⟩ = some (u228003)) (ds := [7]) #[false, false, false, false, false, false, false, false] (by kernel_rfl) rfl rfl ⟨(zq BK227.out 0).trans rfl, (zq BK227.out 1).trans rfl, (zq BK227.out 2).trans rfl, (zq BK227.out 3).trans rfl⟩ (fun hHeld => ?_); refine with_tabW impl_ReadNode.tab8 impl_ReadNode.bits8 (fun HT_ HW_ => ?_)
           generalize wr.drew = w42 at HO_228001 HO_228002 HO_228003 BK224 BK227 HI228 HB hHeld ⊢
           refine pure_ (i := 0) (N := some 39) (v := ?_) (a' := ?_) #[true, false, false, false, false, false, false, false] rfl rfl (any_of HT_.out (by kernel_rfl)) (fun _ _ _ h => h) (Or.inl ⟨by rfl, ?_⟩) ?_ ?_
           rotate_left
           ·intro w'
            go_simp
            with_reducible rfl
           rotate_left
           ·simp only [Act.put, List.setIfInBounds_toArray, List.set_cons_zero, List.set_cons_succ, i64_w, i32_w]
            rfl
           refine pure_ (i := 2) (N := some 41) (v := ?_) (a' := ?_) #[true, false, true, false, false, false, false, false] rfl rfl (any_of HT_.out (by kernel_rfl)) (fun _ _ _ h => h) (Or.inl ⟨by rfl, ?_⟩) ?_ ?_
           rotate_left
           ·intro w'
            go_simp
            with_reducible rfl
           rotate_left
           ·simp only [Act.put, List.setIfInBounds_toArray, List.set_cons_zero, List.set_cons_succ, i64_w, i32_w]
            rfl
           refine take_ (i := 1) (N := some 40) (v := ?_) (a' := ?_) #[true, true, true, false, false, false, false, false] rfl rfl (take_ofW HT_.out HW_.out (by kernel_rfl)) (fun _ _ _ h => h) (Or.inl ⟨by rfl, ?_⟩) hHeld ?_ ?_
           rotate_left
           ·rintro w' ⟨s0, s1, s2, s3⟩
            go_simp
            with_reducible rfl
           rotate_left
           ·simp only [Act.put, List.setIfInBounds_toArray, List.set_cons_zero, List.set_cons_succ, i64_w, i32_w]
            rfl
           refine one_ (i := 3) (N := some 42) #[true, true, true, true, false, false, false, false] rfl rfl (one_of HT_.out (by kernel_rfl)) (by decide) (fun K hK => ?_)
           refine goes_ Try.func134 (by kernel_rfl) rfl #[.pointer (some ⟨gb228, 0, none⟩)] (by rfl) rfl rfl (by (try simp only [List.map_toArray, List.map_cons, List.map_nil]); first | done | rfl | (simp only [List.length_drop, List.length_take]; rfl)) ?_
           with_reducible refine (impl_reader_text.calls k1 gb228 x229000_1 x229001_1 x229002_1 t230 t231 t232 t233 w _ ?side1 ?side2 A21.out).mono ?_
           (case side1 => repeat (first | (with_reducible first | exact HI228.out | apply IsS153.alloc | apply IsS153.drewN | apply IsS153.drew | apply IsS153.set_0 | apply IsS153.set_1 | apply IsS153.set_2 | apply IsS153.far (hne := NB228_224.out) | apply IsS153.far (hne := NB228_227.out)) | apply IsS153.far (hne := NB228_224.out) | apply IsS153.far (hne := NB228_227.out) | exact HI228.out))
           (case side2 => repeat (first | (with_reducible first | exact HB.out | apply zg | apply zh | apply zi | refine zr ?_ (IsS153.ge HI228.out) | refine zr ?_ GE224.out | refine zr ?_ GE227.out) | exact HB.out))
           rintro e w43 ⟨rfl, hi, hb, hk⟩
           refine ⟨_, rfl, ?_⟩
           have n0_ := zj (zm (Kd.R_keep (IsS153.apart (show IsS153 w _ gb228 x229000_1 x229001_1 x229002_1 from by repeat (first | (with_reducible first | exact HI228.out | apply IsS153.alloc | apply IsS153.drewN | apply IsS153.drew | apply IsS153.set_0 | apply IsS153.set_1 | apply IsS153.set_2 | apply IsS153.far (hne := NB228_224.out) | apply IsS153.far (hne := NB228_227.out)) | apply IsS153.far (hne := NB228_224.out) | apply IsS153.far (hne := NB228_227.out) | exact HI228.out)) (by (with_reducible repeat (first | apply zd | apply ze | apply zf)); exact HO_228001.out) (by decide)) hk (fun _ h => h.2)) (fun _ h => h.1))
           have n1_ := zj (zm (Kd.R_keep (IsS153.apart (show IsS153 w _ gb228 x229000_1 x229001_1 x229002_1 from by repeat (first | (with_reducible first | exact HI228.out | apply IsS153.alloc | apply IsS153.drewN | apply IsS153.drew | apply IsS153.set_0 | apply IsS153.set_1 | apply IsS153.set_2 | apply IsS153.far (hne := NB228_224.out) | apply IsS153.far (hne := NB228_227.out)) | apply IsS153.far (hne := NB228_224.out) | apply IsS153.far (hne := NB228_227.out) | exact HI228.out)) (by (with_reducible repeat (first | apply zd | apply ze | apply zf)); exact HO_228002.out) (by decide)) hk (fun _ h => h.2)) (fun _ h => h.1))
           have n2_ := zj (zm (Kd.R_keep (IsS153.apart (show IsS153 w _ gb228 x229000_1 x229001_1 x229002_1 from by repeat (first | (with_reducible first | exact HI228.out | apply IsS153.alloc | apply IsS153.drewN | apply IsS153.drew | apply IsS153.set_0 | apply IsS153.set_1 | apply IsS153.set_2 | apply IsS153.far (hne := NB228_224.out) | apply IsS153.far (hne := NB228_227.out)) | apply IsS153.far (hne := NB228_224.out) | apply IsS153.far (hne := NB228_227.out) | exact HI228.out)) (by (with_reducible repeat (first | apply zd | apply ze | apply zf)); exact HO_228003.out) (by decide)) hk (fun _ h => h.2)) (fun _ h => h.1))
           have n3_ := zj (KeepBut.blk hk (g' := gb224) (o := .cells #[.bool false, .slice none 0 0, .slice none 0 0, .slice none 0 0] 29 (0, 0)) (by (with_reducible repeat (first | refine za ?_ _ | refine zb ?_ | refine zc ?_ _)); exact BK224.out) NB224_228.out (by simp))
           have n4_ := zj (KeepBut.blk hk (g' := gb227) (o := .cells #[.bool ((bt t224 0) == 108), u228001, u228002, u228003] 29 (0, 0)) (by (with_reducible repeat (first | refine za ?_ _ | refine zb ?_ | refine zc ?_ _)); exact BK227.out) NB227_228.out (by simp))
           have n5_ := zj (hb)
           have n6_ := zj (hi)
           clear HO_228001
           clear HO_228002
           clear HO_228003
           clear BK224
           clear BK227
           clear HB
           clear HI228
           have HO_228001 := n0_
           have HO_228002 := n1_
           have HO_228003 := n2_
           have BK224 := n3_
           have BK227 := n4_
           have HB := n5_
           have HI228 := n6_
           clear n0_ n1_ n2_ n3_ n4_ n5_ n6_
           (try clear hb)
           (try clear hb2)
           (try clear hk)
           (try clear hi)
           refine hK.out _ _ ⟨(zq BK227.out 0).trans rfl, (zq BK227.out 1).trans rfl, (zq BK227.out 2).trans rfl, (zq BK227.out 3).trans rfl⟩ (fun hHeld => ?_)
           clear hK K
           refine norm_ (a' := ?_) ?_ ?_
           rotate_left
           ·show Act.put _ (some 42) _ = _
            simp only [Act.put, List.setIfInBounds_toArray, List.set_cons_zero, List.set_cons_succ, i64_w, i32_w]
            rfl
           refine one_ (i := 4) (N := some 43) #[true, true, true, true, true, false, false, false] rfl rfl (one_of HT_.out (by kernel_rfl)) (by decide) (fun K hK => ?_)
           refine value_ (w1 := ?_) (v := ?_) (by rfl) rfl ?_ ?_
           rotate_left 2
           ·go_simp
            constructor
            ·rfl
            ·rfl
           refine hK.out _ _ ⟨(zq (zc BK227.out _) 0).trans rfl, (zq (zc BK227.out _) 1).trans rfl, (zq (zc BK227.out _) 2).trans rfl, (zq (zc BK227.out _) 3).trans rfl⟩ (fun hHeld => ?_)
           clear hK K
           refine norm_ (a' := ?_) ?_ ?_
           rotate_left
           ·show Act.put _ (some 43) _ = _
            simp only [Act.put, List.setIfInBounds_toArray, List.set_cons_zero, List.set_cons_succ, i64_w, i32_w]
            rfl
           refine one_ (i := 5) (N := some 44) #[true, true, true, true, true, true, false, false] rfl rfl (one_of HT_.out (by kernel_rfl)) (by decide) (fun K hK => ?_)
           refine Kd.R_append_step Kd.string (w0 := w) w.heap.size (by rfl) (.tmp 40) (.tmp 43) 22 9 (.string ⟨#[]⟩) 16 rfl Try.underlying22 info9 rfl (by decide) (by omega) u228001 x228001_1 t230 [.string t230] (fun k_ => some k_ ≠ (u228002 : Value).ownBlock) (fun _ => False) rfl rfl ?aP (fun _ hk => hk.elim) ?aF ?aO ?aB ?aS ?aL ?_
           (case aP => exact rfl)
           (case aB => exact (by repeat (first | (with_reducible first | exact HB.out | apply zg | apply zh | apply zi | refine zr ?_ (IsS153.ge HI228.out) | refine zr ?_ GE224.out | refine zr ?_ GE227.out) | exact HB.out)))
           (case aF => exact (fun k_ hk => Kd.fresh' (Kd.R_lt (by (with_reducible repeat (first | apply zd | apply ze | apply zf)); exact HO_228002.out)) k_ hk))
           (case aO => exact (by (with_reducible repeat (first | apply zd | apply ze | apply zf)); exact HO_228001.out))
           (case aS => exact (zk (by repeat (first | (with_reducible first | exact HB.out | apply zg | apply zh | apply zi | refine zr ?_ (IsS153.ge HI228.out) | refine zr ?_ GE224.out | refine zr ?_ GE227.out) | exact HB.out))))
           (case aL => have := LMc22.out; omega)
           intro v235 w44 ho hb hg hat
           rw [← Ny234.out] at ho
           have n0_ := zj (Kd.R_after (ok := (fun _ => True)) (by (with_reducible repeat (first | apply zd | apply ze | apply zf)); exact zm HO_228002.out (fun _ hk => ⟨trivial, hk⟩)) hg hat)
           have n1_ := zj (Kd.R_over' (by (with_reducible repeat (first | apply zd | apply ze | apply zf)); exact HO_228003.out) (Kd.R_typed (by (with_reducible repeat (first | apply zd | apply ze | apply zf)); exact HO_228001.out)) (by decide) hg)
           have n2_ := zj (blk_grown (g := gb224) (o := .cells #[.bool false, .slice none 0 0, .slice none 0 0, .slice none 0 0] 29 (0, 0)) (by (with_reducible repeat (first | refine za ?_ _ | refine zb ?_ | refine zc ?_ _)); exact BK224.out) hg (Kd.R_ne HO_228001.out BK224.out (by decide)))
           have n3_ := zj (blk_grown (g := gb227) (o := .cells #[.bool ((bt t224 0) == 108), u228001, u228002, u228003] 29 (0, 0)) (by (with_reducible repeat (first | refine za ?_ _ | refine zb ?_ | refine zc ?_ _)); exact BK227.out) hg (Kd.R_ne HO_228001.out BK227.out (by decide)))
           have n4_ := zj (IsS153.grown (by repeat (first | (with_reducible first | exact HI228.out | apply IsS153.alloc | apply IsS153.drewN | apply IsS153.drew | apply IsS153.set_0 | apply IsS153.set_1 | apply IsS153.set_2 | apply IsS153.far (hne := NB228_224.out) | apply IsS153.far (hne := NB228_227.out)) | apply IsS153.far (hne := NB228_224.out) | apply IsS153.far (hne := NB228_227.out) | exact HI228.out)) hg (IsS153.own_ne HI228.out HO_228001.out (by decide)))
           have n5_ := zj (hb)
           have n6_ := zj (ho)
           clear HO_228002
           clear HO_228003
           clear BK224
           clear BK227
           clear HI228
           clear HB
           clear HO_228001
           have HO_228002 := n0_
           have HO_228003 := n1_
           have BK224 := n2_
           have BK227 := n3_
           have HI228 := n4_
           have HB := n5_
           have HO236 := n6_
           clear n0_ n1_ n2_ n3_ n4_ n5_ n6_
           clear ho hb hg hat
           obtain ⟨Ao45, co45, eo45⟩ := Kd.R_slice HO236.out
           (first | subst eo45 | (injection eo45 with f1_ f2_ f3_; have f4_ := f1_.symm; have f5_ := f3_.symm; clear f1_ f2_ f3_; subst f4_; subst f5_))
           refine hK.out _ _ ⟨(zq BK227.out 0).trans rfl, (zq BK227.out 1).trans rfl, (zq BK227.out 2).trans rfl, (zq BK227.out 3).trans rfl⟩ (fun hHeld => ?_)
           clear hK K
           refine norm_ (a' := ?_) ?_ ?_
           rotate_left
           ·show Act.put _ (some 44) _ = _
            simp only [Act.put, List.setIfInBounds_toArray, List.set_cons_zero, List.set_cons_succ, i64_w, i32_w]
            rfl
           refine pure_ (i := 6) (N := some 45) (v := ?_) (a' := ?_) #[true, true, true, true, true, true, true, false] rfl rfl (any_of HT_.out (by kernel_rfl)) (fun _ _ _ h => h) (Or.inl ⟨by rfl, ?_⟩) ?_ ?_
           rotate_left
           ·intro w'
            go_simp
            with_reducible rfl
           rotate_left
           ·simp only [Act.put, List.setIfInBounds_toArray, List.set_cons_zero, List.set_cons_succ, i64_w, i32_w]
            rfl
           refine last_ (i := 7) (N := none) #[true, true, true, true, true, true, true, true] rfl rfl (one_of HT_.out (by kernel_rfl)) (by decide) (fun K hK => ?_)
           have hs46 : w44.cell? ⟨gb227, 1, none⟩ = some (u228001) := (zq BK227.out 1).trans rfl
           have hfs46 := zu BK227.out 1
           have hns46_0 := NB224_227.out
           have hms46_0 := NB227_224.out
           refine skip_ (w1 := ?_) (by rfl) rfl ?_ ?_
           rotate_left
           ·go_simp
            rfl
           refine hK.out _ _ ?_
           clear hK K
           refine done_ (done_of HT_.out (by kernel_rfl)) ?_
           have hnb47 := NB227_224.out
           have hnc47 := NB224_227.out
           have hnb48 := NB227_228.out
           have hnc48 := NB228_227.out
           have hcz49_0 : w44.cell? ⟨gb227, 0, none⟩ = some (.bool ((bt t224 0) == 108)) := (zq BK227.out 0).trans rfl
           have hcz49_1 : w44.cell? ⟨gb227, 1, none⟩ = some (u228001) := (zq BK227.out 1).trans rfl
           have hcz49_2 : w44.cell? ⟨gb227, 2, none⟩ = some (u228002) := (zq BK227.out 2).trans rfl
           have hcz49_3 : w44.cell? ⟨gb227, 3, none⟩ = some (u228003) := (zq BK227.out 3).trans rfl
           have hfz49_0 := zu BK227.out 0
           have hfz49_1 := zu BK227.out 1
           have hfz49_2 := zu BK227.out 2
           have hfz49_3 := zu BK227.out 3
           try go_wp2
           have n0_ : Aside0 (Kd.R Kd.string 9 (w44.setCell ⟨gb227, 1, none⟩ (.slice Ao45 y234.length co45)) w.heap.size (fun k_ => some k_ ≠ (.slice Ao45 y234.length co45 : Value).ownBlock) u228002 x228002_1) := ⟨by (with_reducible repeat (first | apply zd | apply ze | apply zf)); exact zm (zn (p := ⟨gb227, 1, none⟩) (zt HO_228002.out BK227.out (by decide)) (fun _ hk => hk.2) (.slice Ao45 y234.length co45)) (fun _ hk => hk.1.2)⟩
           have n1_ : Aside0 (Kd.R (Kd.int .i64) 3 (w44.setCell ⟨gb227, 1, none⟩ (.slice Ao45 y234.length co45)) w.heap.size (fun _ => True) u228003 x228003_1) := ⟨by (with_reducible repeat (first | apply zd | apply ze | apply zf)); exact zm (zn (p := ⟨gb227, 1, none⟩) (zt HO_228003.out BK227.out (by decide)) (fun _ hk => hk.2) (.slice Ao45 y234.length co45)) (fun _ hk => trivial)⟩
           have n2_ : Aside0 (Kd.R Kd.string 9 (w44.setCell ⟨gb227, 1, none⟩ (.slice Ao45 y234.length co45)) w.heap.size (fun k_ => some k_ ≠ (u228002 : Value).ownBlock) (.slice Ao45 y234.length co45) y234) := ⟨by (with_reducible repeat (first | apply zd | apply ze | apply zf)); exact zm (zn (p := ⟨gb227, 1, none⟩) (zt HO236.out BK227.out (by decide)) (fun _ hk => hk.2) (.slice Ao45 y234.length co45)) (fun _ hk => hk.1)⟩
           have n3_ : Aside0 ((w44.setCell ⟨gb227, 1, none⟩ (.slice Ao45 y234.length co45)).heap[gb224]? = some (.cells #[.bool false, .slice none 0 0, .slice none 0 0, .slice none 0 0] 29 (0, 0))) := ⟨by (with_reducible repeat (first | refine za ?_ _ | refine zb ?_ | refine zc ?_ _)); refine blk_far ?_ NB224_227.out _; (with_reducible repeat (first | refine za ?_ _ | refine zb ?_ | refine zc ?_ _)); exact BK224.out⟩
           have n4_ : Aside0 ((w44.setCell ⟨gb227, 1, none⟩ (.slice Ao45 y234.length co45)).heap[gb227]? = some (.cells #[.bool ((bt t224 0) == 108), .slice Ao45 y234.length co45, u228002, u228003] 29 (0, 0))) := ⟨by (with_reducible repeat (first | refine za ?_ _ | refine zb ?_ | refine zc ?_ _)); refine zp (cs := #[.bool ((bt t224 0) == 108), u228001, u228002, u228003]) ?_ 1 _ rfl; (with_reducible repeat (first | refine za ?_ _ | refine zb ?_ | refine zc ?_ _)); exact BK227.out⟩
           have n5_ : Aside0 (IsS153 w (w44.setCell ⟨gb227, 1, none⟩ (.slice Ao45 y234.length co45)) gb228 t231 t232 t233) := ⟨by repeat (first | (with_reducible first | exact HI228.out | apply IsS153.alloc | apply IsS153.drewN | apply IsS153.drew | apply IsS153.set_0 | apply IsS153.set_1 | apply IsS153.set_2 | apply IsS153.far (hne := NB228_224.out) | apply IsS153.far (hne := NB228_227.out)) | apply IsS153.far (hne := NB228_224.out) | apply IsS153.far (hne := NB228_227.out) | exact HI228.out)⟩
           have n6_ : Aside0 (Below w.heap.size w (w44.setCell ⟨gb227, 1, none⟩ (.slice Ao45 y234.length co45))) := ⟨by repeat (first | (with_reducible first | exact HB.out | apply zg | apply zh | apply zi | refine zr ?_ (IsS153.ge HI228.out) | refine zr ?_ GE224.out | refine zr ?_ GE227.out) | exact HB.out)⟩
           (try clear HO_228002)
           (try clear HO_228003)
           (try clear HO236)
           (try clear BK224)
           (try clear BK227)
           (try clear HI228)
           (try clear HB)
           generalize (w44.setCell ⟨gb227, 1, none⟩ (.slice Ao45 y234.length co45)) = w50 at n0_ n1_ n2_ n3_ n4_ n5_ n6_ ⊢
           have HO_228002 := n0_
           have HO_228003 := n1_
           have HO236 := n2_
           have BK224 := n3_
           have BK227 := n4_
           have HI228 := n5_
           have HB := n6_
           clear n0_ n1_ n2_ n3_ n4_ n5_ n6_
           have n0_ := zj (zf HO_228002.out)
           have n1_ := zj (zf HO_228003.out)
           have n2_ := zj (zf HO236.out)
           have n3_ := zj (zb BK224.out)
           have n4_ := zj (zb BK227.out)
           have n5_ := zj (IsS153.drew HI228.out)
           have n6_ := zj (zi HB.out)
           clear HO_228002
           clear HO_228003
           clear HO236
           clear BK224
           clear BK227
           clear HI228
           clear HB
           have HO_228002 := n0_
           have HO_228003 := n1_
           have HO236 := n2_
           have BK224 := n3_
           have BK227 := n4_
           have HI228 := n5_
           have HB := n6_
           clear n0_ n1_ n2_ n3_ n4_ n5_ n6_
           refine start_ (n := 8) (S := fun w' => w'.cell? ⟨gb227, 0, none⟩ = some (.bool ((bt t224 0) == 108)) ∧ w'.cell? ⟨gb227, 1, none⟩ = some (.slice Ao45 y234.length co45) ∧ w'.cell? ⟨gb227, 2, none⟩ = some (u228002) ∧ w'.cell? ⟨gb227, 3, none⟩ = some (u228003)) (ds := [7]) #[false, false, false, false, false, false, false, false] (by kernel_rfl) rfl rfl ⟨(zq BK227.out 0).trans rfl, (zq BK227.out 1).trans rfl, (zq BK227.out 2).trans rfl, (zq BK227.out 3).trans rfl⟩ (fun hHeld => ?_); refine with_tabW impl_ReadNode.tab11 impl_ReadNode.bits11 (fun HT_ HW_ => ?_)
           generalize w50.drew = w51 at HO_228002 HO_228003 HO236 BK224 BK227 HI228 HB hHeld ⊢
           refine pure_ (i := 0) (N := some 55) (v := ?_) (a' := ?_) #[true, false, false, false, false, false, false, false] rfl rfl (any_of HT_.out (by kernel_rfl)) (fun _ _ _ h => h) (Or.inl ⟨by rfl, ?_⟩) ?_ ?_
           rotate_left
           ·intro w'
            go_simp
            with_reducible rfl
           rotate_left
           ·simp only [Act.put, List.setIfInBounds_toArray, List.set_cons_zero, List.set_cons_succ, i64_w, i32_w]
            rfl
           refine pure_ (i := 2) (N := some 57) (v := ?_) (a' := ?_) #[true, false, true, false, false, false, false, false] rfl rfl (any_of HT_.out (by kernel_rfl)) (fun _ _ _ h => h) (Or.inl ⟨by rfl, ?_⟩) ?_ ?_
           rotate_left
           ·intro w'
            go_simp
            with_reducible rfl
           rotate_left
           ·simp only [Act.put, List.setIfInBounds_toArray, List.set_cons_zero, List.set_cons_succ, i64_w, i32_w]
            rfl
           refine take_ (i := 1) (N := some 56) (v := ?_) (a' := ?_) #[true, true, true, false, false, false, false, false] rfl rfl (take_ofW HT_.out HW_.out (by kernel_rfl)) (fun _ _ _ h => h) (Or.inl ⟨by rfl, ?_⟩) hHeld ?_ ?_
           rotate_left
           ·rintro w' ⟨s0, s1, s2, s3⟩
            go_simp
            with_reducible rfl
           rotate_left
           ·simp only [Act.put, List.setIfInBounds_toArray, List.set_cons_zero, List.set_cons_succ, i64_w, i32_w]
            rfl
           refine one_ (i := 3) (N := some 58) #[true, true, true, true, false, false, false, false] rfl rfl (one_of HT_.out (by kernel_rfl)) (by decide) (fun K hK => ?_)
           refine goes_ Try.func129 (by kernel_rfl) rfl #[.pointer (some ⟨gb228, 0, none⟩), .int .i64 40] (by rfl) rfl rfl (by (try simp only [List.map_toArray, List.map_cons, List.map_nil]); first | done | rfl | (simp only [List.length_drop, List.length_take]; rfl)) ?_
           with_reducible refine (impl_reader_num.calls k1 gb228 t231 t232 t233 40 t244 t245 t246 t247 w _ ?side1 ?side2 A40.out).mono ?_
           (case side1 => repeat (first | (with_reducible first | exact HI228.out | apply IsS153.alloc | apply IsS153.drewN | apply IsS153.drew | apply IsS153.set_0 | apply IsS153.set_1 | apply IsS153.set_2 | apply IsS153.far (hne := NB228_224.out) | apply IsS153.far (hne := NB228_227.out)) | apply IsS153.far (hne := NB228_224.out) | apply IsS153.far (hne := NB228_227.out) | exact HI228.out))
           (case side2 => repeat (first | (with_reducible first | exact HB.out | apply zg | apply zh | apply zi | refine zr ?_ (IsS153.ge HI228.out) | refine zr ?_ GE224.out | refine zr ?_ GE227.out) | exact HB.out))
           rintro e w52 ⟨rfl, hi, hb, hk⟩
           refine ⟨_, rfl, ?_⟩
           have n0_ := zj (zm (Kd.R_keep (IsS153.apart (show IsS153 w _ gb228 t231 t232 t233 from by repeat (first | (with_reducible first | exact HI228.out | apply IsS153.alloc | apply IsS153.drewN | apply IsS153.drew | apply IsS153.set_0 | apply IsS153.set_1 | apply IsS153.set_2 | apply IsS153.far (hne := NB228_224.out) | apply IsS153.far (hne := NB228_227.out)) | apply IsS153.far (hne := NB228_224.out) | apply IsS153.far (hne := NB228_227.out) | exact HI228.out)) (by (with_reducible repeat (first | apply zd | apply ze | apply zf)); exact HO_228002.out) (by decide)) hk (fun _ h => h.2)) (fun _ h => h.1))
           have n1_ := zj (zm (Kd.R_keep (IsS153.apart (show IsS153 w _ gb228 t231 t232 t233 from by repeat (first | (with_reducible first | exact HI228.out | apply IsS153.alloc | apply IsS153.drewN | apply IsS153.drew | apply IsS153.set_0 | apply IsS153.set_1 | apply IsS153.set_2 | apply IsS153.far (hne := NB228_224.out) | apply IsS153.far (hne := NB228_227.out)) | apply IsS153.far (hne := NB228_224.out) | apply IsS153.far (hne := NB228_227.out) | exact HI228.out)) (by (with_reducible repeat (first | apply zd | apply ze | apply zf)); exact HO_228003.out) (by decide)) hk (fun _ h => h.2)) (fun _ h => h.1))
           have n2_ := zj (KeepBut.blk hk (g' := gb224) (o := .cells #[.bool false, .slice none 0 0, .slice none 0 0, .slice none 0 0] 29 (0, 0)) (by (with_reducible repeat (first | refine za ?_ _ | refine zb ?_ | refine zc ?_ _)); exact BK224.out) NB224_228.out (by simp))
           have n3_ := zj (KeepBut.blk hk (g' := gb227) (o := .cells #[.bool ((bt t224 0) == 108), .slice Ao45 y234.length co45, u228002, u228003] 29 (0, 0)) (by (with_reducible repeat (first | refine za ?_ _ | refine zb ?_ | refine zc ?_ _)); exact BK227.out) NB227_228.out (by simp))
           have n4_ := zj (zm (Kd.R_keep (IsS153.apart (show IsS153 w _ gb228 t231 t232 t233 from by repeat (first | (with_reducible first | exact HI228.out | apply IsS153.alloc | apply IsS153.drewN | apply IsS153.drew | apply IsS153.set_0 | apply IsS153.set_1 | apply IsS153.set_2 | apply IsS153.far (hne := NB228_224.out) | apply IsS153.far (hne := NB228_227.out)) | apply IsS153.far (hne := NB228_224.out) | apply IsS153.far (hne := NB228_227.out) | exact HI228.out)) (by (with_reducible repeat (first | apply zd | apply ze | apply zf)); exact HO236.out) (by decide)) hk (fun _ h => h.2)) (fun _ h => h.1))
           have n5_ := zj (hb)
           have n6_ := zj (hi)
           clear HO_228002
           clear HO_228003
           clear BK224
           clear BK227
           clear HO236
           clear HB
           clear HI228
           have HO_228002 := n0_
           have HO_228003 := n1_
           have BK224 := n2_
           have BK227 := n3_
           have HO236 := n4_
           have HB := n5_
           have HI228 := n6_
           clear n0_ n1_ n2_ n3_ n4_ n5_ n6_
           (try clear hb)
           (try clear hb2)
           (try clear hk)
           (try clear hi)
           refine hK.out _ _ ⟨(zq BK227.out 0).trans rfl, (zq BK227.out 1).trans rfl, (zq BK227.out 2).trans rfl, (zq BK227.out 3).trans rfl⟩ (fun hHeld => ?_)
           clear hK K
           refine norm_ (a' := ?_) ?_ ?_
           rotate_left
           ·show Act.put _ (some 58) _ = _
            simp only [Act.put, List.setIfInBounds_toArray, List.set_cons_zero, List.set_cons_succ, i64_w, i32_w]
            rfl
           refine one_ (i := 4) (N := some 59) #[true, true, true, true, true, false, false, false] rfl rfl (one_of HT_.out (by kernel_rfl)) (by decide) (fun K hK => ?_)
           refine value_ (w1 := ?_) (v := ?_) (by rfl) rfl ?_ ?_
           rotate_left 2
           ·go_simp
            constructor
            ·rfl
            ·rfl
           refine hK.out _ _ ⟨(zq (zc BK227.out _) 0).trans rfl, (zq (zc BK227.out _) 1).trans rfl, (zq (zc BK227.out _) 2).trans rfl, (zq (zc BK227.out _) 3).trans rfl⟩ (fun hHeld => ?_)
           clear hK K
           refine norm_ (a' := ?_) ?_ ?_
           rotate_left
           ·show Act.put _ (some 59) _ = _
            simp only [Act.put, List.setIfInBounds_toArray, List.set_cons_zero, List.set_cons_succ, i64_w, i32_w]
            rfl
           refine one_ (i := 5) (N := some 60) #[true, true, true, true, true, true, false, false] rfl rfl (one_of HT_.out (by kernel_rfl)) (by decide) (fun K hK => ?_)
           refine Kd.R_append_step (Kd.int .i64) (w0 := w) w.heap.size (by rfl) (.tmp 56) (.tmp 59) 23 3 (.int .i64 0) 8 rfl Try.underlying23 info3 rfl (by decide) (by omega) u228003 x228003_1 t244 [.int .i64 t244] (fun _ => True) (fun _ => False) rfl rfl ?aP (fun _ hk => hk.elim) ?aF ?aO ?aB ?aS ?aL ?_
           (case aP => exact rfl)
           (case aB => exact (by repeat (first | (with_reducible first | exact HB.out | apply zg | apply zh | apply zi | refine zr ?_ (IsS153.ge HI228.out) | refine zr ?_ GE224.out | refine zr ?_ GE227.out) | exact HB.out)))
           (case aF => exact (fun _ _ => trivial))
           (case aO => exact (by (with_reducible repeat (first | apply zd | apply ze | apply zf)); exact HO_228003.out))
           (case aS => exact (zk (by repeat (first | (with_reducible first | exact HB.out | apply zg | apply zh | apply zi | refine zr ?_ (IsS153.ge HI228.out) | refine zr ?_ GE224.out | refine zr ?_ GE227.out) | exact HB.out))))
           (case aL => have := LMc41.out; omega)
           intro v249 w53 ho hb hg hat
           rw [← Ny248.out] at ho
           have n0_ := zj (Kd.R_over' (by (with_reducible repeat (first | apply zd | apply ze | apply zf)); exact HO_228002.out) (Kd.R_typed (by (with_reducible repeat (first | apply zd | apply ze | apply zf)); exact HO_228003.out)) (by decide) hg)
           have n1_ := zj (blk_grown (g := gb224) (o := .cells #[.bool false, .slice none 0 0, .slice none 0 0, .slice none 0 0] 29 (0, 0)) (by (with_reducible repeat (first | refine za ?_ _ | refine zb ?_ | refine zc ?_ _)); exact BK224.out) hg (Kd.R_ne HO_228003.out BK224.out (by decide)))
           have n2_ := zj (blk_grown (g := gb227) (o := .cells #[.bool ((bt t224 0) == 108), .slice Ao45 y234.length co45, u228002, u228003] 29 (0, 0)) (by (with_reducible repeat (first | refine za ?_ _ | refine zb ?_ | refine zc ?_ _)); exact BK227.out) hg (Kd.R_ne HO_228003.out BK227.out (by decide)))
           have n3_ := zj (IsS153.grown (by repeat (first | (with_reducible first | exact HI228.out | apply IsS153.alloc | apply IsS153.drewN | apply IsS153.drew | apply IsS153.set_0 | apply IsS153.set_1 | apply IsS153.set_2 | apply IsS153.far (hne := NB228_224.out) | apply IsS153.far (hne := NB228_227.out)) | apply IsS153.far (hne := NB228_224.out) | apply IsS153.far (hne := NB228_227.out) | exact HI228.out)) hg (IsS153.own_ne HI228.out HO_228003.out (by decide)))
           have n4_ := zj (Kd.R_over' (by (with_reducible repeat (first | apply zd | apply ze | apply zf)); exact HO236.out) (Kd.R_typed (by (with_reducible repeat (first | apply zd | apply ze | apply zf)); exact HO_228003.out)) (by decide) hg)
           have n5_ := zj (hb)
           have n6_ := zj (ho)
           clear HO_228002
           clear BK224
           clear BK227
           clear HI228
           clear HO236
           clear HB
           clear HO_228003
           have HO_228002 := n0_
           have BK224 := n1_
           have BK227 := n2_
           have HI228 := n3_
           have HO236 := n4_
           have HB := n5_
           have HO250 := n6_
           clear n0_ n1_ n2_ n3_ n4_ n5_ n6_
           clear ho hb hg hat
           obtain ⟨Ao54, co54, eo54⟩ := Kd.R_slice HO250.out
           (first | subst eo54 | (injection eo54 with f1_ f2_ f3_; have f4_ := f1_.symm; have f5_ := f3_.symm; clear f1_ f2_ f3_; subst f4_; subst f5_))
           refine hK.out _ _ ⟨(zq BK227.out 0).trans rfl, (zq BK227.out 1).trans rfl, (zq BK227.out 2).trans rfl, (zq BK227.out 3).trans rfl⟩ (fun hHeld => ?_)
           clear hK K
           refine norm_ (a' := ?_) ?_ ?_
           rotate_left
           ·show Act.put _ (some 60) _ = _
            simp only [Act.put, List.setIfInBounds_toArray, List.set_cons_zero, List.set_cons_succ, i64_w, i32_w]
            rfl
           refine pure_ (i := 6) (N := some 61) (v := ?_) (a' := ?_) #[true, true, true, true, true, true, true, false] rfl rfl (any_of HT_.out (by kernel_rfl)) (fun _ _ _ h => h) (Or.inl ⟨by rfl, ?_⟩) ?_ ?_
           rotate_left
           ·intro w'
            go_simp
            with_reducible rfl
           rotate_left
           ·simp only [Act.put, List.setIfInBounds_toArray, List.set_cons_zero, List.set_cons_succ, i64_w, i32_w]
            rfl
           refine last_ (i := 7) (N := none) #[true, true, true, true, true, true, true, true] rfl rfl (one_of HT_.out (by kernel_rfl)) (by decide) (fun K hK => ?_)
           have hs55 : w53.cell? ⟨gb227, 3, none⟩ = some (u228003) := (zq BK227.out 3).trans rfl
           have hfs55 := zu BK227.out 3
           have hns55_0 := NB224_227.out
           have hms55_0 := NB227_224.out
           refine skip_ (w1 := ?_) (by rfl) rfl ?_ ?_
           rotate_left
           ·go_simp
            rfl
           refine hK.out _ _ ?_
           clear hK K
           refine done_ (done_of HT_.out (by kernel_rfl)) ?_
           try go_wp2
           go_roundg k1
           case measure => have := HK1.out; omega
           case rel => exact ⟨(wrap64 (x37_1 + 1)), (y234), (x228002_1), (y248), (t245), (t246), (t247), (.slice Ao45 y234.length co45), (u228002), (.slice Ao54 y248.length co54), (by first | rfl | (simp; done) | (simp [*]; done)), H', ⟨by have := HK1.out; omega⟩, ⟨by (with_reducible repeat (first | apply zd | apply ze | apply zf)); exact zm (zn (p := ⟨gb227, 3, none⟩) (zt HO236.out BK227.out (by decide)) (fun _ hk => hk.2) (.slice Ao54 y248.length co54)) (fun _ hk => hk.1)⟩, ⟨by (with_reducible repeat (first | apply zd | apply ze | apply zf)); exact zm (zn (p := ⟨gb227, 3, none⟩) (zt HO_228002.out BK227.out (by decide)) (fun _ hk => hk.2) (.slice Ao54 y248.length co54)) (fun _ hk => hk.1)⟩, ⟨by (with_reducible repeat (first | apply zd | apply ze | apply zf)); exact zm (zn (p := ⟨gb227, 3, none⟩) (zt HO250.out BK227.out (by decide)) (fun _ hk => hk.2) (.slice Ao54 y248.length co54)) (fun _ hk => trivial)⟩, ⟨by (with_reducible repeat (first | refine za ?_ _ | refine zb ?_ | refine zc ?_ _)); refine blk_far ?_ NB224_227.out _; (with_reducible repeat (first | refine za ?_ _ | refine zb ?_ | refine zc ?_ _)); exact BK224.out⟩, ⟨by (with_reducible repeat (first | refine za ?_ _ | refine zb ?_ | refine zc ?_ _)); refine zp (cs := #[.bool ((bt t224 0) == 108), .slice Ao45 y234.length co45, u228002, u228003]) ?_ 3 _ rfl; (with_reducible repeat (first | refine za ?_ _ | refine zb ?_ | refine zc ?_ _)); exact BK227.out⟩, ⟨by repeat (first | (with_reducible first | exact HI228.out | apply IsS153.alloc | apply IsS153.drewN | apply IsS153.drew | apply IsS153.set_0 | apply IsS153.set_1 | apply IsS153.set_2 | apply IsS153.far (hne := NB228_224.out) | apply IsS153.far (hne := NB228_227.out)) | apply IsS153.far (hne := NB228_224.out) | apply IsS153.far (hne := NB228_227.out) | exact HI228.out)⟩, ⟨by repeat (first | (with_reducible first | exact HB.out | apply zg | apply zh | apply zi | refine zr ?_ (IsS153.ge HI228.out) | refine zr ?_ GE224.out | refine zr ?_ GE227.out) | exact HB.out)⟩⟩
          ·rw [if_neg c41] at H
           exact absurd H (by simp)
        ·rw [if_neg c22] at H
         exact absurd H (by simp)
       ·rw [if_neg c20] at H
        have c20b0 : decide (x37_1 < t226) = false := decide_eq_false c20
        clear c20
        by_cases c56 : x229002_1 = true
        ·subst c56
         have H1 : (some (false, ([] : List ByteArray), ([] : List ByteArray), ([] : List Int), false)) = some (r1, r2, r3, r4, r5) := by rw [if_pos rfl] at H; exact H
         clear H
         have H := H1
         clear H1
         simp only [Option.some.injEq, Prod.mk.injEq] at H
         obtain ⟨rfl, rfl, rfl, rfl, rfl⟩ := H
         obtain ⟨HGz57, hgz57⟩ := HI228.out
         have hcz57_0 := cellS153_0 HGz57
         have hcz57_1 := cellS153_1 HGz57
         have hcz57_2 := cellS153_2 HGz57
         have hfz57_0 := zu HGz57 0
         have hfz57_1 := zu HGz57 1
         have hfz57_2 := zu HGz57 2
         clear HGz57 hgz57
         have hnb58 := NB224_227.out
         have hnc58 := NB227_224.out
         have hnb59 := NB224_228.out
         have hnc59 := NB228_224.out
         have hcz60_0 : wr.cell? ⟨gb224, 0, none⟩ = some (.bool false) := (zq BK224.out 0).trans rfl
         have hcz60_1 : wr.cell? ⟨gb224, 1, none⟩ = some (.slice none 0 0) := (zq BK224.out 1).trans rfl
         have hcz60_2 : wr.cell? ⟨gb224, 2, none⟩ = some (.slice none 0 0) := (zq BK224.out 2).trans rfl
         have hcz60_3 : wr.cell? ⟨gb224, 3, none⟩ = some (.slice none 0 0) := (zq BK224.out 3).trans rfl
         have hfz60_0 := zu BK224.out 0
         have hfz60_1 := zu BK224.out 1
         have hfz60_2 := zu BK224.out 2
         have hfz60_3 := zu BK224.out 3
         go_wp2
         refine bodyPost_ret (results_ct rfl _ _ gb224 29 #[.bool false, .slice none 0 0, .slice none 0 0, .slice none 0 0] (0, 0) _ rfl (by (with_reducible repeat (first | refine za ?_ _ | refine zb ?_ | refine zc ?_ _)); refine zp (cs := #[.bool false, .slice none 0 0, .slice none 0 0, .slice none 0 0]) ?_ 3 _ rfl; (with_reducible repeat (first | refine za ?_ _ | refine zb ?_ | refine zc ?_ _)); refine zp (cs := #[.bool false, .slice none 0 0, .slice none 0 0, .slice none 0 0]) ?_ 2 _ rfl; (with_reducible repeat (first | refine za ?_ _ | refine zb ?_ | refine zc ?_ _)); refine zp (cs := #[.bool false, .slice none 0 0, .slice none 0 0, .slice none 0 0]) ?_ 1 _ rfl; (with_reducible repeat (first | refine za ?_ _ | refine zb ?_ | refine zc ?_ _)); refine zp (cs := #[.bool false, .slice none 0 0, .slice none 0 0, .slice none 0 0]) ?_ 0 _ rfl; (with_reducible repeat (first | refine za ?_ _ | refine zb ?_ | refine zc ?_ _)); exact BK224.out) Try.underlying29 rfl (by kernel_rfl)) rfl ?_
         exact ⟨_, _, _, by first | rfl | (simp [errW_none, errW_some] <;> rfl) | (simp [*, errW_none, errW_some] <;> rfl), by first | exact Kd.R_nil _ _ _ _ _ | exact Kd.N_nil _ _ _ _ _ | exact Kd.V_nil _ _ _ _ _ | exact Kd.Q_nil _ _ _ _ _ | exact Kd.S_nil _ _ _ _ _, by first | exact Kd.R_nil _ _ _ _ _ | exact Kd.N_nil _ _ _ _ _ | exact Kd.V_nil _ _ _ _ _ | exact Kd.Q_nil _ _ _ _ _ | exact Kd.S_nil _ _ _ _ _, by first | exact Kd.R_nil _ _ _ _ _ | exact Kd.N_nil _ _ _ _ _ | exact Kd.V_nil _ _ _ _ _ | exact Kd.Q_nil _ _ _ _ _ | exact Kd.S_nil _ _ _ _ _, by repeat (first | (with_reducible first | exact HB.out | apply zg | apply zh | apply zi | refine zr ?_ (IsS153.ge HI228.out) | refine zr ?_ GE224.out | refine zr ?_ GE227.out) | exact HB.out)⟩
        ·replace c56 := Bool.eq_false_iff.mpr c56
         subst c56
         have H1 : (if x229001_1 = (t224.size : Int) then ((impl_NodeOk.f k1 ((bt t224 0) == 108) x228001_1 x228002_1 x228003_1).bind fun t251 => (if t251 = true then (some (((bt t224 0) == 108), x228001_1, x228002_1, x228003_1, true)) else (some (false, ([] : List ByteArray), ([] : List ByteArray), ([] : List Int), false)))) else (some (false, ([] : List ByteArray), ([] : List ByteArray), ([] : List Int), false))) = some (r1, r2, r3, r4, r5) := by rw [if_neg (show ¬ (false = true) by decide)] at H; exact H
         clear H
         have H := H1
         clear H1
         by_cases c61 : x229001_1 = (t224.size : Int)
         ·rw [if_pos c61] at H
          have c61b0 : (x229001_1 == (t224.size : Int)) = true := beq_iff_eq.mpr c61
          have c61b1 : (x229001_1 != (t224.size : Int)) = false := bne_eq_false_iff_eq.mpr c61
          clear c61
          replace H := Option.bind_eq_some_iff.mp H
          obtain ⟨t251, A620, H⟩ := H
          replace H : (if t251 = true then (some (((bt t224 0) == 108), x228001_1, x228002_1, x228003_1, true)) else (some (false, ([] : List ByteArray), ([] : List ByteArray), ([] : List Int), false))) = some (r1, r2, r3, r4, r5) := H
          have A62 := zj A620
          clear A620
          by_cases c63 : t251 = true
          ·subst c63
           have H1 : (some (((bt t224 0) == 108), x228001_1, x228002_1, x228003_1, true)) = some (r1, r2, r3, r4, r5) := by rw [if_pos rfl] at H; exact H
           clear H
           have H := H1
           clear H1
           simp only [Option.some.injEq, Prod.mk.injEq] at H
           obtain ⟨rfl, rfl, rfl, rfl, rfl⟩ := H
           obtain ⟨HGz64, hgz64⟩ := HI228.out
           have hcz64_0 := cellS153_0 HGz64
           have hcz64_1 := cellS153_1 HGz64
           have hcz64_2 := cellS153_2 HGz64
           have hfz64_0 := zu HGz64 0
           have hfz64_1 := zu HGz64 1
           have hfz64_2 := zu HGz64 2
           clear HGz64 hgz64
           have hnb65 := NB227_224.out
           have hnc65 := NB224_227.out
           have hnb66 := NB227_228.out
           have hnc66 := NB228_227.out
           have hcz67_0 : wr.cell? ⟨gb227, 0, none⟩ = some (.bool ((bt t224 0) == 108)) := (zq BK227.out 0).trans rfl
           have hcz67_1 : wr.cell? ⟨gb227, 1, none⟩ = some (u228001) := (zq BK227.out 1).trans rfl
           have hcz67_2 : wr.cell? ⟨gb227, 2, none⟩ = some (u228002) := (zq BK227.out 2).trans rfl
           have hcz67_3 : wr.cell? ⟨gb227, 3, none⟩ = some (u228003) := (zq BK227.out 3).trans rfl
           have hfz67_0 := zu BK227.out 0
           have hfz67_1 := zu BK227.out 1
           have hfz67_2 := zu BK227.out 2
           have hfz67_3 := zu BK227.out 3
           obtain ⟨Ao68, co68, eo68⟩ := Kd.R_slice HO_228001.out
           subst eo68
           obtain ⟨Ao69, co69, eo69⟩ := Kd.R_slice HO_228002.out
           subst eo69
           obtain ⟨Ao70, co70, eo70⟩ := Kd.R_slice HO_228003.out
           subst eo70
           go_wp2_with (first | (go_at_call 84; (with_reducible refine (impl_NodeOk.calls k1 ((bt t224 0) == 108) _ _ x228001_1 _ _ x228002_1 _ _ x228003_1 true _ ?side1 ?side2 ?side3 ?side4 ?side5 ?side6 A62.out).mono ?_); (case side1 => repeat (first | exact (Kd.R_reads' HO_228001.out).2.2 | (with_reducible refine Kd.C_alloc ?_ _) | (with_reducible refine Kd.C_drewN ?_ _) | (with_reducible refine Kd.C_drew ?_))); (case side2 => exact (Kd.R_reads' HO_228001.out).2.1); (case side3 => repeat (first | exact (Kd.R_reads' HO_228002.out).2.2 | (with_reducible refine Kd.C_alloc ?_ _) | (with_reducible refine Kd.C_drewN ?_ _) | (with_reducible refine Kd.C_drew ?_))); (case side4 => exact (Kd.R_reads' HO_228002.out).2.1); (case side5 => repeat (first | exact (Kd.R_reads' HO_228003.out).2.2 | (with_reducible refine Kd.C_alloc ?_ _) | (with_reducible refine Kd.C_drewN ?_ _) | (with_reducible refine Kd.C_drew ?_))); (case side6 => exact (Kd.R_reads' HO_228003.out).2.1); rintro e w71 ⟨rfl, hb⟩; have n0_ := zj (zs (by (with_reducible repeat (first | apply zd | apply ze | apply zf)); exact HO_228001.out) hb); have n1_ := zj (zs (by (with_reducible repeat (first | apply zd | apply ze | apply zf)); exact HO_228002.out) hb); have n2_ := zj (zs (by (with_reducible repeat (first | apply zd | apply ze | apply zf)); exact HO_228003.out) hb); have n3_ := zj (zo (g := gb224) (o := .cells #[.bool false, .slice none 0 0, .slice none 0 0, .slice none 0 0] 29 (0, 0)) (by (with_reducible repeat (first | refine za ?_ _ | refine zb ?_ | refine zc ?_ _)); exact BK224.out) hb); have n4_ := zj (zo (g := gb227) (o := .cells #[.bool ((bt t224 0) == 108), .slice Ao68 x228001_1.length co68, .slice Ao69 x228002_1.length co69, .slice Ao70 x228003_1.length co70] 29 (0, 0)) (by (with_reducible repeat (first | refine za ?_ _ | refine zb ?_ | refine zc ?_ _)); exact BK227.out) hb); have n5_ := zj (IsS153.below (by repeat (first | (with_reducible first | exact HI228.out | apply IsS153.alloc | apply IsS153.drewN | apply IsS153.drew | apply IsS153.set_0 | apply IsS153.set_1 | apply IsS153.set_2 | apply IsS153.far (hne := NB228_224.out) | apply IsS153.far (hne := NB228_227.out)) | apply IsS153.far (hne := NB228_224.out) | apply IsS153.far (hne := NB228_227.out) | exact HI228.out)) hb); have n6_ := zj (zl (by repeat (first | (with_reducible first | exact HB.out | apply zg | apply zh | apply zi | refine zr ?_ (IsS153.ge HI228.out) | refine zr ?_ GE224.out | refine zr ?_ GE227.out) | exact HB.out)) hb); clear HO_228001; clear HO_228002; clear HO_228003; clear BK224; clear BK227; clear HI228; clear HB; have HO_228001 := n0_; have HO_228002 := n1_; have HO_228003 := n2_; have BK224 := n3_; have BK227 := n4_; have HI228 := n5_; have HB := n6_; clear n0_ n1_ n2_ n3_ n4_ n5_ n6_; (try clear hb); (try clear hb2); (try clear hk); (try clear hi); have hcz72_0 : w71.cell? ⟨gb227, 0, none⟩ = some (.bool ((bt t224 0) == 108)) := (zq BK227.out 0).trans rfl; have hcz72_1 : w71.cell? ⟨gb227, 1, none⟩ = some (.slice Ao68 x228001_1.length co68) := (zq BK227.out 1).trans rfl; have hcz72_2 : w71.cell? ⟨gb227, 2, none⟩ = some (.slice Ao69 x228002_1.length co69) := (zq BK227.out 2).trans rfl; have hcz72_3 : w71.cell? ⟨gb227, 3, none⟩ = some (.slice Ao70 x228003_1.length co70) := (zq BK227.out 3).trans rfl; have hfz72_0 := zu BK227.out 0; have hfz72_1 := zu BK227.out 1; have hfz72_2 := zu BK227.out 2; have hfz72_3 := zu BK227.out 3; have hnb73 := NB224_228.out; have hnc73 := NB228_224.out; have hcz74_0 : w71.cell? ⟨gb224, 0, none⟩ = some (.bool false) := (zq BK224.out 0).trans rfl; have hcz74_1 : w71.cell? ⟨gb224, 1, none⟩ = some (.slice none 0 0) := (zq BK224.out 1).trans rfl; have hcz74_2 : w71.cell? ⟨gb224, 2, none⟩ = some (.slice none 0 0) := (zq BK224.out 2).trans rfl; have hcz74_3 : w71.cell? ⟨gb224, 3, none⟩ = some (.slice none 0 0) := (zq BK224.out 3).trans rfl; have hfz74_0 := zu BK224.out 0; have hfz74_1 := zu BK224.out 1; have hfz74_2 := zu BK224.out 2; have hfz74_3 := zu BK224.out 3))
           refine bodyPost_ret (results_ct rfl _ _ gb224 29 #[.bool ((bt t224 0) == 108), .slice Ao68 x228001_1.length co68, .slice Ao69 x228002_1.length co69, .slice Ao70 x228003_1.length co70] (0, 0) _ rfl (by (with_reducible repeat (first | refine za ?_ _ | refine zb ?_ | refine zc ?_ _)); refine zp (cs := #[.bool ((bt t224 0) == 108), .slice Ao68 x228001_1.length co68, .slice Ao69 x228002_1.length co69, .slice none 0 0]) ?_ 3 _ rfl; (with_reducible repeat (first | refine za ?_ _ | refine zb ?_ | refine zc ?_ _)); refine zp (cs := #[.bool ((bt t224 0) == 108), .slice Ao68 x228001_1.length co68, .slice none 0 0, .slice none 0 0]) ?_ 2 _ rfl; (with_reducible repeat (first | refine za ?_ _ | refine zb ?_ | refine zc ?_ _)); refine zp (cs := #[.bool ((bt t224 0) == 108), .slice none 0 0, .slice none 0 0, .slice none 0 0]) ?_ 1 _ rfl; (with_reducible repeat (first | refine za ?_ _ | refine zb ?_ | refine zc ?_ _)); refine zp (cs := #[.bool false, .slice none 0 0, .slice none 0 0, .slice none 0 0]) ?_ 0 _ rfl; (with_reducible repeat (first | refine za ?_ _ | refine zb ?_ | refine zc ?_ _)); exact BK224.out) Try.underlying29 rfl (by kernel_rfl)) rfl ?_
           exact ⟨_, _, _, by first | rfl | (simp [errW_none, errW_some] <;> rfl) | (simp [*, errW_none, errW_some] <;> rfl), by (with_reducible repeat (first | apply zd | apply ze | apply zf)); exact zm (zn (p := ⟨gb224, 3, none⟩) (zn (p := ⟨gb224, 2, none⟩) (zn (p := ⟨gb224, 1, none⟩) (zn (p := ⟨gb224, 0, none⟩) (zt HO_228001.out BK224.out (by decide)) (fun _ hk => hk.2) (.bool ((bt t224 0) == 108))) (fun _ hk => hk.2) (.slice Ao68 x228001_1.length co68)) (fun _ hk => hk.2) (.slice Ao69 x228002_1.length co69)) (fun _ hk => hk.2) (.slice Ao70 x228003_1.length co70)) (fun _ hk => hk.1), by (with_reducible repeat (first | apply zd | apply ze | apply zf)); exact zm (zn (p := ⟨gb224, 3, none⟩) (zn (p := ⟨gb224, 2, none⟩) (zn (p := ⟨gb224, 1, none⟩) (zn (p := ⟨gb224, 0, none⟩) (zt HO_228002.out BK224.out (by decide)) (fun _ hk => hk.2) (.bool ((bt t224 0) == 108))) (fun _ hk => hk.2) (.slice Ao68 x228001_1.length co68)) (fun _ hk => hk.2) (.slice Ao69 x228002_1.length co69)) (fun _ hk => hk.2) (.slice Ao70 x228003_1.length co70)) (fun _ hk => hk.1), by (with_reducible repeat (first | apply zd | apply ze | apply zf)); exact zm (zn (p := ⟨gb224, 3, none⟩) (zn (p := ⟨gb224, 2, none⟩) (zn (p := ⟨gb224, 1, none⟩) (zn (p := ⟨gb224, 0, none⟩) (zt HO_228003.out BK224.out (by decide)) (fun _ hk => hk.2) (.bool ((bt t224 0) == 108))) (fun _ hk => hk.2) (.slice Ao68 x228001_1.length co68)) (fun _ hk => hk.2) (.slice Ao69 x228002_1.length co69)) (fun _ hk => hk.2) (.slice Ao70 x228003_1.length co70)) (fun _ hk => trivial), by repeat (first | (with_reducible first | exact HB.out | apply zg | apply zh | apply zi | refine zr ?_ (IsS153.ge HI228.out) | refine zr ?_ GE224.out | refine zr ?_ GE227.out) | exact HB.out)⟩
          ·replace c63 := Bool.eq_false_iff.mpr c63
           subst c63
           have H1 : (some (false, ([] : List ByteArray), ([] : List ByteArray), ([] : List Int), false)) = some (r1, r2, r3, r4, r5) := by rw [if_neg (show ¬ (false = true) by decide)] at H; exact H
           clear H
           have H := H1
           clear H1
           simp only [Option.some.injEq, Prod.mk.injEq] at H
           obtain ⟨rfl, rfl, rfl, rfl, rfl⟩ := H
           obtain ⟨HGz75, hgz75⟩ := HI228.out
           have hcz75_0 := cellS153_0 HGz75
           have hcz75_1 := cellS153_1 HGz75
           have hcz75_2 := cellS153_2 HGz75
           have hfz75_0 := zu HGz75 0
           have hfz75_1 := zu HGz75 1
           have hfz75_2 := zu HGz75 2
           clear HGz75 hgz75
           have hnb76 := NB227_224.out
           have hnc76 := NB224_227.out
           have hnb77 := NB227_228.out
           have hnc77 := NB228_227.out
           have hcz78_0 : wr.cell? ⟨gb227, 0, none⟩ = some (.bool ((bt t224 0) == 108)) := (zq BK227.out 0).trans rfl
           have hcz78_1 : wr.cell? ⟨gb227, 1, none⟩ = some (u228001) := (zq BK227.out 1).trans rfl
           have hcz78_2 : wr.cell? ⟨gb227, 2, none⟩ = some (u228002) := (zq BK227.out 2).trans rfl
           have hcz78_3 : wr.cell? ⟨gb227, 3, none⟩ = some (u228003) := (zq BK227.out 3).trans rfl
           have hfz78_0 := zu BK227.out 0
           have hfz78_1 := zu BK227.out 1
           have hfz78_2 := zu BK227.out 2
           have hfz78_3 := zu BK227.out 3
           obtain ⟨Ao79, co79, eo79⟩ := Kd.R_slice HO_228001.out
           subst eo79
           obtain ⟨Ao80, co80, eo80⟩ := Kd.R_slice HO_228002.out
           subst eo80
           obtain ⟨Ao81, co81, eo81⟩ := Kd.R_slice HO_228003.out
           subst eo81
           go_wp2_with (first | (go_at_call 84; (with_reducible refine (impl_NodeOk.calls k1 ((bt t224 0) == 108) _ _ x228001_1 _ _ x228002_1 _ _ x228003_1 false _ ?side1 ?side2 ?side3 ?side4 ?side5 ?side6 A62.out).mono ?_); (case side1 => repeat (first | exact (Kd.R_reads' HO_228001.out).2.2 | (with_reducible refine Kd.C_alloc ?_ _) | (with_reducible refine Kd.C_drewN ?_ _) | (with_reducible refine Kd.C_drew ?_))); (case side2 => exact (Kd.R_reads' HO_228001.out).2.1); (case side3 => repeat (first | exact (Kd.R_reads' HO_228002.out).2.2 | (with_reducible refine Kd.C_alloc ?_ _) | (with_reducible refine Kd.C_drewN ?_ _) | (with_reducible refine Kd.C_drew ?_))); (case side4 => exact (Kd.R_reads' HO_228002.out).2.1); (case side5 => repeat (first | exact (Kd.R_reads' HO_228003.out).2.2 | (with_reducible refine Kd.C_alloc ?_ _) | (with_reducible refine Kd.C_drewN ?_ _) | (with_reducible refine Kd.C_drew ?_))); (case side6 => exact (Kd.R_reads' HO_228003.out).2.1); rintro e w82 ⟨rfl, hb⟩; have n0_ := zj (zs (by (with_reducible repeat (first | apply zd | apply ze | apply zf)); exact HO_228001.out) hb); have n1_ := zj (zs (by (with_reducible repeat (first | apply zd | apply ze | apply zf)); exact HO_228002.out) hb); have n2_ := zj (zs (by (with_reducible repeat (first | apply zd | apply ze | apply zf)); exact HO_228003.out) hb); have n3_ := zj (zo (g := gb224) (o := .cells #[.bool false, .slice none 0 0, .slice none 0 0, .slice none 0 0] 29 (0, 0)) (by (with_reducible repeat (first | refine za ?_ _ | refine zb ?_ | refine zc ?_ _)); exact BK224.out) hb); have n4_ := zj (zo (g := gb227) (o := .cells #[.bool ((bt t224 0) == 108), .slice Ao79 x228001_1.length co79, .slice Ao80 x228002_1.length co80, .slice Ao81 x228003_1.length co81] 29 (0, 0)) (by (with_reducible repeat (first | refine za ?_ _ | refine zb ?_ | refine zc ?_ _)); exact BK227.out) hb); have n5_ := zj (IsS153.below (by repeat (first | (with_reducible first | exact HI228.out | apply IsS153.alloc | apply IsS153.drewN | apply IsS153.drew | apply IsS153.set_0 | apply IsS153.set_1 | apply IsS153.set_2 | apply IsS153.far (hne := NB228_224.out) | apply IsS153.far (hne := NB228_227.out)) | apply IsS153.far (hne := NB228_224.out) | apply IsS153.far (hne := NB228_227.out) | exact HI228.out)) hb); have n6_ := zj (zl (by repeat (first | (with_reducible first | exact HB.out | apply zg | apply zh | apply zi | refine zr ?_ (IsS153.ge HI228.out) | refine zr ?_ GE224.out | refine zr ?_ GE227.out) | exact HB.out)) hb); clear HO_228001; clear HO_228002; clear HO_228003; clear BK224; clear BK227; clear HI228; clear HB; have HO_228001 := n0_; have HO_228002 := n1_; have HO_228003 := n2_; have BK224 := n3_; have BK227 := n4_; have HI228 := n5_; have HB := n6_; clear n0_ n1_ n2_ n3_ n4_ n5_ n6_; (try clear hb); (try clear hb2); (try clear hk); (try clear hi); have hnb83 := NB224_228.out; have hnc83 := NB228_224.out; have hcz84_0 : w82.cell? ⟨gb224, 0, none⟩ = some (.bool false) := (zq BK224.out 0).trans rfl; have hcz84_1 : w82.cell? ⟨gb224, 1, none⟩ = some (.slice none 0 0) := (zq BK224.out 1).trans rfl; have hcz84_2 : w82.cell? ⟨gb224, 2, none⟩ = some (.slice none 0 0) := (zq BK224.out 2).trans rfl; have hcz84_3 : w82.cell? ⟨gb224, 3, none⟩ = some (.slice none 0 0) := (zq BK224.out 3).trans rfl; have hfz84_0 := zu BK224.out 0; have hfz84_1 := zu BK224.out 1; have hfz84_2 := zu BK224.out 2; have hfz84_3 := zu BK224.out 3))
           refine bodyPost_ret (results_ct rfl _ _ gb224 29 #[.bool false, .slice none 0 0, .slice none 0 0, .slice none 0 0] (0, 0) _ rfl (by (with_reducible repeat (first | refine za ?_ _ | refine zb ?_ | refine zc ?_ _)); refine zp (cs := #[.bool false, .slice none 0 0, .slice none 0 0, .slice none 0 0]) ?_ 3 _ rfl; (with_reducible repeat (first | refine za ?_ _ | refine zb ?_ | refine zc ?_ _)); refine zp (cs := #[.bool false, .slice none 0 0, .slice none 0 0, .slice none 0 0]) ?_ 2 _ rfl; (with_reducible repeat (first | refine za ?_ _ | refine zb ?_ | refine zc ?_ _)); refine zp (cs := #[.bool false, .slice none 0 0, .slice none 0 0, .slice none 0 0]) ?_ 1 _ rfl; (with_reducible repeat (first | refine za ?_ _ | refine zb ?_ | refine zc ?_ _)); refine zp (cs := #[.bool false, .slice none 0 0, .slice none 0 0, .slice none 0 0]) ?_ 0 _ rfl; (with_reducible repeat (first | refine za ?_ _ | refine zb ?_ | refine zc ?_ _)); exact BK224.out) Try.underlying29 rfl (by kernel_rfl)) rfl ?_
           exact ⟨_, _, _, by first | rfl | (simp [errW_none, errW_some] <;> rfl) | (simp [*, errW_none, errW_some] <;> rfl), by first | exact Kd.R_nil _ _ _ _ _ | exact Kd.N_nil _ _ _ _ _ | exact Kd.V_nil _ _ _ _ _ | exact Kd.Q_nil _ _ _ _ _ | exact Kd.S_nil _ _ _ _ _, by first | exact Kd.R_nil _ _ _ _ _ | exact Kd.N_nil _ _ _ _ _ | exact Kd.V_nil _ _ _ _ _ | exact Kd.Q_nil _ _ _ _ _ | exact Kd.S_nil _ _ _ _ _, by first | exact Kd.R_nil _ _ _ _ _ | exact Kd.N_nil _ _ _ _ _ | exact Kd.V_nil _ _ _ _ _ | exact Kd.Q_nil _ _ _ _ _ | exact Kd.S_nil _ _ _ _ _, by repeat (first | (with_reducible first | exact HB.out | apply zg | apply zh | apply zi | refine zr ?_ (IsS153.ge HI228.out) | refine zr ?_ GE224.out | refine zr ?_ GE227.out) | exact HB.out)⟩
         ·rw [if_neg c61] at H
          have c61b0 : (x229001_1 == (t224.size : Int)) = false := beq_eq_false_iff_ne.mpr c61
          have c61b1 : (x229001_1 != (t224.size : Int)) = true := bne_iff_ne.mpr c61
          simp only [Option.some.injEq, Prod.mk.injEq] at H
          obtain ⟨rfl, rfl, rfl, rfl, rfl⟩ := H
          obtain ⟨HGz85, hgz85⟩ := HI228.out
          have hcz85_0 := cellS153_0 HGz85
          have hcz85_1 := cellS153_1 HGz85
          have hcz85_2 := cellS153_2 HGz85
          have hfz85_0 := zu HGz85 0
          have hfz85_1 := zu HGz85 1
          have hfz85_2 := zu HGz85 2
          clear HGz85 hgz85
          have hnb86 := NB224_227.out
          have hnc86 := NB227_224.out
          have hnb87 := NB224_228.out
          have hnc87 := NB228_224.out
          have hcz88_0 : wr.cell? ⟨gb224, 0, none⟩ = some (.bool false) := (zq BK224.out 0).trans rfl
          have hcz88_1 : wr.cell? ⟨gb224, 1, none⟩ = some (.slice none 0 0) := (zq BK224.out 1).trans rfl
          have hcz88_2 : wr.cell? ⟨gb224, 2, none⟩ = some (.slice none 0 0) := (zq BK224.out 2).trans rfl
          have hcz88_3 : wr.cell? ⟨gb224, 3, none⟩ = some (.slice none 0 0) := (zq BK224.out 3).trans rfl
          have hfz88_0 := zu BK224.out 0
          have hfz88_1 := zu BK224.out 1
          have hfz88_2 := zu BK224.out 2
          have hfz88_3 := zu BK224.out 3
          go_wp2
          refine bodyPost_ret (results_ct rfl _ _ gb224 29 #[.bool false, .slice none 0 0, .slice none 0 0, .slice none 0 0] (0, 0) _ rfl (by (with_reducible repeat (first | refine za ?_ _ | refine zb ?_ | refine zc ?_ _)); refine zp (cs := #[.bool false, .slice none 0 0, .slice none 0 0, .slice none 0 0]) ?_ 3 _ rfl; (with_reducible repeat (first | refine za ?_ _ | refine zb ?_ | refine zc ?_ _)); refine zp (cs := #[.bool false, .slice none 0 0, .slice none 0 0, .slice none 0 0]) ?_ 2 _ rfl; (with_reducible repeat (first | refine za ?_ _ | refine zb ?_ | refine zc ?_ _)); refine zp (cs := #[.bool false, .slice none 0 0, .slice none 0 0, .slice none 0 0]) ?_ 1 _ rfl; (with_reducible repeat (first | refine za ?_ _ | refine zb ?_ | refine zc ?_ _)); refine zp (cs := #[.bool false, .slice none 0 0, .slice none 0 0, .slice none 0 0]) ?_ 0 _ rfl; (with_reducible repeat (first | refine za ?_ _ | refine zb ?_ | refine zc ?_ _)); exact BK224.out) Try.underlying29 rfl (by kernel_rfl)) rfl ?_
          exact ⟨_, _, _, by first | rfl | (simp [errW_none, errW_some] <;> rfl) | (simp [*, errW_none, errW_some] <;> rfl), by first | exact Kd.R_nil _ _ _ _ _ | exact Kd.N_nil _ _ _ _ _ | exact Kd.V_nil _ _ _ _ _ | exact Kd.Q_nil _ _ _ _ _ | exact Kd.S_nil _ _ _ _ _, by first | exact Kd.R_nil _ _ _ _ _ | exact Kd.N_nil _ _ _ _ _ | exact Kd.V_nil _ _ _ _ _ | exact Kd.Q_nil _ _ _ _ _ | exact Kd.S_nil _ _ _ _ _, by first | exact Kd.R_nil _ _ _ _ _ | exact Kd.N_nil _ _ _ _ _ | exact Kd.V_nil _ _ _ _ _ | exact Kd.Q_nil _ _ _ _ _ | exact Kd.S_nil _ _ _ _ _, by repeat (first | (with_reducible first | exact HB.out | apply zg | apply zh | apply zi | refine zr ?_ (IsS153.ge HI228.out) | refine zr ?_ GE224.out | refine zr ?_ GE227.out) | exact HB.out)⟩
    ·rw [if_neg c11] at H
     have c11b1 : ((bt t224 0) != 108) = true := bne_iff_ne.mpr c11
     replace H := Option.bind_eq_some_iff.mp H
     obtain ⟨⟨t252, t253, t254, t255⟩, A900, H⟩ := H
     replace H : (impl_ReadNode.l0 k t224 t252 0 ((bt t224 0) == 108) ([] : List ByteArray) ([] : List ByteArray) ([] : List Int) t253 t254 t255) = some (r1, r2, r3, r4, r5) := H
     have A90 := zj A900
     clear A900
     have H' := zj H
     clear H
     go_enter Try.func57, Try.ntmps57
     go_wp2_with (first | ((with_reducible refine gate_dst (N := 2) rfl ?_); (try (refine gate_guard (by rfl) ?_; dsimp only)); refine box_event ?hg (N := 2) ?hd (cs := #[.bool false, .slice none 0 0, .slice none 0 0, .slice none 0 0]) (t := 29) ?hr ?_; (case hd => rfl); (case hg => rfl); (case hr => first | (go_simp; done) | (go_simp; rfl)); intro gb224 hg w91 hbox hb; have n0_ := zj (zl (by repeat (first | (with_reducible first | exact HB.out | apply zg | apply zh | apply zi) | exact HB.out)) hb); have n1_ := zj (hbox); have n2_ := zj ((by rw [hg]; exact (zk (by repeat (first | (with_reducible first | exact HB.out | apply zg | apply zh | apply zi) | exact HB.out))) : w.heap.size ≤ gb224)); have n3_ := zj ((by rw [hg]; exact (zk (by repeat (first | (with_reducible first | exact HB.out | apply zg | apply zh | apply zi) | exact HB.out))) : w.heap.size ≤ gb224)); clear HB; have HB := n0_; have BK224 := n1_; have GW224 := n2_; have GE224 := n3_; clear n0_ n1_ n2_ n3_; clear hb hbox hg) | ((with_reducible refine gate_callee (f := 128) rfl ?_); refine goesL_ (some 10) rfl rfl Try.func128 (by kernel_rfl) rfl #[.string a0] rfl (by (try simp only [List.map_toArray, List.map_cons, List.map_nil]); first | done | rfl | (simp only [List.length_drop, List.length_take]; rfl)) ?_; (with_reducible refine (impl_Unsealed.calls k a0 t224 true _ A2.out).mono ?_); rintro e w92 ⟨rfl, hb⟩; refine ⟨_, rfl, ?_⟩; have n0_ := zj (zo (g := gb224) (o := .cells #[.bool false, .slice none 0 0, .slice none 0 0, .slice none 0 0] 29 (0, 0)) (by (with_reducible repeat (first | refine za ?_ _ | refine zb ?_ | refine zc ?_ _)); exact BK224.out) hb); have n1_ := zj (zl (by repeat (first | (with_reducible first | exact HB.out | apply zg | apply zh | apply zi | refine zr ?_ GE224.out) | exact HB.out)) hb); clear BK224; clear HB; have BK224 := n0_; have HB := n1_; clear n0_ n1_; (try clear hb); (try clear hb2); (try clear hk); (try clear hi); have p9 : 0 ≤ (0 : Int) := (by omega); have q9 : 0 < t224.size := (by have : (0 : Int) < (t224.size : Int) := of_decide_eq_true (by first | (with_reducible assumption) | assumption); omega); have hx9 : ∀ h : 0 < t224.size, ((t224[0]'h).toNat : Int) = bt t224 0 := bt_at t224 0; clear p9; have qi9 : (0 < (t224.size : Int)) = True := eq_true (of_decide_eq_true (by first | (with_reducible assumption) | assumption)); replace q9 := eq_true q9) | ((with_reducible refine gate_dst (N := 6) rfl ?_); (try (refine gate_guard (by rfl) ?_; dsimp only)); refine box_event ?hg (N := 6) ?hd (cs := #[.bool false, .slice none 0 0, .slice none 0 0, .slice none 0 0]) (t := 29) ?hr ?_; (case hd => rfl); (case hg => rfl); (case hr => first | (go_simp; done) | (go_simp; rfl)); intro gb227 hg w93 hbox hb; have n0_ := zj (zo (g := gb224) (o := .cells #[.bool false, .slice none 0 0, .slice none 0 0, .slice none 0 0] 29 (0, 0)) (by (with_reducible repeat (first | refine za ?_ _ | refine zb ?_ | refine zc ?_ _)); exact BK224.out) hb); have n1_ := zj (zl (by repeat (first | (with_reducible first | exact HB.out | apply zg | apply zh | apply zi | refine zr ?_ GE224.out) | exact HB.out)) hb); have n2_ := zj (hbox); have n3_ := zj ((by rw [hg]; exact (zk (by repeat (first | (with_reducible first | exact HB.out | apply zg | apply zh | apply zi | refine zr ?_ GE224.out) | exact HB.out))) : w.heap.size ≤ gb227)); have n4_ := zj ((by rw [hg]; exact (zk (by repeat (first | (with_reducible first | exact HB.out | apply zg | apply zh | apply zi | refine zr ?_ GE224.out) | exact HB.out))) : w.heap.size ≤ gb227)); have n5_ := zj ((by rw [hg]; exact Nat.ne_of_lt (blk_lt (g := gb224) (o := .cells #[.bool false, .slice none 0 0, .slice none 0 0, .slice none 0 0] 29 (0, 0)) (by (with_reducible repeat (first | refine za ?_ _ | refine zb ?_ | refine zc ?_ _)); exact BK224.out)) : gb224 ≠ gb227)); have n6_ := zj ((by rw [hg]; exact Nat.ne_of_gt (blk_lt (g := gb224) (o := .cells #[.bool false, .slice none 0 0, .slice none 0 0, .slice none 0 0] 29 (0, 0)) (by (with_reducible repeat (first | refine za ?_ _ | refine zb ?_ | refine zc ?_ _)); exact BK224.out)) : gb227 ≠ gb224)); clear BK224; clear HB; have BK224 := n0_; have HB := n1_; have BK227 := n2_; have GW227 := n3_; have GE227 := n4_; have NB224_227 := n5_; have NB227_224 := n6_; clear n0_ n1_ n2_ n3_ n4_ n5_ n6_; clear hb hbox hg; have hnb94 := NB227_224.out; have hnc94 := NB224_227.out; have hcz95_0 : w93.cell? ⟨gb227, 0, none⟩ = some (.bool false) := (zq BK227.out 0).trans rfl; have hcz95_1 : w93.cell? ⟨gb227, 1, none⟩ = some (.slice none 0 0) := (zq BK227.out 1).trans rfl; have hcz95_2 : w93.cell? ⟨gb227, 2, none⟩ = some (.slice none 0 0) := (zq BK227.out 2).trans rfl; have hcz95_3 : w93.cell? ⟨gb227, 3, none⟩ = some (.slice none 0 0) := (zq BK227.out 3).trans rfl; have hfz95_0 := zu BK227.out 0; have hfz95_1 := zu BK227.out 1; have hfz95_2 := zu BK227.out 2; have hfz95_3 := zu BK227.out 3; have p10 : 0 ≤ (0 : Int) := (by omega); have q10 : 0 < t224.size := (by have : (0 : Int) < (t224.size : Int) := of_decide_eq_true (by first | (with_reducible assumption) | assumption); omega); have hx10 : ∀ h : 0 < t224.size, ((t224[0]'h).toNat : Int) = bt t224 0 := bt_at t224 0; clear p10; have qi10 : (0 < (t224.size : Int)) = True := eq_true (of_decide_eq_true (by first | (with_reducible assumption) | assumption)); replace q10 := eq_true q10; have p89 : 0 ≤ (0 : Int) := (by omega); have q89 : 0 < t224.size := (by have : (0 : Int) < (t224.size : Int) := of_decide_eq_true (by first | (with_reducible assumption) | assumption); omega); have hx89 : ∀ h : 0 < t224.size, ((t224[0]'h).toNat : Int) = bt t224 0 := bt_at t224 0; clear p89; have qi89 : (0 < (t224.size : Int)) = True := eq_true (of_decide_eq_true (by first | (with_reducible assumption) | assumption)); replace q89 := eq_true q89) | ((with_reducible refine gate_dst (N := 34) rfl ?_); (try (refine gate_guard (by rfl) ?_; dsimp only)); refine box_event ?hg (N := 34) ?hd (cs := #[.string t224, .int .i64 1, .bool ((bt t224 0) != 98)]) (t := 153) ?hr ?_; (case hd => rfl); (case hg => rfl); (case hr => first | (go_simp; done) | (go_simp; rfl)); intro gb228 hg w96 hbox hb; have n0_ := zj (zo (g := gb224) (o := .cells #[.bool false, .slice none 0 0, .slice none 0 0, .slice none 0 0] 29 (0, 0)) (by (with_reducible repeat (first | refine za ?_ _ | refine zb ?_ | refine zc ?_ _)); refine blk_far ?_ NB224_227.out _; (with_reducible repeat (first | refine za ?_ _ | refine zb ?_ | refine zc ?_ _)); refine blk_far ?_ NB224_227.out _; (with_reducible repeat (first | refine za ?_ _ | refine zb ?_ | refine zc ?_ _)); refine blk_far ?_ NB224_227.out _; (with_reducible repeat (first | refine za ?_ _ | refine zb ?_ | refine zc ?_ _)); refine blk_far ?_ NB224_227.out _; (with_reducible repeat (first | refine za ?_ _ | refine zb ?_ | refine zc ?_ _)); exact BK224.out) hb); have n1_ := zj (zo (g := gb227) (o := .cells #[.bool ((bt t224 0) == 108), .slice none 0 0, .slice none 0 0, .slice none 0 0] 29 (0, 0)) (by (with_reducible repeat (first | refine za ?_ _ | refine zb ?_ | refine zc ?_ _)); refine zp (cs := #[.bool ((bt t224 0) == 108), .slice none 0 0, .slice none 0 0, .slice none 0 0]) ?_ 3 _ rfl; (with_reducible repeat (first | refine za ?_ _ | refine zb ?_ | refine zc ?_ _)); refine zp (cs := #[.bool ((bt t224 0) == 108), .slice none 0 0, .slice none 0 0, .slice none 0 0]) ?_ 2 _ rfl; (with_reducible repeat (first | refine za ?_ _ | refine zb ?_ | refine zc ?_ _)); refine zp (cs := #[.bool ((bt t224 0) == 108), .slice none 0 0, .slice none 0 0, .slice none 0 0]) ?_ 1 _ rfl; (with_reducible repeat (first | refine za ?_ _ | refine zb ?_ | refine zc ?_ _)); refine zp (cs := #[.bool false, .slice none 0 0, .slice none 0 0, .slice none 0 0]) ?_ 0 _ rfl; (with_reducible repeat (first | refine za ?_ _ | refine zb ?_ | refine zc ?_ _)); exact BK227.out) hb); have n2_ := zj (zl (by repeat (first | (with_reducible first | exact HB.out | apply zg | apply zh | apply zi | refine zr ?_ GE224.out | refine zr ?_ GE227.out) | exact HB.out)) hb); have n3_ := zj ((show IsS153 w w96 gb228 t224 1 ((bt t224 0) != 98) from ⟨hbox, (by rw [hg]; exact (zk (by repeat (first | (with_reducible first | exact HB.out | apply zg | apply zh | apply zi | refine zr ?_ GE224.out | refine zr ?_ GE227.out) | exact HB.out))) : w.heap.size ≤ gb228)⟩)); have n4_ := zj ((by rw [hg]; exact (zk (by repeat (first | (with_reducible first | exact HB.out | apply zg | apply zh | apply zi | refine zr ?_ GE224.out | refine zr ?_ GE227.out) | exact HB.out))) : w.heap.size ≤ gb228)); have n5_ := zj ((by rw [hg]; exact (zk (by repeat (first | (with_reducible first | exact HB.out | apply zg | apply zh | apply zi | refine zr ?_ GE224.out | refine zr ?_ GE227.out) | exact HB.out))) : w.heap.size ≤ gb228)); have n6_ := zj ((by rw [hg]; exact Nat.ne_of_lt (blk_lt (g := gb224) (o := .cells #[.bool false, .slice none 0 0, .slice none 0 0, .slice none 0 0] 29 (0, 0)) (by (with_reducible repeat (first | refine za ?_ _ | refine zb ?_ | refine zc ?_ _)); refine blk_far ?_ NB224_227.out _; (with_reducible repeat (first | refine za ?_ _ | refine zb ?_ | refine zc ?_ _)); refine blk_far ?_ NB224_227.out _; (with_reducible repeat (first | refine za ?_ _ | refine zb ?_ | refine zc ?_ _)); refine blk_far ?_ NB224_227.out _; (with_reducible repeat (first | refine za ?_ _ | refine zb ?_ | refine zc ?_ _)); refine blk_far ?_ NB224_227.out _; (with_reducible repeat (first | refine za ?_ _ | refine zb ?_ | refine zc ?_ _)); exact BK224.out)) : gb224 ≠ gb228)); have n7_ := zj ((by rw [hg]; exact Nat.ne_of_gt (blk_lt (g := gb224) (o := .cells #[.bool false, .slice none 0 0, .slice none 0 0, .slice none 0 0] 29 (0, 0)) (by (with_reducible repeat (first | refine za ?_ _ | refine zb ?_ | refine zc ?_ _)); refine blk_far ?_ NB224_227.out _; (with_reducible repeat (first | refine za ?_ _ | refine zb ?_ | refine zc ?_ _)); refine blk_far ?_ NB224_227.out _; (with_reducible repeat (first | refine za ?_ _ | refine zb ?_ | refine zc ?_ _)); refine blk_far ?_ NB224_227.out _; (with_reducible repeat (first | refine za ?_ _ | refine zb ?_ | refine zc ?_ _)); refine blk_far ?_ NB224_227.out _; (with_reducible repeat (first | refine za ?_ _ | refine zb ?_ | refine zc ?_ _)); exact BK224.out)) : gb228 ≠ gb224)); have n8_ := zj ((by rw [hg]; exact Nat.ne_of_lt (blk_lt (g := gb227) (o := .cells #[.bool ((bt t224 0) == 108), .slice none 0 0, .slice none 0 0, .slice none 0 0] 29 (0, 0)) (by (with_reducible repeat (first | refine za ?_ _ | refine zb ?_ | refine zc ?_ _)); refine zp (cs := #[.bool ((bt t224 0) == 108), .slice none 0 0, .slice none 0 0, .slice none 0 0]) ?_ 3 _ rfl; (with_reducible repeat (first | refine za ?_ _ | refine zb ?_ | refine zc ?_ _)); refine zp (cs := #[.bool ((bt t224 0) == 108), .slice none 0 0, .slice none 0 0, .slice none 0 0]) ?_ 2 _ rfl; (with_reducible repeat (first | refine za ?_ _ | refine zb ?_ | refine zc ?_ _)); refine zp (cs := #[.bool ((bt t224 0) == 108), .slice none 0 0, .slice none 0 0, .slice none 0 0]) ?_ 1 _ rfl; (with_reducible repeat (first | refine za ?_ _ | refine zb ?_ | refine zc ?_ _)); refine zp (cs := #[.bool false, .slice none 0 0, .slice none 0 0, .slice none 0 0]) ?_ 0 _ rfl; (with_reducible repeat (first | refine za ?_ _ | refine zb ?_ | refine zc ?_ _)); exact BK227.out)) : gb227 ≠ gb228)); have n9_ := zj ((by rw [hg]; exact Nat.ne_of_gt (blk_lt (g := gb227) (o := .cells #[.bool ((bt t224 0) == 108), .slice none 0 0, .slice none 0 0, .slice none 0 0] 29 (0, 0)) (by (with_reducible repeat (first | refine za ?_ _ | refine zb ?_ | refine zc ?_ _)); refine zp (cs := #[.bool ((bt t224 0) == 108), .slice none 0 0, .slice none 0 0, .slice none 0 0]) ?_ 3 _ rfl; (with_reducible repeat (first | refine za ?_ _ | refine zb ?_ | refine zc ?_ _)); refine zp (cs := #[.bool ((bt t224 0) == 108), .slice none 0 0, .slice none 0 0, .slice none 0 0]) ?_ 2 _ rfl; (with_reducible repeat (first | refine za ?_ _ | refine zb ?_ | refine zc ?_ _)); refine zp (cs := #[.bool ((bt t224 0) == 108), .slice none 0 0, .slice none 0 0, .slice none 0 0]) ?_ 1 _ rfl; (with_reducible repeat (first | refine za ?_ _ | refine zb ?_ | refine zc ?_ _)); refine zp (cs := #[.bool false, .slice none 0 0, .slice none 0 0, .slice none 0 0]) ?_ 0 _ rfl; (with_reducible repeat (first | refine za ?_ _ | refine zb ?_ | refine zc ?_ _)); exact BK227.out)) : gb228 ≠ gb227)); clear BK224; clear BK227; clear HB; have BK224 := n0_; have BK227 := n1_; have HB := n2_; have HI228 := n3_; have GW228 := n4_; have GE228 := n5_; have NB224_228 := n6_; have NB228_224 := n7_; have NB227_228 := n8_; have NB228_227 := n9_; clear n0_ n1_ n2_ n3_ n4_ n5_ n6_ n7_ n8_ n9_; clear hb hbox hg) | ((with_reducible refine gate_callee (f := 129) rfl ?_); refine goesL_ (some 36) rfl rfl Try.func129 (by kernel_rfl) rfl #[.pointer (some ⟨gb228, 0, none⟩), .int .i64 4] rfl (by (try simp only [List.map_toArray, List.map_cons, List.map_nil]); first | done | rfl | (simp only [List.length_drop, List.length_take]; rfl)) ?_; (with_reducible refine (impl_reader_num.calls k gb228 t224 1 ((bt t224 0) != 98) 4 t252 t253 t254 t255 w _ ?side1 ?side2 A90.out).mono ?_); (case side1 => repeat (first | (with_reducible first | exact HI228.out | apply IsS153.alloc | apply IsS153.drewN | apply IsS153.drew | apply IsS153.set_0 | apply IsS153.set_1 | apply IsS153.set_2 | apply IsS153.far (hne := NB228_224.out) | apply IsS153.far (hne := NB228_227.out)) | apply IsS153.far (hne := NB228_224.out) | apply IsS153.far (hne := NB228_227.out) | exact HI228.out)); (case side2 => repeat (first | (with_reducible first | exact HB.out | apply zg | apply zh | apply zi | refine zr ?_ (IsS153.ge HI228.out) | refine zr ?_ GE224.out | refine zr ?_ GE227.out) | exact HB.out)); rintro e w97 ⟨rfl, hi, hb, hk⟩; refine ⟨_, rfl, ?_⟩; have n0_ := zj (KeepBut.blk hk (g' := gb224) (o := .cells #[.bool false, .slice none 0 0, .slice none 0 0, .slice none 0 0] 29 (0, 0)) (by (with_reducible repeat (first | refine za ?_ _ | refine zb ?_ | refine zc ?_ _)); exact BK224.out) NB224_228.out (by simp)); have n1_ := zj (KeepBut.blk hk (g' := gb227) (o := .cells #[.bool ((bt t224 0) == 108), .slice none 0 0, .slice none 0 0, .slice none 0 0] 29 (0, 0)) (by (with_reducible repeat (first | refine za ?_ _ | refine zb ?_ | refine zc ?_ _)); exact BK227.out) NB227_228.out (by simp)); have n2_ := zj (hb); have n3_ := zj (hi); clear BK224; clear BK227; clear HB; clear HI228; have BK224 := n0_; have BK227 := n1_; have HB := n2_; have HI228 := n3_; clear n0_ n1_ n2_ n3_; (try clear hb); (try clear hb2); (try clear hk); (try clear hi)))
     go_loopg [37] k (fun kq v37 w' => ∃ (x37_1 : Int) (x228001_1 : List ByteArray) (x228002_1 : List ByteArray) (x228003_1 : List Int) (x229000_1 : ByteArray) (x229001_1 : Int) (x229002_1 : Bool) (u228001 : Value) (u228002 : Value) (u228003 : Value), v37 = .int .i64 x37_1 ∧ Aside0 (impl_ReadNode.l0 kq t224 t252 x37_1 ((bt t224 0) == 108) x228001_1 x228002_1 x228003_1 x229000_1 x229001_1 x229002_1 = some (r1, r2, r3, r4, r5)) ∧ Aside0 (kq ≤ k) ∧ Aside0 (Kd.R Kd.string 9 w' w.heap.size (fun k_ => some k_ ≠ (u228002 : Value).ownBlock) u228001 x228001_1) ∧ Aside0 (Kd.R Kd.string 9 w' w.heap.size (fun k_ => some k_ ≠ (u228001 : Value).ownBlock) u228002 x228002_1) ∧ Aside0 (Kd.R (Kd.int .i64) 3 w' w.heap.size (fun _ => True) u228003 x228003_1) ∧ Aside0 (w'.heap[gb224]? = some (.cells #[.bool false, (.slice none 0 0), (.slice none 0 0), (.slice none 0 0)] 29 (0, 0))) ∧ Aside0 (w'.heap[gb227]? = some (.cells #[.bool ((bt t224 0) == 108), u228001, u228002, u228003] 29 (0, 0))) ∧ Aside0 (IsS153 w w' gb228 x229000_1 x229001_1 x229002_1) ∧ Aside0 (Below w.heap.size w w'))
     case atStart => exact ⟨(0), (([] : List ByteArray)), (([] : List ByteArray)), (([] : List Int)), (t253), (t254), (t255), (.slice none 0 0), (.slice none 0 0), (.slice none 0 0), (by first | rfl | (simp; done) | (simp [*]; done)), H', ⟨Nat.le_refl _⟩, ⟨by first | exact Kd.R_nil _ _ _ _ _ | exact Kd.N_nil _ _ _ _ _ | exact Kd.V_nil _ _ _ _ _ | exact Kd.Q_nil _ _ _ _ _ | exact Kd.S_nil _ _ _ _ _⟩, ⟨by first | exact Kd.R_nil _ _ _ _ _ | exact Kd.N_nil _ _ _ _ _ | exact Kd.V_nil _ _ _ _ _ | exact Kd.Q_nil _ _ _ _ _ | exact Kd.S_nil _ _ _ _ _⟩, ⟨by first | exact Kd.R_nil _ _ _ _ _ | exact Kd.N_nil _ _ _ _ _ | exact Kd.V_nil _ _ _ _ _ | exact Kd.Q_nil _ _ _ _ _ | exact Kd.S_nil _ _ _ _ _⟩, ⟨by (with_reducible repeat (first | refine za ?_ _ | refine zb ?_ | refine zc ?_ _)); exact BK224.out⟩, ⟨by (with_reducible repeat (first | refine za ?_ _ | refine zb ?_ | refine zc ?_ _)); exact BK227.out⟩, ⟨by repeat (first | (with_reducible first | exact HI228.out | apply IsS153.alloc | apply IsS153.drewN | apply IsS153.drew | apply IsS153.set_0 | apply IsS153.set_1 | apply IsS153.set_2 | apply IsS153.far (hne := NB228_224.out) | apply IsS153.far (hne := NB228_227.out)) | apply IsS153.far (hne := NB228_224.out) | apply IsS153.far (hne := NB228_227.out) | exact HI228.out)⟩, ⟨by repeat (first | (with_reducible first | exact HB.out | apply zg | apply zh | apply zi | refine zr ?_ (IsS153.ge HI228.out) | refine zr ?_ GE224.out | refine zr ?_ GE227.out) | exact HB.out)⟩⟩
     case round =>
      clear H'
      try clear c1
      try clear p1
      try clear q1
      try clear hx1
      try clear qi1
      try clear c2
      try clear p2
      try clear c4
      try clear c5
      try clear c6
      try clear p6
      try clear c7
      try clear c8
      try clear p8
      try clear q8
      try clear hx8
      try clear qi8
      try clear c9
      try clear p9
      try clear q9
      try clear hx9
      try clear qi9
      try clear p10
      try clear q10
      try clear hx10
      try clear qi10
      try clear c11
      try clear c11b0
      try clear c11b1
      try clear c12
      try clear c13
      try clear c20
      try clear c20b0
      try clear c22
      try clear c23
      try clear c23b0
      try clear c23b1
      try clear c23b2
      try clear c25
      try clear c41
      try clear c47
      try clear c48
      try clear c56
      try clear c57
      try clear c58
      try clear c59
      try clear c61
      try clear c61b0
      try clear c61b1
      try clear c63
      try clear p64
      try clear c65
      try clear c66
      try clear c73
      try clear c76
      try clear c77
      try clear c83
      try clear c86
      try clear c87
      try clear p89
      try clear q89
      try clear hx89
      try clear qi89
      try clear c94
      try clear hcz49_0
      try clear hcz49_1
      try clear hcz49_2
      try clear hcz49_3
      try clear hcz57_0
      try clear hcz57_1
      try clear hcz57_2
      try clear hcz60_0
      try clear hcz60_1
      try clear hcz60_2
      try clear hcz60_3
      try clear hcz64_0
      try clear hcz64_1
      try clear hcz64_2
      try clear hcz67_0
      try clear hcz67_1
      try clear hcz67_2
      try clear hcz67_3
      try clear hcz72_0
      try clear hcz72_1
      try clear hcz72_2
      try clear hcz72_3
      try clear hcz74_0
      try clear hcz74_1
      try clear hcz74_2
      try clear hcz74_3
      try clear hcz75_0
      try clear hcz75_1
      try clear hcz75_2
      try clear hcz78_0
      try clear hcz78_1
      try clear hcz78_2
      try clear hcz78_3
      try clear hcz84_0
      try clear hcz84_1
      try clear hcz84_2
      try clear hcz84_3
      try clear hcz85_0
      try clear hcz85_1
      try clear hcz85_2
      try clear hcz88_0
      try clear hcz88_1
      try clear hcz88_2
      try clear hcz88_3
      try clear hcz95_0
      try clear hcz95_1
      try clear hcz95_2
      try clear hcz95_3
      try clear hfz49_0
      try clear hfz49_1
      try clear hfz49_2
      try clear hfz49_3
      try clear hfz57_0
      try clear hfz57_1
      try clear hfz57_2
      try clear hfz60_0
      try clear hfz60_1
      try clear hfz60_2
      try clear hfz60_3
      try clear hfz64_0
      try clear hfz64_1
      try clear hfz64_2
      try clear hfz67_0
      try clear hfz67_1
      try clear hfz67_2
      try clear hfz67_3
      try clear hfz72_0
      try clear hfz72_1
      try clear hfz72_2
      try clear hfz72_3
      try clear hfz74_0
      try clear hfz74_1
      try clear hfz74_2
      try clear hfz74_3
      try clear hfz75_0
      try clear hfz75_1
      try clear hfz75_2
      try clear hfz78_0
      try clear hfz78_1
      try clear hfz78_2
      try clear hfz78_3
      try clear hfz84_0
      try clear hfz84_1
      try clear hfz84_2
      try clear hfz84_3
      try clear hfz85_0
      try clear hfz85_1
      try clear hfz85_2
      try clear hfz88_0
      try clear hfz88_1
      try clear hfz88_2
      try clear hfz88_3
      try clear hfz95_0
      try clear hfz95_1
      try clear hfz95_2
      try clear hfz95_3
      try clear p10
      try clear p89
      try clear p9
      try clear q10
      try clear q89
      try clear q9
      obtain ⟨x37_1, x228001_1, x228002_1, x228003_1, x229000_1, x229001_1, x229002_1, u228001, u228002, u228003, rfl, HA, HK1, HO_228001, HO_228002, HO_228003, BK224, BK227, HI228, HB⟩ := hrel
      cases gk with
      | zero => exact absurd HA.out (by simp [impl_ReadNode.l0])
      | succ k1 =>
       have H := HA.out
       clear HA
       simp only [impl_ReadNode.l0] at H
       by_cases c98 : x37_1 < t252
       ·rw [if_pos c98] at H
        have c98b0 : decide (x37_1 < t252) = true := decide_eq_true c98
        clear c98
        replace H := Option.bind_eq_some_iff.mp H
        obtain ⟨⟨t230, t231, t232, t233⟩, A990, H⟩ := H
        replace H : (if x228001_1.length < 8796093022208 then ((some (x228001_1 ++ [t230] : List ByteArray)).bind fun y234 => (if ((bt t224 0) == 108) = true then ((impl_reader_text.f k1 t231 t232 t233).bind fun bt237 => (if x228002_1.length < 8796093022208 then (impl_ReadNode.l0 k1 t224 t252 (wrap64 (x37_1 + 1)) ((bt t224 0) == 108) y234 (x228002_1 ++ [bt237.1]) x228003_1 bt237.2.1 bt237.2.2.1 bt237.2.2.2) else (none))) else ((impl_reader_num.f k1 t231 t232 t233 40).bind fun bt244 => (if x228003_1.length < 17592186044416 then (impl_ReadNode.l0 k1 t224 t252 (wrap64 (x37_1 + 1)) ((bt t224 0) == 108) y234 x228002_1 (x228003_1 ++ [bt244.1]) bt244.2.1 bt244.2.2.1 bt244.2.2.2) else (none))))) else (none)) = some (r1, r2, r3, r4, r5) := H
        have A99 := zj A990
        clear A990
        by_cases c100 : x228001_1.length < 8796093022208
        ·rw [if_pos c100] at H
         have LMc100 := zj c100
         clear c100
         obtain ⟨y234, hy234⟩ : ∃ y_ : List ByteArray, y_ = (x228001_1 ++ [t230]) := ⟨_, rfl⟩
         replace H : (if ((bt t224 0) == 108) = true then ((impl_reader_text.f k1 t231 t232 t233).bind fun bt237 => (if x228002_1.length < 8796093022208 then (impl_ReadNode.l0 k1 t224 t252 (wrap64 (x37_1 + 1)) ((bt t224 0) == 108) y234 (x228002_1 ++ [bt237.1]) x228003_1 bt237.2.1 bt237.2.2.1 bt237.2.2.2) else (none))) else ((impl_reader_num.f k1 t231 t232 t233 40).bind fun bt244 => (if x228003_1.length < 17592186044416 then (impl_ReadNode.l0 k1 t224 t252 (wrap64 (x37_1 + 1)) ((bt t224 0) == 108) y234 x228002_1 (x228003_1 ++ [bt244.1]) bt244.2.1 bt244.2.2.1 bt244.2.2.2) else (none)))) = some (r1, r2, r3, r4, r5) := by first | (rw [hy234]; with_reducible exact H) | (have H2_ := (Option.bind_some _ _).symm.trans H; rw [hy234]; with_reducible exact H2_) | (have H2_ := (Option.bind_some _ _).symm.trans H; with_reducible exact H2_) | with_reducible exact H | (rw [hy234]; exact H) | exact H
         have Ny234 := zj hy234
         clear hy234
         by_cases c101 : ((bt t224 0) == 108) = true
         ·rw [if_pos c101] at H
          have c101b0 : ((bt t224 0) == 108) = true := c101
          (try (have c101b1 : decide ((bt t224 0) = 108) = true := by simpa using c101))
          (try (have c101b2 : ((bt t224 0) == 108) = true := by simpa using c101))
          clear c101
          replace H := Option.bind_eq_some_iff.mp H
          obtain ⟨⟨t237, t238, t239, t240⟩, A1020, H⟩ := H
          replace H : (if x228002_1.length < 8796093022208 then (impl_ReadNode.l0 k1 t224 t252 (wrap64 (x37_1 + 1)) ((bt t224 0) == 108) y234 (x228002_1 ++ [t237]) x228003_1 t238 t239 t240) else (none)) = some (r1, r2, r3, r4, r5) := H
          have A102 := zj A1020
          clear A1020
          by_cases c103 : x228002_1.length < 8796093022208
          ·rw [if_pos c103] at H
           have LMc103 := zj c103
           clear c103
           obtain ⟨y241, hy241⟩ : ∃ y_ : List ByteArray, y_ = (x228002_1 ++ [t237]) := ⟨_, rfl⟩
           replace H : (impl_ReadNode.l0 k1 t224 t252 (wrap64 (x37_1 + 1)) ((bt t224 0) == 108) y234 y241 x228003_1 t238 t239 t240) = some (r1, r2, r3, r4, r5) := by first | (rw [hy241]; with_reducible exact H) | (have H2_ := (Option.bind_some _ _).symm.trans H; rw [hy241]; with_reducible exact H2_) | (have H2_ := (Option.bind_some _ _).symm.trans H; with_reducible exact H2_) | with_reducible exact H | (rw [hy241]; exact H) | exact H
           have Ny241 := zj hy241
           clear hy241
           have H' := zj H
           clear H
           try go_wp2
           have n0_ := zj (zf HO_228001.out)
           have n1_ := zj (zf HO_228002.out)
           have n2_ := zj (zf HO_228003.out)
           have n3_ := zj (zb BK224.out)
           have n4_ := zj (zb BK227.out)
           have n5_ := zj (IsS153.drew HI228.out)
           have n6_ := zj (zi HB.out)
           clear HO_228001
           clear HO_228002
           clear HO_228003
           clear BK224
           clear BK227
           clear HI228
           clear HB
           have HO_228001 := n0_
           have HO_228002 := n1_
           have HO_228003 := n2_
           have BK224 := n3_
           have BK227 := n4_
           have HI228 := n5_
           have HB := n6_
           clear n0_ n1_ n2_ n3_ n4_ n5_ n6_
           refine start_ (n := 8) (S := fun w' => w'.cell? ⟨gb227, 0, none⟩ = some (.bool ((bt t224 0) == 108)) ∧ w'.cell? ⟨gb227, 1, none⟩ = some (u228001) ∧ w'.cell? ⟨gb227, 2, none⟩ = some (u228002) ∧ w'.cell? ⟨gb227, 3, none⟩ = some (u228003)) (ds := [7]) #[false, false, false, false, false, false, false, false] (by kernel_rfl) rfl rfl ⟨(zq BK227.out 0).trans rfl, (zq BK227.out 1).trans rfl, (zq BK227.out 2).trans rfl, (zq BK227.out 3).trans rfl⟩ (fun hHeld => ?_); refine with_tabW impl_ReadNode.tab8 impl_ReadNode.bits8 (fun HT_ HW_ => ?_)
           generalize wr.drew = w104 at HO_228001 HO_228002 HO_228003 BK224 BK227 HI228 HB hHeld ⊢
           refine pure_ (i := 0) (N := some 39) (v := ?_) (a' := ?_) #[true, false, false, false, false, false, false, false] rfl rfl (any_of HT_.out (by kernel_rfl)) (fun _ _ _ h => h) (Or.inl ⟨by rfl, ?_⟩) ?_ ?_
           rotate_left
           ·intro w'
            go_simp
            with_reducible rfl
           rotate_left
           ·simp only [Act.put, List.setIfInBounds_toArray, List.set_cons_zero, List.set_cons_succ, i64_w, i32_w]
            rfl
           refine pure_ (i := 2) (N := some 41) (v := ?_) (a' := ?_) #[true, false, true, false, false, false, false, false] rfl rfl (any_of HT_.out (by kernel_rfl)) (fun _ _ _ h => h) (Or.inl ⟨by rfl, ?_⟩) ?_ ?_
           rotate_left
           ·intro w'
            go_simp
            with_reducible rfl
           rotate_left
           ·simp only [Act.put, List.setIfInBounds_toArray, List.set_cons_zero, List.set_cons_succ, i64_w, i32_w]
            rfl
           refine take_ (i := 1) (N := some 40) (v := ?_) (a' := ?_) #[true, true, true, false, false, false, false, false] rfl rfl (take_ofW HT_.out HW_.out (by kernel_rfl)) (fun _ _ _ h => h) (Or.inl ⟨by rfl, ?_⟩) hHeld ?_ ?_
           rotate_left
           ·rintro w' ⟨s0, s1, s2, s3⟩
            go_simp
            with_reducible rfl
           rotate_left
           ·simp only [Act.put, List.setIfInBounds_toArray, List.set_cons_zero, List.set_cons_succ, i64_w, i32_w]
            rfl
           refine one_ (i := 3) (N := some 42) #[true, true, true, true, false, false, false, false] rfl rfl (one_of HT_.out (by kernel_rfl)) (by decide) (fun K hK => ?_)
           refine goes_ Try.func134 (by kernel_rfl) rfl #[.pointer (some ⟨gb228, 0, none⟩)] (by rfl) rfl rfl (by (try simp only [List.map_toArray, List.map_cons, List.map_nil]); first | done | rfl | (simp only [List.length_drop, List.length_take]; rfl)) ?_
           with_reducible refine (impl_reader_text.calls k1 gb228 x229000_1 x229001_1 x229002_1 t230 t231 t232 t233 w _ ?side1 ?side2 A99.out).mono ?_
           (case side1 => repeat (first | (with_reducible first | exact HI228.out | apply IsS153.alloc | apply IsS153.drewN | apply IsS153.drew | apply IsS153.set_0 | apply IsS153.set_1 | apply IsS153.set_2 | apply IsS153.far (hne := NB228_224.out) | apply IsS153.far (hne := NB228_227.out)) | apply IsS153.far (hne := NB228_224.out) | apply IsS153.far (hne := NB228_227.out) | exact HI228.out))
           (case side2 => repeat (first | (with_reducible first | exact HB.out | apply zg | apply zh | apply zi | refine zr ?_ (IsS153.ge HI228.out) | refine zr ?_ GE224.out | refine zr ?_ GE227.out) | exact HB.out))
           rintro e w105 ⟨rfl, hi, hb, hk⟩
           refine ⟨_, rfl, ?_⟩
           have n0_ := zj (zm (Kd.R_keep (IsS153.apart (show IsS153 w _ gb228 x229000_1 x229001_1 x229002_1 from by repeat (first | (with_reducible first | exact HI228.out | apply IsS153.alloc | apply IsS153.drewN | apply IsS153.drew | apply IsS153.set_0 | apply IsS153.set_1 | apply IsS153.set_2 | apply IsS153.far (hne := NB228_224.out) | apply IsS153.far (hne := NB228_227.out)) | apply IsS153.far (hne := NB228_224.out) | apply IsS153.far (hne := NB228_227.out) | exact HI228.out)) (by (with_reducible repeat (first | apply zd | apply ze | apply zf)); exact HO_228001.out) (by decide)) hk (fun _ h => h.2)) (fun _ h => h.1))
           have n1_ := zj (zm (Kd.R_keep (IsS153.apart (show IsS153 w _ gb228 x229000_1 x229001_1 x229002_1 from by repeat (first | (with_reducible first | exact HI228.out | apply IsS153.alloc | apply IsS153.drewN | apply IsS153.drew | apply IsS153.set_0 | apply IsS153.set_1 | apply IsS153.set_2 | apply IsS153.far (hne := NB228_224.out) | apply IsS153.far (hne := NB228_227.out)) | apply IsS153.far (hne := NB228_224.out) | apply IsS153.far (hne := NB228_227.out) | exact HI228.out)) (by (with_reducible repeat (first | apply zd | apply ze | apply zf)); exact HO_228002.out) (by decide)) hk (fun _ h => h.2)) (fun _ h => h.1))
           have n2_ := zj (zm (Kd.R_keep (IsS153.apart (show IsS153 w _ gb228 x229000_1 x229001_1 x229002_1 from by repeat (first | (with_reducible first | exact HI228.out | apply IsS153.alloc | apply IsS153.drewN | apply IsS153.drew | apply IsS153.set_0 | apply IsS153.set_1 | apply IsS153.set_2 | apply IsS153.far (hne := NB228_224.out) | apply IsS153.far (hne := NB228_227.out)) | apply IsS153.far (hne := NB228_224.out) | apply IsS153.far (hne := NB228_227.out) | exact HI228.out)) (by (with_reducible repeat (first | apply zd | apply ze | apply zf)); exact HO_228003.out) (by decide)) hk (fun _ h => h.2)) (fun _ h => h.1))
           have n3_ := zj (KeepBut.blk hk (g' := gb224) (o := .cells #[.bool false, .slice none 0 0, .slice none 0 0, .slice none 0 0] 29 (0, 0)) (by (with_reducible repeat (first | refine za ?_ _ | refine zb ?_ | refine zc ?_ _)); exact BK224.out) NB224_228.out (by simp))
           have n4_ := zj (KeepBut.blk hk (g' := gb227) (o := .cells #[.bool ((bt t224 0) == 108), u228001, u228002, u228003] 29 (0, 0)) (by (with_reducible repeat (first | refine za ?_ _ | refine zb ?_ | refine zc ?_ _)); exact BK227.out) NB227_228.out (by simp))
           have n5_ := zj (hb)
           have n6_ := zj (hi)
           clear HO_228001
           clear HO_228002
           clear HO_228003
           clear BK224
           clear BK227
           clear HB
           clear HI228
           have HO_228001 := n0_
           have HO_228002 := n1_
           have HO_228003 := n2_
           have BK224 := n3_
           have BK227 := n4_
           have HB := n5_
           have HI228 := n6_
           clear n0_ n1_ n2_ n3_ n4_ n5_ n6_
           (try clear hb)
           (try clear hb2)
           (try clear hk)
           (try clear hi)
           refine hK.out _ _ ⟨(zq BK227.out 0).trans rfl, (zq BK227.out 1).trans rfl, (zq BK227.out 2).trans rfl, (zq BK227.out 3).trans rfl⟩ (fun hHeld => ?_)
           clear hK K
           refine norm_ (a' := ?_) ?_ ?_
           rotate_left
           ·show Act.put _ (some 42) _ = _
            simp only [Act.put, List.setIfInBounds_toArray, List.set_cons_zero, List.set_cons_succ, i64_w, i32_w]
            rfl
           refine one_ (i := 4) (N := some 43) #[true, true, true, true, true, false, false, false] rfl rfl (one_of HT_.out (by kernel_rfl)) (by decide) (fun K hK => ?_)
           refine value_ (w1 := ?_) (v := ?_) (by rfl) rfl ?_ ?_
           rotate_left 2
           ·go_simp
            constructor
            ·rfl
            ·rfl
           refine hK.out _ _ ⟨(zq (zc BK227.out _) 0).trans rfl, (zq (zc BK227.out _) 1).trans rfl, (zq (zc BK227.out _) 2).trans rfl, (zq (zc BK227.out _) 3).trans rfl⟩ (fun hHeld => ?_)
           clear hK K
           refine norm_ (a' := ?_) ?_ ?_
           rotate_left
           ·show Act.put _ (some 43) _ = _
            simp only [Act.put, List.setIfInBounds_toArray, List.set_cons_zero, List.set_cons_succ, i64_w, i32_w]
            rfl
           refine one_ (i := 5) (N := some 44) #[true, true, true, true, true, true, false, false] rfl rfl (one_of HT_.out (by kernel_rfl)) (by decide) (fun K hK => ?_)
           refine Kd.R_append_step Kd.string (w0 := w) w.heap.size (by rfl) (.tmp 40) (.tmp 43) 22 9 (.string ⟨#[]⟩) 16 rfl Try.underlying22 info9 rfl (by decide) (by omega) u228001 x228001_1 t230 [.string t230] (fun k_ => some k_ ≠ (u228002 : Value).ownBlock) (fun _ => False) rfl rfl ?aP (fun _ hk => hk.elim) ?aF ?aO ?aB ?aS ?aL ?_
           (case aP => exact rfl)
           (case aB => exact (by repeat (first | (with_reducible first | exact HB.out | apply zg | apply zh | apply zi | refine zr ?_ (IsS153.ge HI228.out) | refine zr ?_ GE224.out | refine zr ?_ GE227.out) | exact HB.out)))
           (case aF => exact (fun k_ hk => Kd.fresh' (Kd.R_lt (by (with_reducible repeat (first | apply zd | apply ze | apply zf)); exact HO_228002.out)) k_ hk))
           (case aO => exact (by (with_reducible repeat (first | apply zd | apply ze | apply zf)); exact HO_228001.out))
           (case aS => exact (zk (by repeat (first | (with_reducible first | exact HB.out | apply zg | apply zh | apply zi | refine zr ?_ (IsS153.ge HI228.out) | refine zr ?_ GE224.out | refine zr ?_ GE227.out) | exact HB.out))))
           (case aL => have := LMc100.out; omega)
           intro v235 w106 ho hb hg hat
           rw [← Ny234.out] at ho
           have n0_ := zj (Kd.R_after (ok := (fun _ => True)) (by (with_reducible repeat (first | apply zd | apply ze | apply zf)); exact zm HO_228002.out (fun _ hk => ⟨trivial, hk⟩)) hg hat)
           have n1_ := zj (Kd.R_over' (by (with_reducible repeat (first | apply zd | apply ze | apply zf)); exact HO_228003.out) (Kd.R_typed (by (with_reducible repeat (first | apply zd | apply ze | apply zf)); exact HO_228001.out)) (by decide) hg)
           have n2_ := zj (blk_grown (g := gb224) (o := .cells #[.bool false, .slice none 0 0, .slice none 0 0, .slice none 0 0] 29 (0, 0)) (by (with_reducible repeat (first | refine za ?_ _ | refine zb ?_ | refine zc ?_ _)); exact BK224.out) hg (Kd.R_ne HO_228001.out BK224.out (by decide)))
           have n3_ := zj (blk_grown (g := gb227) (o := .cells #[.bool ((bt t224 0) == 108), u228001, u228002, u228003] 29 (0, 0)) (by (with_reducible repeat (first | refine za ?_ _ | refine zb ?_ | refine zc ?_ _)); exact BK227.out) hg (Kd.R_ne HO_228001.out BK227.out (by decide)))
           have n4_ := zj (IsS153.grown (by repeat (first | (with_reducible first | exact HI228.out | apply IsS153.alloc | apply IsS153.drewN | apply IsS153.drew | apply IsS153.set_0 | apply IsS153.set_1 | apply IsS153.set_2 | apply IsS153.far (hne := NB228_224.out) | apply IsS153.far (hne := NB228_227.out)) | apply IsS153.far (hne := NB228_224.out) | apply IsS153.far (hne := NB228_227.out) | exact HI228.out)) hg (IsS153.own_ne HI228.out HO_228001.out (by decide)))
           have n5_ := zj (hb)
           have n6_ := zj (ho)
           clear HO_228002
           clear HO_228003
           clear BK224
           clear BK227
           clear HI228
           clear HB
           clear HO_228001
           have HO_228002 := n0_
           have HO_228003 := n1_
           have BK224 := n2_
           have BK227 := n3_
           have HI228 := n4_
           have HB := n5_
           have HO236 := n6_
           clear n0_ n1_ n2_ n3_ n4_ n5_ n6_
           clear ho hb hg hat
           obtain ⟨Ao107, co107, eo107⟩ := Kd.R_slice HO236.out
           (first | subst eo107 | (injection eo107 with f1_ f2_ f3_; have f4_ := f1_.symm; have f5_ := f3_.symm; clear f1_ f2_ f3_; subst f4_; subst f5_))
           refine hK.out _ _ ⟨(zq BK227.out 0).trans rfl, (zq BK227.out 1).trans rfl, (zq BK227.out 2).trans rfl, (zq BK227.out 3).trans rfl⟩ (fun hHeld => ?_)
           clear hK K
           refine norm_ (a' := ?_) ?_ ?_
           rotate_left
           ·show Act.put _ (some 44) _ = _
            simp only [Act.put, List.setIfInBounds_toArray, List.set_cons_zero, List.set_cons_succ, i64_w, i32_w]
            rfl
           refine pure_ (i := 6) (N := some 45) (v := ?_) (a' := ?_) #[true, true, true, true, true, true, true, false] rfl rfl (any_of HT_.out (by kernel_rfl)) (fun _ _ _ h => h) (Or.inl ⟨by rfl, ?_⟩) ?_ ?_
           rotate_left
           ·intro w'
            go_simp
            with_reducible rfl
           rotate_left
           ·simp only [Act.put, List.setIfInBounds_toArray, List.set_cons_zero, List.set_cons_succ, i64_w, i32_w]
            rfl
           refine last_ (i := 7) (N := none) #[true, true, true, true, true, true, true, true] rfl rfl (one_of HT_.out (by kernel_rfl)) (by decide) (fun K hK => ?_)
           have hs108 : w106.cell? ⟨gb227, 1, none⟩ = some (u228001) := (zq BK227.out 1).trans rfl
           have hfs108 := zu BK227.out 1
           have hns108_0 := NB224_227.out
           have hms108_0 := NB227_224.out
           refine skip_ (w1 := ?_) (by rfl) rfl ?_ ?_
           rotate_left
           ·go_simp
            rfl
           refine hK.out _ _ ?_
           clear hK K
           refine done_ (done_of HT_.out (by kernel_rfl)) ?_
           have hnb109 := NB227_224.out
           have hnc109 := NB224_227.out
           have hnb110 := NB227_228.out
           have hnc110 := NB228_227.out
           have hcz111_0 : w106.cell? ⟨gb227, 0, none⟩ = some (.bool ((bt t224 0) == 108)) := (zq BK227.out 0).trans rfl
           have hcz111_1 : w106.cell? ⟨gb227, 1, none⟩ = some (u228001) := (zq BK227.out 1).trans rfl
           have hcz111_2 : w106.cell? ⟨gb227, 2, none⟩ = some (u228002) := (zq BK227.out 2).trans rfl
           have hcz111_3 : w106.cell? ⟨gb227, 3, none⟩ = some (u228003) := (zq BK227.out 3).trans rfl
           have hfz111_0 := zu BK227.out 0
           have hfz111_1 := zu BK227.out 1
           have hfz111_2 := zu BK227.out 2
           have hfz111_3 := zu BK227.out 3
           try go_wp2
           have n0_ : Aside0 (Kd.R Kd.string 9 (w106.setCell ⟨gb227, 1, none⟩ (.slice Ao107 y234.length co107)) w.heap.size (fun k_ => some k_ ≠ (.slice Ao107 y234.length co107 : Value).ownBlock) u228002 x228002_1) := ⟨by (with_reducible repeat (first | apply zd | apply ze | apply zf)); exact zm (zn (p := ⟨gb227, 1, none⟩) (zt HO_228002.out BK227.out (by decide)) (fun _ hk => hk.2) (.slice Ao107 y234.length co107)) (fun _ hk => hk.1.2)⟩
           have n1_ : Aside0 (Kd.R (Kd.int .i64) 3 (w106.setCell ⟨gb227, 1, none⟩ (.slice Ao107 y234.length co107)) w.heap.size (fun _ => True) u228003 x228003_1) := ⟨by (with_reducible repeat (first | apply zd | apply ze | apply zf)); exact zm (zn (p := ⟨gb227, 1, none⟩) (zt HO_228003.out BK227.out (by decide)) (fun _ hk => hk.2) (.slice Ao107 y234.length co107)) (fun _ hk => trivial)⟩
           have n2_ : Aside0 (Kd.R Kd.string 9 (w106.setCell ⟨gb227, 1, none⟩ (.slice Ao107 y234.length co107)) w.heap.size (fun k_ => some k_ ≠ (u228002 : Value).ownBlock) (.slice Ao107 y234.length co107) y234) := ⟨by (with_reducible repeat (first | apply zd | apply ze | apply zf)); exact zm (zn (p := ⟨gb227, 1, none⟩) (zt HO236.out BK227.out (by decide)) (fun _ hk => hk.2) (.slice Ao107 y234.length co107)) (fun _ hk => hk.1)⟩
           have n3_ : Aside0 ((w106.setCell ⟨gb227, 1, none⟩ (.slice Ao107 y234.length co107)).heap[gb224]? = some (.cells #[.bool false, .slice none 0 0, .slice none 0 0, .slice none 0 0] 29 (0, 0))) := ⟨by (with_reducible repeat (first | refine za ?_ _ | refine zb ?_ | refine zc ?_ _)); refine blk_far ?_ NB224_227.out _; (with_reducible repeat (first | refine za ?_ _ | refine zb ?_ | refine zc ?_ _)); exact BK224.out⟩
           have n4_ : Aside0 ((w106.setCell ⟨gb227, 1, none⟩ (.slice Ao107 y234.length co107)).heap[gb227]? = some (.cells #[.bool ((bt t224 0) == 108), .slice Ao107 y234.length co107, u228002, u228003] 29 (0, 0))) := ⟨by (with_reducible repeat (first | refine za ?_ _ | refine zb ?_ | refine zc ?_ _)); refine zp (cs := #[.bool ((bt t224 0) == 108), u228001, u228002, u228003]) ?_ 1 _ rfl; (with_reducible repeat (first | refine za ?_ _ | refine zb ?_ | refine zc ?_ _)); exact BK227.out⟩
           have n5_ : Aside0 (IsS153 w (w106.setCell ⟨gb227, 1, none⟩ (.slice Ao107 y234.length co107)) gb228 t231 t232 t233) := ⟨by repeat (first | (with_reducible first | exact HI228.out | apply IsS153.alloc | apply IsS153.drewN | apply IsS153.drew | apply IsS153.set_0 | apply IsS153.set_1 | apply IsS153.set_2 | apply IsS153.far (hne := NB228_224.out) | apply IsS153.far (hne := NB228_227.out)) | apply IsS153.far (hne := NB228_224.out) | apply IsS153.far (hne := NB228_227.out) | exact HI228.out)⟩
           have n6_ : Aside0 (Below w.heap.size w (w106.setCell ⟨gb227, 1, none⟩ (.slice Ao107 y234.length co107))) := ⟨by repeat (first | (with_reducible first | exact HB.out | apply zg | apply zh | apply zi | refine zr ?_ (IsS153.ge HI228.out) | refine zr ?_ GE224.out | refine zr ?_ GE227.out) | exact HB.out)⟩
           (try clear HO_228002)
           (try clear HO_228003)
           (try clear HO236)
           (try clear BK224)
           (try clear BK227)
           (try clear HI228)
           (try clear HB)
           generalize (w106.setCell ⟨gb227, 1, none⟩ (.slice Ao107 y234.length co107)) = w112 at n0_ n1_ n2_ n3_ n4_ n5_ n6_ ⊢
           have HO_228002 := n0_
           have HO_228003 := n1_
           have HO236 := n2_
           have BK224 := n3_
           have BK227 := n4_
           have HI228 := n5_
           have HB := n6_
           clear n0_ n1_ n2_ n3_ n4_ n5_ n6_
           have n0_ := zj (zf HO_228002.out)
           have n1_ := zj (zf HO_228003.out)
           have n2_ := zj (zf HO236.out)
           have n3_ := zj (zb BK224.out)
           have n4_ := zj (zb BK227.out)
           have n5_ := zj (IsS153.drew HI228.out)
           have n6_ := zj (zi HB.out)
           clear HO_228002
           clear HO_228003
           clear HO236
           clear BK224
           clear BK227
           clear HI228
           clear HB
           have HO_228002 := n0_
           have HO_228003 := n1_
           have HO236 := n2_
           have BK224 := n3_
           have BK227 := n4_
           have HI228 := n5_
           have HB := n6_
           clear n0_ n1_ n2_ n3_ n4_ n5_ n6_
           refine start_ (n := 8) (S := fun w' => w'.cell? ⟨gb227, 0, none⟩ = some (.bool ((bt t224 0) == 108)) ∧ w'.cell? ⟨gb227, 1, none⟩ = some (.slice Ao107 y234.length co107) ∧ w'.cell? ⟨gb227, 2, none⟩ = some (u228002) ∧ w'.cell? ⟨gb227, 3, none⟩ = some (u228003)) (ds := [7]) #[false, false, false, false, false, false, false, false] (by kernel_rfl) rfl rfl ⟨(zq BK227.out 0).trans rfl, (zq BK227.out 1).trans rfl, (zq BK227.out 2).trans rfl, (zq BK227.out 3).trans rfl⟩ (fun hHeld => ?_); refine with_tabW impl_ReadNode.tab10 impl_ReadNode.bits10 (fun HT_ HW_ => ?_)
           generalize w112.drew = w113 at HO_228002 HO_228003 HO236 BK224 BK227 HI228 HB hHeld ⊢
           refine pure_ (i := 0) (N := some 48) (v := ?_) (a' := ?_) #[true, false, false, false, false, false, false, false] rfl rfl (any_of HT_.out (by kernel_rfl)) (fun _ _ _ h => h) (Or.inl ⟨by rfl, ?_⟩) ?_ ?_
           rotate_left
           ·intro w'
            go_simp
            with_reducible rfl
           rotate_left
           ·simp only [Act.put, List.setIfInBounds_toArray, List.set_cons_zero, List.set_cons_succ, i64_w, i32_w]
            rfl
           refine pure_ (i := 2) (N := some 50) (v := ?_) (a' := ?_) #[true, false, true, false, false, false, false, false] rfl rfl (any_of HT_.out (by kernel_rfl)) (fun _ _ _ h => h) (Or.inl ⟨by rfl, ?_⟩) ?_ ?_
           rotate_left
           ·intro w'
            go_simp
            with_reducible rfl
           rotate_left
           ·simp only [Act.put, List.setIfInBounds_toArray, List.set_cons_zero, List.set_cons_succ, i64_w, i32_w]
            rfl
           refine take_ (i := 1) (N := some 49) (v := ?_) (a' := ?_) #[true, true, true, false, false, false, false, false] rfl rfl (take_ofW HT_.out HW_.out (by kernel_rfl)) (fun _ _ _ h => h) (Or.inl ⟨by rfl, ?_⟩) hHeld ?_ ?_
           rotate_left
           ·rintro w' ⟨s0, s1, s2, s3⟩
            go_simp
            with_reducible rfl
           rotate_left
           ·simp only [Act.put, List.setIfInBounds_toArray, List.set_cons_zero, List.set_cons_succ, i64_w, i32_w]
            rfl
           refine one_ (i := 3) (N := some 51) #[true, true, true, true, false, false, false, false] rfl rfl (one_of HT_.out (by kernel_rfl)) (by decide) (fun K hK => ?_)
           refine goes_ Try.func134 (by kernel_rfl) rfl #[.pointer (some ⟨gb228, 0, none⟩)] (by rfl) rfl rfl (by (try simp only [List.map_toArray, List.map_cons, List.map_nil]); first | done | rfl | (simp only [List.length_drop, List.length_take]; rfl)) ?_
           with_reducible refine (impl_reader_text.calls k1 gb228 t231 t232 t233 t237 t238 t239 t240 w _ ?side1 ?side2 A102.out).mono ?_
           (case side1 => repeat (first | (with_reducible first | exact HI228.out | apply IsS153.alloc | apply IsS153.drewN | apply IsS153.drew | apply IsS153.set_0 | apply IsS153.set_1 | apply IsS153.set_2 | apply IsS153.far (hne := NB228_224.out) | apply IsS153.far (hne := NB228_227.out)) | apply IsS153.far (hne := NB228_224.out) | apply IsS153.far (hne := NB228_227.out) | exact HI228.out))
           (case side2 => repeat (first | (with_reducible first | exact HB.out | apply zg | apply zh | apply zi | refine zr ?_ (IsS153.ge HI228.out) | refine zr ?_ GE224.out | refine zr ?_ GE227.out) | exact HB.out))
           rintro e w114 ⟨rfl, hi, hb, hk⟩
           refine ⟨_, rfl, ?_⟩
           have n0_ := zj (zm (Kd.R_keep (IsS153.apart (show IsS153 w _ gb228 t231 t232 t233 from by repeat (first | (with_reducible first | exact HI228.out | apply IsS153.alloc | apply IsS153.drewN | apply IsS153.drew | apply IsS153.set_0 | apply IsS153.set_1 | apply IsS153.set_2 | apply IsS153.far (hne := NB228_224.out) | apply IsS153.far (hne := NB228_227.out)) | apply IsS153.far (hne := NB228_224.out) | apply IsS153.far (hne := NB228_227.out) | exact HI228.out)) (by (with_reducible repeat (first | apply zd | apply ze | apply zf)); exact HO_228002.out) (by decide)) hk (fun _ h => h.2)) (fun _ h => h.1))
           have n1_ := zj (zm (Kd.R_keep (IsS153.apart (show IsS153 w _ gb228 t231 t232 t233 from by repeat (first | (with_reducible first | exact HI228.out | apply IsS153.alloc | apply IsS153.drewN | apply IsS153.drew | apply IsS153.set_0 | apply IsS153.set_1 | apply IsS153.set_2 | apply IsS153.far (hne := NB228_224.out) | apply IsS153.far (hne := NB228_227.out)) | apply IsS153.far (hne := NB228_224.out) | apply IsS153.far (hne := NB228_227.out) | exact HI228.out)) (by (with_reducible repeat (first | apply zd | apply ze | apply zf)); exact HO_228003.out) (by decide)) hk (fun _ h => h.2)) (fun _ h => h.1))
           have n2_ := zj (KeepBut.blk hk (g' := gb224) (o := .cells #[.bool false, .slice none 0 0, .slice none 0 0, .slice none 0 0] 29 (0, 0)) (by (with_reducible repeat (first | refine za ?_ _ | refine zb ?_ | refine zc ?_ _)); exact BK224.out) NB224_228.out (by simp))
           have n3_ := zj (KeepBut.blk hk (g' := gb227) (o := .cells #[.bool ((bt t224 0) == 108), .slice Ao107 y234.length co107, u228002, u228003] 29 (0, 0)) (by (with_reducible repeat (first | refine za ?_ _ | refine zb ?_ | refine zc ?_ _)); exact BK227.out) NB227_228.out (by simp))
           have n4_ := zj (zm (Kd.R_keep (IsS153.apart (show IsS153 w _ gb228 t231 t232 t233 from by repeat (first | (with_reducible first | exact HI228.out | apply IsS153.alloc | apply IsS153.drewN | apply IsS153.drew | apply IsS153.set_0 | apply IsS153.set_1 | apply IsS153.set_2 | apply IsS153.far (hne := NB228_224.out) | apply IsS153.far (hne := NB228_227.out)) | apply IsS153.far (hne := NB228_224.out) | apply IsS153.far (hne := NB228_227.out) | exact HI228.out)) (by (with_reducible repeat (first | apply zd | apply ze | apply zf)); exact HO236.out) (by decide)) hk (fun _ h => h.2)) (fun _ h => h.1))
           have n5_ := zj (hb)
           have n6_ := zj (hi)
           clear HO_228002
           clear HO_228003
           clear BK224
           clear BK227
           clear HO236
           clear HB
           clear HI228
           have HO_228002 := n0_
           have HO_228003 := n1_
           have BK224 := n2_
           have BK227 := n3_
           have HO236 := n4_
           have HB := n5_
           have HI228 := n6_
           clear n0_ n1_ n2_ n3_ n4_ n5_ n6_
           (try clear hb)
           (try clear hb2)
           (try clear hk)
           (try clear hi)
           refine hK.out _ _ ⟨(zq BK227.out 0).trans rfl, (zq BK227.out 1).trans rfl, (zq BK227.out 2).trans rfl, (zq BK227.out 3).trans rfl⟩ (fun hHeld => ?_)
           clear hK K
           refine norm_ (a' := ?_) ?_ ?_
           rotate_left
           ·show Act.put _ (some 51) _ = _
            simp only [Act.put, List.setIfInBounds_toArray, List.set_cons_zero, List.set_cons_succ, i64_w, i32_w]
            rfl
           refine one_ (i := 4) (N := some 52) #[true, true, true, true, true, false, false, false] rfl rfl (one_of HT_.out (by kernel_rfl)) (by decide) (fun K hK => ?_)
           refine value_ (w1 := ?_) (v := ?_) (by rfl) rfl ?_ ?_
           rotate_left 2
           ·go_simp
            constructor
            ·rfl
            ·rfl
           refine hK.out _ _ ⟨(zq (zc BK227.out _) 0).trans rfl, (zq (zc BK227.out _) 1).trans rfl, (zq (zc BK227.out _) 2).trans rfl, (zq (zc BK227.out _) 3).trans rfl⟩ (fun hHeld => ?_)
           clear hK K
           refine norm_ (a' := ?_) ?_ ?_
           rotate_left
           ·show Act.put _ (some 52) _ = _
            simp only [Act.put, List.setIfInBounds_toArray, List.set_cons_zero, List.set_cons_succ, i64_w, i32_w]
            rfl
           refine one_ (i := 5) (N := some 53) #[true, true, true, true, true, true, false, false] rfl rfl (one_of HT_.out (by kernel_rfl)) (by decide) (fun K hK => ?_)
           refine Kd.R_append_step Kd.string (w0 := w) w.heap.size (by rfl) (.tmp 49) (.tmp 52) 22 9 (.string ⟨#[]⟩) 16 rfl Try.underlying22 info9 rfl (by decide) (by omega) u228002 x228002_1 t237 [.string t237] (fun k_ => some k_ ≠ (.slice Ao107 y234.length co107 : Value).ownBlock) (fun _ => False) rfl rfl ?aP (fun _ hk => hk.elim) ?aF ?aO ?aB ?aS ?aL ?_
           (case aP => exact rfl)
           (case aB => exact (by repeat (first | (with_reducible first | exact HB.out | apply zg | apply zh | apply zi | refine zr ?_ (IsS153.ge HI228.out) | refine zr ?_ GE224.out | refine zr ?_ GE227.out) | exact HB.out)))
           (case aF => exact (fun k_ hk => Kd.fresh' (Kd.R_lt (by (with_reducible repeat (first | apply zd | apply ze | apply zf)); exact HO236.out)) k_ hk))
           (case aO => exact (by (with_reducible repeat (first | apply zd | apply ze | apply zf)); exact HO_228002.out))
           (case aS => exact (zk (by repeat (first | (with_reducible first | exact HB.out | apply zg | apply zh | apply zi | refine zr ?_ (IsS153.ge HI228.out) | refine zr ?_ GE224.out | refine zr ?_ GE227.out) | exact HB.out))))
           (case aL => have := LMc103.out; omega)
           intro v242 w115 ho hb hg hat
           rw [← Ny241.out] at ho
           have n0_ := zj (Kd.R_over' (by (with_reducible repeat (first | apply zd | apply ze | apply zf)); exact HO_228003.out) (Kd.R_typed (by (with_reducible repeat (first | apply zd | apply ze | apply zf)); exact HO_228002.out)) (by decide) hg)
           have n1_ := zj (blk_grown (g := gb224) (o := .cells #[.bool false, .slice none 0 0, .slice none 0 0, .slice none 0 0] 29 (0, 0)) (by (with_reducible repeat (first | refine za ?_ _ | refine zb ?_ | refine zc ?_ _)); exact BK224.out) hg (Kd.R_ne HO_228002.out BK224.out (by decide)))
           have n2_ := zj (blk_grown (g := gb227) (o := .cells #[.bool ((bt t224 0) == 108), .slice Ao107 y234.length co107, u228002, u228003] 29 (0, 0)) (by (with_reducible repeat (first | refine za ?_ _ | refine zb ?_ | refine zc ?_ _)); exact BK227.out) hg (Kd.R_ne HO_228002.out BK227.out (by decide)))
           have n3_ := zj (IsS153.grown (by repeat (first | (with_reducible first | exact HI228.out | apply IsS153.alloc | apply IsS153.drewN | apply IsS153.drew | apply IsS153.set_0 | apply IsS153.set_1 | apply IsS153.set_2 | apply IsS153.far (hne := NB228_224.out) | apply IsS153.far (hne := NB228_227.out)) | apply IsS153.far (hne := NB228_224.out) | apply IsS153.far (hne := NB228_227.out) | exact HI228.out)) hg (IsS153.own_ne HI228.out HO_228002.out (by decide)))
           have n4_ := zj (Kd.R_after (ok := (fun _ => True)) (by (with_reducible repeat (first | apply zd | apply ze | apply zf)); exact zm HO236.out (fun _ hk => ⟨trivial, hk⟩)) hg hat)
           have n5_ := zj (hb)
           have n6_ := zj (ho)
           clear HO_228003
           clear BK224
           clear BK227
           clear HI228
           clear HO236
           clear HB
           clear HO_228002
           have HO_228003 := n0_
           have BK224 := n1_
           have BK227 := n2_
           have HI228 := n3_
           have HO236 := n4_
           have HB := n5_
           have HO243 := n6_
           clear n0_ n1_ n2_ n3_ n4_ n5_ n6_
           clear ho hb hg hat
           obtain ⟨Ao116, co116, eo116⟩ := Kd.R_slice HO243.out
           (first | subst eo116 | (injection eo116 with f1_ f2_ f3_; have f4_ := f1_.symm; have f5_ := f3_.symm; clear f1_ f2_ f3_; subst f4_; subst f5_))
           refine hK.out _ _ ⟨(zq BK227.out 0).trans rfl, (zq BK227.out 1).trans rfl, (zq BK227.out 2).trans rfl, (zq BK227.out 3).trans rfl⟩ (fun hHeld => ?_)
           clear hK K
           refine norm_ (a' := ?_) ?_ ?_
           rotate_left
           ·show Act.put _ (some 53) _ = _
            simp only [Act.put, List.setIfInBounds_toArray, List.set_cons_zero, List.set_cons_succ, i64_w, i32_w]
            rfl
           refine pure_ (i := 6) (N := some 54) (v := ?_) (a' := ?_) #[true, true, true, true, true, true, true, false] rfl rfl (any_of HT_.out (by kernel_rfl)) (fun _ _ _ h => h) (Or.inl ⟨by rfl, ?_⟩) ?_ ?_
           rotate_left
           ·intro w'
            go_simp
            with_reducible rfl
           rotate_left
           ·simp only [Act.put, List.setIfInBounds_toArray, List.set_cons_zero, List.set_cons_succ, i64_w, i32_w]
            rfl
           refine last_ (i := 7) (N := none) #[true, true, true, true, true, true, true, true] rfl rfl (one_of HT_.out (by kernel_rfl)) (by decide) (fun K hK => ?_)
           have hs117 : w115.cell? ⟨gb227, 2, none⟩ = some (u228002) := (zq BK227.out 2).trans rfl
           have hfs117 := zu BK227.out 2
           have hns117_0 := NB224_227.out
           have hms117_0 := NB227_224.out
           refine skip_ (w1 := ?_) (by rfl) rfl ?_ ?_
           rotate_left
           ·go_simp
            rfl
           refine hK.out _ _ ?_
           clear hK K
           refine done_ (done_of HT_.out (by kernel_rfl)) ?_
           try go_wp2
           go_roundg k1
           case measure => have := HK1.out; omega
           case rel => exact ⟨(wrap64 (x37_1 + 1)), (y234), (y241), (x228003_1), (t238), (t239), (t240), (.slice Ao107 y234.length co107), (.slice Ao116 y241.length co116), (u228003), (by first | rfl | (simp; done) | (simp [*]; done)), H', ⟨by have := HK1.out; omega⟩, ⟨by (with_reducible repeat (first | apply zd | apply ze | apply zf)); exact zm (zn (p := ⟨gb227, 2, none⟩) (zt HO236.out BK227.out (by decide)) (fun _ hk => hk.2) (.slice Ao116 y241.length co116)) (fun _ hk => hk.1.2)⟩, ⟨by (with_reducible repeat (first | apply zd | apply ze | apply zf)); exact zm (zn (p := ⟨gb227, 2, none⟩) (zt HO243.out BK227.out (by decide)) (fun _ hk => hk.2) (.slice Ao116 y241.length co116)) (fun _ hk => hk.1)⟩, ⟨by (with_reducible repeat (first | apply zd | apply ze | apply zf)); exact zm (zn (p := ⟨gb227, 2, none⟩) (zt HO_228003.out BK227.out (by decide)) (fun _ hk => hk.2) (.slice Ao116 y241.length co116)) (fun _ hk => trivial)⟩, ⟨by (with_reducible repeat (first | refine za ?_ _ | refine zb ?_ | refine zc ?_ _)); refine blk_far ?_ NB224_227.out _; (with_reducible repeat (first | refine za ?_ _ | refine zb ?_ | refine zc ?_ _)); exact BK224.out⟩, ⟨by (with_reducible repeat (first | refine za ?_ _ | refine zb ?_ | refine zc ?_ _)); refine zp (cs := #[.bool ((bt t224 0) == 108), .slice Ao107 y234.length co107, u228002, u228003]) ?_ 2 _ rfl; (with_reducible repeat (first | refine za ?_ _ | refine zb ?_ | refine zc ?_ _)); exact BK227.out⟩, ⟨by repeat (first | (with_reducible first | exact HI228.out | apply IsS153.alloc | apply IsS153.drewN | apply IsS153.drew | apply IsS153.set_0 | apply IsS153.set_1 | apply IsS153.set_2 | apply IsS153.far (hne := NB228_224.out) | apply IsS153.far (hne := NB228_227.out)) | apply IsS153.far (hne := NB228_224.out) | apply IsS153.far (hne := NB228_227.out) | exact HI228.out)⟩, ⟨by repeat (first | (with_reducible first | exact HB.out | apply zg | apply zh | apply zi | refine zr ?_ (IsS153.ge HI228.out) | refine zr ?_ GE224.out | refine zr ?_ GE227.out) | exact HB.out)⟩⟩
          ·rw [if_neg c103] at H
           exact absurd H (by simp)
         ·rw [if_neg c101] at H
          have c101b0 : ((bt t224 0) == 108) = false := by simpa using c101
          (try (have c101b1 : decide ((bt t224 0) = 108) = false := by simpa using c101))
          (try (have c101b2 : ((bt t224 0) == 108) = false := by simpa using c101))
          (try (have c101b3 : ¬ ((bt t224 0) = 108) := by simpa using c101))
          clear c101
          replace H := Option.bind_eq_some_iff.mp H
          obtain ⟨⟨t244, t245, t246, t247⟩, A1180, H⟩ := H
          replace H : (if x228003_1.length < 17592186044416 then (impl_ReadNode.l0 k1 t224 t252 (wrap64 (x37_1 + 1)) ((bt t224 0) == 108) y234 x228002_1 (x228003_1 ++ [t244]) t245 t246 t247) else (none)) = some (r1, r2, r3, r4, r5) := H
          have A118 := zj A1180
          clear A1180
          by_cases c119 : x228003_1.length < 17592186044416
          ·rw [if_pos c119] at H
           have LMc119 := zj c119
           clear c119
           obtain ⟨y248, hy248⟩ : ∃ y_ : List Int, y_ = (x228003_1 ++ [t244]) := ⟨_, rfl⟩
           replace H : (impl_ReadNode.l0 k1 t224 t252 (wrap64 (x37_1 + 1)) ((bt t224 0) == 108) y234 x228002_1 y248 t245 t246 t247) = some (r1, r2, r3, r4, r5) := by first | (rw [hy248]; with_reducible exact H) | (have H2_ := (Option.bind_some _ _).symm.trans H; rw [hy248]; with_reducible exact H2_) | (have H2_ := (Option.bind_some _ _).symm.trans H; with_reducible exact H2_) | with_reducible exact H | (rw [hy248]; exact H) | exact H
           have Ny248 := zj hy248
           clear hy248
           have H' := zj H
           clear H
           try go_wp2
           have n0_ := zj (zf HO_228001.out)
           have n1_ := zj (zf HO_228002.out)
           have n2_ := zj (zf HO_228003.out)
           have n3_ := zj (zb BK224.out)
           have n4_ := zj (zb BK227.out)
           have n5_ := zj (IsS153.drew HI228.out)
           have n6_ := zj (zi HB.out)
           clear HO_228001
           clear HO_228002
           clear HO_228003
           clear BK224
           clear BK227
           clear HI228
           clear HB
           have HO_228001 := n0_
           have HO_228002 := n1_
           have HO_228003 := n2_
           have BK224 := n3_
           have BK227 := n4_
           have HI228 := n5_
           have HB := n6_
           clear n0_ n1_ n2_ n3_ n4_ n5_ n6_
           refine start_ (n := 8) (S := fun w' => w'.cell? ⟨gb227, 0, none⟩ = some (.bool ((bt t224 0) == 108)) ∧ w'.cell? ⟨gb227, 1, none⟩ = some (u228001) ∧ w'.cell? ⟨gb227, 2, none⟩ = some (u228002) ∧ w'.cell? ⟨gb227, 3, none⟩ = some (u228003)) (ds := [7]) #[false, false, false, false, false, false, false, false] (by kernel_rfl) rfl rfl ⟨(zq BK227.out 0).trans rfl, (zq BK227.out 1).trans rfl, (zq BK227.out 2).trans rfl, (zq BK227.out 3).trans rfl⟩ (fun hHeld => ?_); refine with_tabW impl_ReadNode.tab8 impl_ReadNode.bits8 (fun HT_ HW_ => ?_)
           generalize wr.drew = w120 at HO_228001 HO_228002 HO_228003 BK224 BK227 HI228 HB hHeld ⊢
           refine pure_ (i := 0) (N := some 39) (v := ?_) (a' := ?_) #[true, false, false, false, false, false, false, false] rfl rfl (any_of HT_.out (by kernel_rfl)) (fun _ _ _ h => h) (Or.inl ⟨by rfl, ?_⟩) ?_ ?_
           rotate_left
           ·intro w'
            go_simp
            with_reducible rfl
           rotate_left
           ·simp only [Act.put, List.setIfInBounds_toArray, List.set_cons_zero, List.set_cons_succ, i64_w, i32_w]
            rfl
           refine pure_ (i := 2) (N := some 41) (v := ?_) (a' := ?_) #[true, false, true, false, false, false, false, false] rfl rfl (any_of HT_.out (by kernel_rfl)) (fun _ _ _ h => h) (Or.inl ⟨by rfl, ?_⟩) ?_ ?_
           rotate_left
           ·intro w'
            go_simp
            with_reducible rfl
           rotate_left
           ·simp only [Act.put, List.setIfInBounds_toArray, List.set_cons_zero, List.set_cons_succ, i64_w, i32_w]
            rfl
           refine take_ (i := 1) (N := some 40) (v := ?_) (a' := ?_) #[true, true, true, false, false, false, false, false] rfl rfl (take_ofW HT_.out HW_.out (by kernel_rfl)) (fun _ _ _ h => h) (Or.inl ⟨by rfl, ?_⟩) hHeld ?_ ?_
           rotate_left
           ·rintro w' ⟨s0, s1, s2, s3⟩
            go_simp
            with_reducible rfl
           rotate_left
           ·simp only [Act.put, List.setIfInBounds_toArray, List.set_cons_zero, List.set_cons_succ, i64_w, i32_w]
            rfl
           refine one_ (i := 3) (N := some 42) #[true, true, true, true, false, false, false, false] rfl rfl (one_of HT_.out (by kernel_rfl)) (by decide) (fun K hK => ?_)
           refine goes_ Try.func134 (by kernel_rfl) rfl #[.pointer (some ⟨gb228, 0, none⟩)] (by rfl) rfl rfl (by (try simp only [List.map_toArray, List.map_cons, List.map_nil]); first | done | rfl | (simp only [List.length_drop, List.length_take]; rfl)) ?_
           with_reducible refine (impl_reader_text.calls k1 gb228 x229000_1 x229001_1 x229002_1 t230 t231 t232 t233 w _ ?side1 ?side2 A99.out).mono ?_
           (case side1 => repeat (first | (with_reducible first | exact HI228.out | apply IsS153.alloc | apply IsS153.drewN | apply IsS153.drew | apply IsS153.set_0 | apply IsS153.set_1 | apply IsS153.set_2 | apply IsS153.far (hne := NB228_224.out) | apply IsS153.far (hne := NB228_227.out)) | apply IsS153.far (hne := NB228_224.out) | apply IsS153.far (hne := NB228_227.out) | exact HI228.out))
           (case side2 => repeat (first | (with_reducible first | exact HB.out | apply zg | apply zh | apply zi | refine zr ?_ (IsS153.ge HI228.out) | refine zr ?_ GE224.out | refine zr ?_ GE227.out) | exact HB.out))
           rintro e w121 ⟨rfl, hi, hb, hk⟩
           refine ⟨_, rfl, ?_⟩
           have n0_ := zj (zm (Kd.R_keep (IsS153.apart (show IsS153 w _ gb228 x229000_1 x229001_1 x229002_1 from by repeat (first | (with_reducible first | exact HI228.out | apply IsS153.alloc | apply IsS153.drewN | apply IsS153.drew | apply IsS153.set_0 | apply IsS153.set_1 | apply IsS153.set_2 | apply IsS153.far (hne := NB228_224.out) | apply IsS153.far (hne := NB228_227.out)) | apply IsS153.far (hne := NB228_224.out) | apply IsS153.far (hne := NB228_227.out) | exact HI228.out)) (by (with_reducible repeat (first | apply zd | apply ze | apply zf)); exact HO_228001.out) (by decide)) hk (fun _ h => h.2)) (fun _ h => h.1))
           have n1_ := zj (zm (Kd.R_keep (IsS153.apart (show IsS153 w _ gb228 x229000_1 x229001_1 x229002_1 from by repeat (first | (with_reducible first | exact HI228.out | apply IsS153.alloc | apply IsS153.drewN | apply IsS153.drew | apply IsS153.set_0 | apply IsS153.set_1 | apply IsS153.set_2 | apply IsS153.far (hne := NB228_224.out) | apply IsS153.far (hne := NB228_227.out)) | apply IsS153.far (hne := NB228_224.out) | apply IsS153.far (hne := NB228_227.out) | exact HI228.out)) (by (with_reducible repeat (first | apply zd | apply ze | apply zf)); exact HO_228002.out) (by decide)) hk (fun _ h => h.2)) (fun _ h => h.1))
           have n2_ := zj (zm (Kd.R_keep (IsS153.apart (show IsS153 w _ gb228 x229000_1 x229001_1 x229002_1 from by repeat (first | (with_reducible first | exact HI228.out | apply IsS153.alloc | apply IsS153.drewN | apply IsS153.drew | apply IsS153.set_0 | apply IsS153.set_1 | apply IsS153.set_2 | apply IsS153.far (hne := NB228_224.out) | apply IsS153.far (hne := NB228_227.out)) | apply IsS153.far (hne := NB228_224.out) | apply IsS153.far (hne := NB228_227.out) | exact HI228.out)) (by (with_reducible repeat (first | apply zd | apply ze | apply zf)); exact HO_228003.out) (by decide)) hk (fun _ h => h.2)) (fun _ h => h.1))
           have n3_ := zj (KeepBut.blk hk (g' := gb224) (o := .cells #[.bool false, .slice none 0 0, .slice none 0 0, .slice none 0 0] 29 (0, 0)) (by (with_reducible repeat (first | refine za ?_ _ | refine zb ?_ | refine zc ?_ _)); exact BK224.out) NB224_228.out (by simp))
           have n4_ := zj (KeepBut.blk hk (g' := gb227) (o := .cells #[.bool ((bt t224 0) == 108), u228001, u228002, u228003] 29 (0, 0)) (by (with_reducible repeat (first | refine za ?_ _ | refine zb ?_ | refine zc ?_ _)); exact BK227.out) NB227_228.out (by simp))
           have n5_ := zj (hb)
           have n6_ := zj (hi)
           clear HO_228001
           clear HO_228002
           clear HO_228003
           clear BK224
           clear BK227
           clear HB
           clear HI228
           have HO_228001 := n0_
           have HO_228002 := n1_
           have HO_228003 := n2_
           have BK224 := n3_
           have BK227 := n4_
           have HB := n5_
           have HI228 := n6_
           clear n0_ n1_ n2_ n3_ n4_ n5_ n6_
           (try clear hb)
           (try clear hb2)
           (try clear hk)
           (try clear hi)
           refine hK.out _ _ ⟨(zq BK227.out 0).trans rfl, (zq BK227.out 1).trans rfl, (zq BK227.out 2).trans rfl, (zq BK227.out 3).trans rfl⟩ (fun hHeld => ?_)
           clear hK K
           refine norm_ (a' := ?_) ?_ ?_
           rotate_left
           ·show Act.put _ (some 42) _ = _
            simp only [Act.put, List.setIfInBounds_toArray, List.set_cons_zero, List.set_cons_succ, i64_w, i32_w]
            rfl
           refine one_ (i := 4) (N := some 43) #[true, true, true, true, true, false, false, false] rfl rfl (one_of HT_.out (by kernel_rfl)) (by decide) (fun K hK => ?_)
           refine value_ (w1 := ?_) (v := ?_) (by rfl) rfl ?_ ?_
           rotate_left 2
           ·go_simp
            constructor
            ·rfl
            ·rfl
           refine hK.out _ _ ⟨(zq (zc BK227.out _) 0).trans rfl, (zq (zc BK227.out _) 1).trans rfl, (zq (zc BK227.out _) 2).trans rfl, (zq (zc BK227.out _) 3).trans rfl⟩ (fun hHeld => ?_)
           clear hK K
           refine norm_ (a' := ?_) ?_ ?_
           rotate_left
           ·show Act.put _ (some 43) _ = _
            simp only [Act.put, List.setIfInBounds_toArray, List.set_cons_zero, List.set_cons_succ, i64_w, i32_w]
            rfl
           refine one_ (i := 5) (N := some 44) #[true, true, true, true, true, true, false, false] rfl rfl (one_of HT_.out (by kernel_rfl)) (by decide) (fun K hK => ?_)
           refine Kd.R_append_step Kd.string (w0 := w) w.heap.size (by rfl) (.tmp 40) (.tmp 43) 22 9 (.string ⟨#[]⟩) 16 rfl Try.underlying22 info9 rfl (by decide) (by omega) u228001 x228001_1 t230 [.string t230] (fun k_ => some k_ ≠ (u228002 : Value).ownBlock) (fun _ => False) rfl rfl ?aP (fun _ hk => hk.elim) ?aF ?aO ?aB ?aS ?aL ?_
           (case aP => exact rfl)
           (case aB => exact (by repeat (first | (with_reducible first | exact HB.out | apply zg | apply zh | apply zi | refine zr ?_ (IsS153.ge HI228.out) | refine zr ?_ GE224.out | refine zr ?_ GE227.out) | exact HB.out)))
           (case aF => exact (fun k_ hk => Kd.fresh' (Kd.R_lt (by (with_reducible repeat (first | apply zd | apply ze | apply zf)); exact HO_228002.out)) k_ hk))
           (case aO => exact (by (with_reducible repeat (first | apply zd | apply ze | apply zf)); exact HO_228001.out))
           (case aS => exact (zk (by repeat (first | (with_reducible first | exact HB.out | apply zg | apply zh | apply zi | refine zr ?_ (IsS153.ge HI228.out) | refine zr ?_ GE224.out | refine zr ?_ GE227.out) | exact HB.out))))
           (case aL => have := LMc100.out; omega)
           intro v235 w122 ho hb hg hat
           rw [← Ny234.out] at ho
           have n0_ := zj (Kd.R_after (ok := (fun _ => True)) (by (with_reducible repeat (first | apply zd | apply ze | apply zf)); exact zm HO_228002.out (fun _ hk => ⟨trivial, hk⟩)) hg hat)
           have n1_ := zj (Kd.R_over' (by (with_reducible repeat (first | apply zd | apply ze | apply zf)); exact HO_228003.out) (Kd.R_typed (by (with_reducible repeat (first | apply zd | apply ze | apply zf)); exact HO_228001.out)) (by decide) hg)
           have n2_ := zj (blk_grown (g := gb224) (o := .cells #[.bool false, .slice none 0 0, .slice none 0 0, .slice none 0 0] 29 (0, 0)) (by (with_reducible repeat (first | refine za ?_ _ | refine zb ?_ | refine zc ?_ _)); exact BK224.out) hg (Kd.R_ne HO_228001.out BK224.out (by decide)))
           have n3_ := zj (blk_grown (g := gb227) (o := .cells #[.bool ((bt t224 0) == 108), u228001, u228002, u228003] 29 (0, 0)) (by (with_reducible repeat (first | refine za ?_ _ | refine zb ?_ | refine zc ?_ _)); exact BK227.out) hg (Kd.R_ne HO_228001.out BK227.out (by decide)))
           have n4_ := zj (IsS153.grown (by repeat (first | (with_reducible first | exact HI228.out | apply IsS153.alloc | apply IsS153.drewN | apply IsS153.drew | apply IsS153.set_0 | apply IsS153.set_1 | apply IsS153.set_2 | apply IsS153.far (hne := NB228_224.out) | apply IsS153.far (hne := NB228_227.out)) | apply IsS153.far (hne := NB228_224.out) | apply IsS153.far (hne := NB228_227.out) | exact HI228.out)) hg (IsS153.own_ne HI228.out HO_228001.out (by decide)))
           have n5_ := zj (hb)
           have n6_ := zj (ho)
           clear HO_228002
           clear HO_228003
           clear BK224
           clear BK227
           clear HI228
           clear HB
           clear HO_228001
           have HO_228002 := n0_
           have HO_228003 := n1_
           have BK224 := n2_
           have BK227 := n3_
           have HI228 := n4_
           have HB := n5_
           have HO236 := n6_
           clear n0_ n1_ n2_ n3_ n4_ n5_ n6_
           clear ho hb hg hat
           obtain ⟨Ao123, co123, eo123⟩ := Kd.R_slice HO236.out
           (first | subst eo123 | (injection eo123 with f1_ f2_ f3_; have f4_ := f1_.symm; have f5_ := f3_.symm; clear f1_ f2_ f3_; subst f4_; subst f5_))
           refine hK.out _ _ ⟨(zq BK227.out 0).trans rfl, (zq BK227.out 1).trans rfl, (zq BK227.out 2).trans rfl, (zq BK227.out 3).trans rfl⟩ (fun hHeld => ?_)
           clear hK K
           refine norm_ (a' := ?_) ?_ ?_
           rotate_left
           ·show Act.put _ (some 44) _ = _
            simp only [Act.put, List.setIfInBounds_toArray, List.set_cons_zero, List.set_cons_succ, i64_w, i32_w]
            rfl
           refine pure_ (i := 6) (N := some 45) (v := ?_) (a' := ?_) #[true, true, true, true, true, true, true, false] rfl rfl (any_of HT_.out (by kernel_rfl)) (fun _ _ _ h => h) (Or.inl ⟨by rfl, ?_⟩) ?_ ?_
           rotate_left
           ·intro w'
            go_simp
            with_reducible rfl
           rotate_left
           ·simp only [Act.put, List.setIfInBounds_toArray, List.set_cons_zero, List.set_cons_succ, i64_w, i32_w]
            rfl
           refine last_ (i := 7) (N := none) #[true, true, true, true, true, true, true, true] rfl rfl (one_of HT_.out (by kernel_rfl)) (by decide) (fun K hK => ?_)
           have hs124 : w122.cell? ⟨gb227, 1, none⟩ = some (u228001) := (zq BK227.out 1).trans rfl
           have hfs124 := zu BK227.out 1
           have hns124_0 := NB224_227.out
           have hms124_0 := NB227_224.out
           refine skip_ (w1 := ?_) (by rfl) rfl ?_ ?_
           rotate_left
           ·go_simp
            rfl
           refine hK.out _ _ ?_
           clear hK K
           refine done_ (done_of HT_.out (by kernel_rfl)) ?_
           have hnb125 := NB227_224.out
           have hnc125 := NB224_227.out
           have hnb126 := NB227_228.out
           have hnc126 := NB228_227.out
           have hcz127_0 : w122.cell? ⟨gb227, 0, none⟩ = some (.bool ((bt t224 0) == 108)) := (zq BK227.out 0).trans rfl
           have hcz127_1 : w122.cell? ⟨gb227, 1, none⟩ = some (u228001) := (zq BK227.out 1).trans rfl
           have hcz127_2 : w122.cell? ⟨gb227, 2, none⟩ = some (u228002) := (zq BK227.out 2).trans rfl
           have hcz127_3 : w122.cell? ⟨gb227, 3, none⟩ = some (u228003) := (zq BK227.out 3).trans rfl
           have hfz127_0 := zu BK227.out 0
           have hfz127_1 := zu BK227.out 1
           have hfz127_2 := zu BK227.out 2
           have hfz127_3 := zu BK227.out 3
           try go_wp2
           have n0_ : Aside0 (Kd.R Kd.string 9 (w122.setCell ⟨gb227, 1, none⟩ (.slice Ao123 y234.length co123)) w.heap.size (fun k_ => some k_ ≠ (.slice Ao123 y234.length co123 : Value).ownBlock) u228002 x228002_1) := ⟨by (with_reducible repeat (first | apply zd | apply ze | apply zf)); exact zm (zn (p := ⟨gb227, 1, none⟩) (zt HO_228002.out BK227.out (by decide)) (fun _ hk => hk.2) (.slice Ao123 y234.length co123)) (fun _ hk => hk.1.2)⟩
           have n1_ : Aside0 (Kd.R (Kd.int .i64) 3 (w122.setCell ⟨gb227, 1, none⟩ (.slice Ao123 y234.length co123)) w.heap.size (fun _ => True) u228003 x228003_1) := ⟨by (with_reducible repeat (first | apply zd | apply ze | apply zf)); exact zm (zn (p := ⟨gb227, 1, none⟩) (zt HO_228003.out BK227.out (by decide)) (fun _ hk => hk.2) (.slice Ao123 y234.length co123)) (fun _ hk => trivial)⟩
           have n2_ : Aside0 (Kd.R Kd.string 9 (w122.setCell ⟨gb227, 1, none⟩ (.slice Ao123 y234.length co123)) w.heap.size (fun k_ => some k_ ≠ (u228002 : Value).ownBlock) (.slice Ao123 y234.length co123) y234) := ⟨by (with_reducible repeat (first | apply zd | apply ze | apply zf)); exact zm (zn (p := ⟨gb227, 1, none⟩) (zt HO236.out BK227.out (by decide)) (fun _ hk => hk.2) (.slice Ao123 y234.length co123)) (fun _ hk => hk.1)⟩
           have n3_ : Aside0 ((w122.setCell ⟨gb227, 1, none⟩ (.slice Ao123 y234.length co123)).heap[gb224]? = some (.cells #[.bool false, .slice none 0 0, .slice none 0 0, .slice none 0 0] 29 (0, 0))) := ⟨by (with_reducible repeat (first | refine za ?_ _ | refine zb ?_ | refine zc ?_ _)); refine blk_far ?_ NB224_227.out _; (with_reducible repeat (first | refine za ?_ _ | refine zb ?_ | refine zc ?_ _)); exact BK224.out⟩
           have n4_ : Aside0 ((w122.setCell ⟨gb227, 1, none⟩ (.slice Ao123 y234.length co123)).heap[gb227]? = some (.cells #[.bool ((bt t224 0) == 108), .slice Ao123 y234.length co123, u228002, u228003] 29 (0, 0))) := ⟨by (with_reducible repeat (first | refine za ?_ _ | refine zb ?_ | refine zc ?_ _)); refine zp (cs := #[.bool ((bt t224 0) == 108), u228001, u228002, u228003]) ?_ 1 _ rfl; (with_reducible repeat (first | refine za ?_ _ | refine zb ?_ | refine zc ?_ _)); exact BK227.out⟩
           have n5_ : Aside0 (IsS153 w (w122.setCell ⟨gb227, 1, none⟩ (.slice Ao123 y234.length co123)) gb228 t231 t232 t233) := ⟨by repeat (first | (with_reducible first | exact HI228.out | apply IsS153.alloc | apply IsS153.drewN | apply IsS153.drew | apply IsS153.set_0 | apply IsS153.set_1 | apply IsS153.set_2 | apply IsS153.far (hne := NB228_224.out) | apply IsS153.far (hne := NB228_227.out)) | apply IsS153.far (hne := NB228_224.out) | apply IsS153.far (hne := NB228_227.out) | exact HI228.out)⟩
           have n6_ : Aside0 (Below w.heap.size w (w122.setCell ⟨gb227, 1, none⟩ (.slice Ao123 y234.length co123))) := ⟨by repeat (first | (with_reducible first | exact HB.out | apply zg | apply zh | apply zi | refine zr ?_ (IsS153.ge HI228.out) | refine zr ?_ GE224.out | refine zr ?_ GE227.out) | exact HB.out)⟩
           (try clear HO_228002)
           (try clear HO_228003)
           (try clear HO236)
           (try clear BK224)
           (try clear BK227)
           (try clear HI228)
           (try clear HB)
           generalize (w122.setCell ⟨gb227, 1, none⟩ (.slice Ao123 y234.length co123)) = w128 at n0_ n1_ n2_ n3_ n4_ n5_ n6_ ⊢
           have HO_228002 := n0_
           have HO_228003 := n1_
           have HO236 := n2_
           have BK224 := n3_
           have BK227 := n4_
           have HI228 := n5_
           have HB := n6_
           clear n0_ n1_ n2_ n3_ n4_ n5_ n6_
           have n0_ := zj (zf HO_228002.out)
           have n1_ := zj (zf HO_228003.out)
           have n2_ := zj (zf HO236.out)
           have n3_ := zj (zb BK224.out)
           have n4_ := zj (zb BK227.out)
           have n5_ := zj (IsS153.drew HI228.out)
           have n6_ := zj (zi HB.out)
           clear HO_228002
           clear HO_228003
           clear HO236
           clear BK224
           clear BK227
           clear HI228
           clear HB
           have HO_228002 := n0_
           have HO_228003 := n1_
           have HO236 := n2_
           have BK224 := n3_
           have BK227 := n4_
           have HI228 := n5_
           have HB := n6_
           clear n0_ n1_ n2_ n3_ n4_ n5_ n6_
           refine start_ (n := 8) (S := fun w' => w'.cell? ⟨gb227, 0, none⟩ = some (.bool ((bt t224 0) == 108)) ∧ w'.cell? ⟨gb227, 1, none⟩ = some (.slice Ao123 y234.length co123) ∧ w'.cell? ⟨gb227, 2, none⟩ = some (u228002) ∧ w'.cell? ⟨gb227, 3, none⟩ = some (u228003)) (ds := [7]) #[false, false, false, false, false, false, false, false] (by kernel_rfl) rfl rfl ⟨(zq BK227.out 0).trans rfl, (zq BK227.out 1).trans rfl, (zq BK227.out 2).trans rfl, (zq BK227.out 3).trans rfl⟩ (fun hHeld => ?_); refine with_tabW impl_ReadNode.tab11 impl_ReadNode.bits11 (fun HT_ HW_ => ?_)
           generalize w128.drew = w129 at HO_228002 HO_228003 HO236 BK224 BK227 HI228 HB hHeld ⊢
           refine pure_ (i := 0) (N := some 55) (v := ?_) (a' := ?_) #[true, false, false, false, false, false, false, false] rfl rfl (any_of HT_.out (by kernel_rfl)) (fun _ _ _ h => h) (Or.inl ⟨by rfl, ?_⟩) ?_ ?_
           rotate_left
           ·intro w'
            go_simp
            with_reducible rfl
           rotate_left
           ·simp only [Act.put, List.setIfInBounds_toArray, List.set_cons_zero, List.set_cons_succ, i64_w, i32_w]
            rfl
           refine pure_ (i := 2) (N := some 57) (v := ?_) (a' := ?_) #[true, false, true, false, false, false, false, false] rfl rfl (any_of HT_.out (by kernel_rfl)) (fun _ _ _ h => h) (Or.inl ⟨by rfl, ?_⟩) ?_ ?_
           rotate_left
           ·intro w'
            go_simp
            with_reducible rfl
           rotate_left
           ·simp only [Act.put, List.setIfInBounds_toArray, List.set_cons_zero, List.set_cons_succ, i64_w, i32_w]
            rfl
           refine take_ (i := 1) (N := some 56) (v := ?_) (a' := ?_) #[true, true, true, false, false, false, false, false] rfl rfl (take_ofW HT_.out HW_.out (by kernel_rfl)) (fun _ _ _ h => h) (Or.inl ⟨by rfl, ?_⟩) hHeld ?_ ?_
           rotate_left
           ·rintro w' ⟨s0, s1, s2, s3⟩
            go_simp
            with_reducible rfl
           rotate_left
           ·simp only [Act.put, List.setIfInBounds_toArray, List.set_cons_zero, List.set_cons_succ, i64_w, i32_w]
            rfl
           refine one_ (i := 3) (N := some 58) #[true, true, true, true, false, false, false, false] rfl rfl (one_of HT_.out (by kernel_rfl)) (by decide) (fun K hK => ?_)
           refine goes_ Try.func129 (by kernel_rfl) rfl #[.pointer (some ⟨gb228, 0, none⟩), .int .i64 40] (by rfl) rfl rfl (by (try simp only [List.map_toArray, List.map_cons, List.map_nil]); first | done | rfl | (simp only [List.length_drop, List.length_take]; rfl)) ?_
           with_reducible refine (impl_reader_num.calls k1 gb228 t231 t232 t233 40 t244 t245 t246 t247 w _ ?side1 ?side2 A118.out).mono ?_
           (case side1 => repeat (first | (with_reducible first | exact HI228.out | apply IsS153.alloc | apply IsS153.drewN | apply IsS153.drew | apply IsS153.set_0 | apply IsS153.set_1 | apply IsS153.set_2 | apply IsS153.far (hne := NB228_224.out) | apply IsS153.far (hne := NB228_227.out)) | apply IsS153.far (hne := NB228_224.out) | apply IsS153.far (hne := NB228_227.out) | exact HI228.out))
           (case side2 => repeat (first | (with_reducible first | exact HB.out | apply zg | apply zh | apply zi | refine zr ?_ (IsS153.ge HI228.out) | refine zr ?_ GE224.out | refine zr ?_ GE227.out) | exact HB.out))
           rintro e w130 ⟨rfl, hi, hb, hk⟩
           refine ⟨_, rfl, ?_⟩
           have n0_ := zj (zm (Kd.R_keep (IsS153.apart (show IsS153 w _ gb228 t231 t232 t233 from by repeat (first | (with_reducible first | exact HI228.out | apply IsS153.alloc | apply IsS153.drewN | apply IsS153.drew | apply IsS153.set_0 | apply IsS153.set_1 | apply IsS153.set_2 | apply IsS153.far (hne := NB228_224.out) | apply IsS153.far (hne := NB228_227.out)) | apply IsS153.far (hne := NB228_224.out) | apply IsS153.far (hne := NB228_227.out) | exact HI228.out)) (by (with_reducible repeat (first | apply zd | apply ze | apply zf)); exact HO_228002.out) (by decide)) hk (fun _ h => h.2)) (fun _ h => h.1))
           have n1_ := zj (zm (Kd.R_keep (IsS153.apart (show IsS153 w _ gb228 t231 t232 t233 from by repeat (first | (with_reducible first | exact HI228.out | apply IsS153.alloc | apply IsS153.drewN | apply IsS153.drew | apply IsS153.set_0 | apply IsS153.set_1 | apply IsS153.set_2 | apply IsS153.far (hne := NB228_224.out) | apply IsS153.far (hne := NB228_227.out)) | apply IsS153.far (hne := NB228_224.out) | apply IsS153.far (hne := NB228_227.out) | exact HI228.out)) (by (with_reducible repeat (first | apply zd | apply ze | apply zf)); exact HO_228003.out) (by decide)) hk (fun _ h => h.2)) (fun _ h => h.1))
           have n2_ := zj (KeepBut.blk hk (g' := gb224) (o := .cells #[.bool false, .slice none 0 0, .slice none 0 0, .slice none 0 0] 29 (0, 0)) (by (with_reducible repeat (first | refine za ?_ _ | refine zb ?_ | refine zc ?_ _)); exact BK224.out) NB224_228.out (by simp))
           have n3_ := zj (KeepBut.blk hk (g' := gb227) (o := .cells #[.bool ((bt t224 0) == 108), .slice Ao123 y234.length co123, u228002, u228003] 29 (0, 0)) (by (with_reducible repeat (first | refine za ?_ _ | refine zb ?_ | refine zc ?_ _)); exact BK227.out) NB227_228.out (by simp))
           have n4_ := zj (zm (Kd.R_keep (IsS153.apart (show IsS153 w _ gb228 t231 t232 t233 from by repeat (first | (with_reducible first | exact HI228.out | apply IsS153.alloc | apply IsS153.drewN | apply IsS153.drew | apply IsS153.set_0 | apply IsS153.set_1 | apply IsS153.set_2 | apply IsS153.far (hne := NB228_224.out) | apply IsS153.far (hne := NB228_227.out)) | apply IsS153.far (hne := NB228_224.out) | apply IsS153.far (hne := NB228_227.out) | exact HI228.out)) (by (with_reducible repeat (first | apply zd | apply ze | apply zf)); exact HO236.out) (by decide)) hk (fun _ h => h.2)) (fun _ h => h.1))
           have n5_ := zj (hb)
           have n6_ := zj (hi)
           clear HO_228002
           clear HO_228003
           clear BK224
           clear BK227
           clear HO236
           clear HB
           clear HI228
           have HO_228002 := n0_
           have HO_228003 := n1_
           have BK224 := n2_
           have BK227 := n3_
           have HO236 := n4_
           have HB := n5_
           have HI228 := n6_
           clear n0_ n1_ n2_ n3_ n4_ n5_ n6_
           (try clear hb)
           (try clear hb2)
           (try clear hk)
           (try clear hi)
           refine hK.out _ _ ⟨(zq BK227.out 0).trans rfl, (zq BK227.out 1).trans rfl, (zq BK227.out 2).trans rfl, (zq BK227.out 3).trans rfl⟩ (fun hHeld => ?_)
           clear hK K
           refine norm_ (a' := ?_) ?_ ?_
           rotate_left
           ·show Act.put _ (some 58) _ = _
            simp only [Act.put, List.setIfInBounds_toArray, List.set_cons_zero, List.set_cons_succ, i64_w, i32_w]
            rfl
           refine one_ (i := 4) (N := some 59) #[true, true, true, true, true, false, false, false] rfl rfl (one_of HT_.out (by kernel_rfl)) (by decide) (fun K hK => ?_)
           refine value_ (w1 := ?_) (v := ?_) (by rfl) rfl ?_ ?_
           rotate_left 2
           ·go_simp
            constructor
            ·rfl
            ·rfl
           refine hK.out _ _ ⟨(zq (zc BK227.out _) 0).trans rfl, (zq (zc BK227.out _) 1).trans rfl, (zq (zc BK227.out _) 2).trans rfl, (zq (zc BK227.out _) 3).trans rfl⟩ (fun hHeld => ?_)
           clear hK K
           refine norm_ (a' := ?_) ?_ ?_
           rotate_left
           ·show Act.put _ (some 59) _ = _
            simp only [Act.put, List.setIfInBounds_toArray, List.set_cons_zero, List.set_cons_succ, i64_w, i32_w]
            rfl
           refine one_ (i := 5) (N := some 60) #[true, true, true, true, true, true, false, false] rfl rfl (one_of HT_.out (by kernel_rfl)) (by decide) (fun K hK => ?_)
           refine Kd.R_append_step (Kd.int .i64) (w0 := w) w.heap.size (by rfl) (.tmp 56) (.tmp 59) 23 3 (.int .i64 0) 8 rfl Try.underlying23 info3 rfl (by decide) (by omega) u228003 x228003_1 t244 [.int .i64 t244] (fun _ => True) (fun _ => False) rfl rfl ?aP (fun _ hk => hk.elim) ?aF ?aO ?aB ?aS ?aL ?_
           (case aP => exact rfl)
           (case aB => exact (by repeat (first | (with_reducible first | exact HB.out | apply zg | apply zh | apply zi | refine zr ?_ (IsS153.ge HI228.out) | refine zr ?_ GE224.out | refine zr ?_ GE227.out) | exact HB.out)))
           (case aF => exact (fun _ _ => trivial))
           (case aO => exact (by (with_reducible repeat (first | apply zd | apply ze | apply zf)); exact HO_228003.out))
           (case aS => exact (zk (by repeat (first | (with_reducible first | exact HB.out | apply zg | apply zh | apply zi | refine zr ?_ (IsS153.ge HI228.out) | refine zr ?_ GE224.out | refine zr ?_ GE227.out) | exact HB.out))))
           (case aL => have := LMc119.out; omega)
           intro v249 w131 ho hb hg hat
           rw [← Ny248.out] at ho
           have n0_ := zj (Kd.R_over' (by (with_reducible repeat (first | apply zd | apply ze | apply zf)); exact HO_228002.out) (Kd.R_typed (by (with_reducible repeat (first | apply zd | apply ze | apply zf)); exact HO_228003.out)) (by decide) hg)
           have n1_ := zj (blk_grown (g := gb224) (o := .cells #[.bool false, .slice none 0 0, .slice none 0 0, .slice none 0 0] 29 (0, 0)) (by (with_reducible repeat (first | refine za ?_ _ | refine zb ?_ | refine zc ?_ _)); exact BK224.out) hg (Kd.R_ne HO_228003.out BK224.out (by decide)))
           have n2_ := zj (blk_grown (g := gb227) (o := .cells #[.bool ((bt t224 0) == 108), .slice Ao123 y234.length co123, u228002, u228003] 29 (0, 0)) (by (with_reducible repeat (first | refine za ?_ _ | refine zb ?_ | refine zc ?_ _)); exact BK227.out) hg (Kd.R_ne HO_228003.out BK227.out (by decide)))
           have n3_ := zj (IsS153.grown (by repeat (first | (with_reducible first | exact HI228.out | apply IsS153.alloc | apply IsS153.drewN | apply IsS153.drew | apply IsS153.set_0 | apply IsS153.set_1 | apply IsS153.set_2 | apply IsS153.far (hne := NB228_224.out) | apply IsS153.far (hne := NB228_227.out)) | apply IsS153.far (hne := NB228_224.out) | apply IsS153.far (hne := NB228_227.out) | exact HI228.out)) hg (IsS153.own_ne HI228.out HO_228003.out (by decide)))
           have n4_ := zj (Kd.R_over' (by (with_reducible repeat (first | apply zd | apply ze | apply zf)); exact HO236.out) (Kd.R_typed (by (with_reducible repeat (first | apply zd | apply ze | apply zf)); exact HO_228003.out)) (by decide) hg)
           have n5_ := zj (hb)
           have n6_ := zj (ho)
           clear HO_228002
           clear BK224
           clear BK227
           clear HI228
           clear HO236
           clear HB
           clear HO_228003
           have HO_228002 := n0_
           have BK224 := n1_
           have BK227 := n2_
           have HI228 := n3_
           have HO236 := n4_
           have HB := n5_
           have HO250 := n6_
           clear n0_ n1_ n2_ n3_ n4_ n5_ n6_
           clear ho hb hg hat
           obtain ⟨Ao132, co132, eo132⟩ := Kd.R_slice HO250.out
           (first | subst eo132 | (injection eo132 with f1_ f2_ f3_; have f4_ := f1_.symm; have f5_ := f3_.symm; clear f1_ f2_ f3_; subst f4_; subst f5_))
           refine hK.out _ _ ⟨(zq BK227.out 0).trans rfl, (zq BK227.out 1).trans rfl, (zq BK227.out 2).trans rfl, (zq BK227.out 3).trans rfl⟩ (fun hHeld => ?_)
           clear hK K
           refine norm_ (a' := ?_) ?_ ?_
           rotate_left
           ·show Act.put _ (some 60) _ = _
            simp only [Act.put, List.setIfInBounds_toArray, List.set_cons_zero, List.set_cons_succ, i64_w, i32_w]
            rfl
           refine pure_ (i := 6) (N := some 61) (v := ?_) (a' := ?_) #[true, true, true, true, true, true, true, false] rfl rfl (any_of HT_.out (by kernel_rfl)) (fun _ _ _ h => h) (Or.inl ⟨by rfl, ?_⟩) ?_ ?_
           rotate_left
           ·intro w'
            go_simp
            with_reducible rfl
           rotate_left
           ·simp only [Act.put, List.setIfInBounds_toArray, List.set_cons_zero, List.set_cons_succ, i64_w, i32_w]
            rfl
           refine last_ (i := 7) (N := none) #[true, true, true, true, true, true, true, true] rfl rfl (one_of HT_.out (by kernel_rfl)) (by decide) (fun K hK => ?_)
           have hs133 : w131.cell? ⟨gb227, 3, none⟩ = some (u228003) := (zq BK227.out 3).trans rfl
           have hfs133 := zu BK227.out 3
           have hns133_0 := NB224_227.out
           have hms133_0 := NB227_224.out
           refine skip_ (w1 := ?_) (by rfl) rfl ?_ ?_
           rotate_left
           ·go_simp
            rfl
           refine hK.out _ _ ?_
           clear hK K
           refine done_ (done_of HT_.out (by kernel_rfl)) ?_
           try go_wp2
           go_roundg k1
           case measure => have := HK1.out; omega
           case rel => exact ⟨(wrap64 (x37_1 + 1)), (y234), (x228002_1), (y248), (t245), (t246), (t247), (.slice Ao123 y234.length co123), (u228002), (.slice Ao132 y248.length co132), (by first | rfl | (simp; done) | (simp [*]; done)), H', ⟨by have := HK1.out; omega⟩, ⟨by (with_reducible repeat (first | apply zd | apply ze | apply zf)); exact zm (zn (p := ⟨gb227, 3, none⟩) (zt HO236.out BK227.out (by decide)) (fun _ hk => hk.2) (.slice Ao132 y248.length co132)) (fun _ hk => hk.1)⟩, ⟨by (with_reducible repeat (first | apply zd | apply ze | apply zf)); exact zm (zn (p := ⟨gb227, 3, none⟩) (zt HO_228002.out BK227.out (by decide)) (fun _ hk => hk.2) (.slice Ao132 y248.length co132)) (fun _ hk => hk.1)⟩, ⟨by (with_reducible repeat (first | apply zd | apply ze | apply zf)); exact zm (zn (p := ⟨gb227, 3, none⟩) (zt HO250.out BK227.out (by decide)) (fun _ hk => hk.2) (.slice Ao132 y248.length co132)) (fun _ hk => trivial)⟩, ⟨by (with_reducible repeat (first | refine za ?_ _ | refine zb ?_ | refine zc ?_ _)); refine blk_far ?_ NB224_227.out _; (with_reducible repeat (first | refine za ?_ _ | refine zb ?_ | refine zc ?_ _)); exact BK224.out⟩, ⟨by (with_reducible repeat (first | refine za ?_ _ | refine zb ?_ | refine zc ?_ _)); refine zp (cs := #[.bool ((bt t224 0) == 108), .slice Ao123 y234.length co123, u228002, u228003]) ?_ 3 _ rfl; (with_reducible repeat (first | refine za ?_ _ | refine zb ?_ | refine zc ?_ _)); exact BK227.out⟩, ⟨by repeat (first | (with_reducible first | exact HI228.out | apply IsS153.alloc | apply IsS153.drewN | apply IsS153.drew | apply IsS153.set_0 | apply IsS153.set_1 | apply IsS153.set_2 | apply IsS153.far (hne := NB228_224.out) | apply IsS153.far (hne := NB228_227.out)) | apply IsS153.far (hne := NB228_224.out) | apply IsS153.far (hne := NB228_227.out) | exact HI228.out)⟩, ⟨by repeat (first | (with_reducible first | exact HB.out | apply zg | apply zh | apply zi | refine zr ?_ (IsS153.ge HI228.out) | refine zr ?_ GE224.out | refine zr ?_ GE227.out) | exact HB.out)⟩⟩
          ·rw [if_neg c119] at H
           exact absurd H (by simp)
        ·rw [if_neg c100] at H
         exact absurd H (by simp)
       ·rw [if_neg c98] at H
        have c98b0 : decide (x37_1 < t252) = false := decide_eq_false c98
        clear c98
        by_cases c134 : x229002_1 = true
        ·subst c134
         have H1 : (some (false, ([] : List ByteArray), ([] : List ByteArray), ([] : List Int), false)) = some (r1, r2, r3, r4, r5) := by rw [if_pos rfl] at H; exact H
         clear H
         have H := H1
         clear H1
         simp only [Option.some.injEq, Prod.mk.injEq] at H
         obtain ⟨rfl, rfl, rfl, rfl, rfl⟩ := H
         obtain ⟨HGz135, hgz135⟩ := HI228.out
         have hcz135_0 := cellS153_0 HGz135
         have hcz135_1 := cellS153_1 HGz135
         have hcz135_2 := cellS153_2 HGz135
         have hfz135_0 := zu HGz135 0
         have hfz135_1 := zu HGz135 1
         have hfz135_2 := zu HGz135 2
         clear HGz135 hgz135
         have hnb136 := NB224_227.out
         have hnc136 := NB227_224.out
         have hnb137 := NB224_228.out
         have hnc137 := NB228_224.out
         have hcz138_0 : wr.cell? ⟨gb224, 0, none⟩ = some (.bool false) := (zq BK224.out 0).trans rfl
         have hcz138_1 : wr.cell? ⟨gb224, 1, none⟩ = some (.slice none 0 0) := (zq BK224.out 1).trans rfl
         have hcz138_2 : wr.cell? ⟨gb224, 2, none⟩ = some (.slice none 0 0) := (zq BK224.out 2).trans rfl
         have hcz138_3 : wr.cell? ⟨gb224, 3, none⟩ = some (.slice none 0 0) := (zq BK224.out 3).trans rfl
         have hfz138_0 := zu BK224.out 0
         have hfz138_1 := zu BK224.out 1
         have hfz138_2 := zu BK224.out 2
         have hfz138_3 := zu BK224.out 3
         go_wp2
         refine bodyPost_ret (results_ct rfl _ _ gb224 29 #[.bool false, .slice none 0 0, .slice none 0 0, .slice none 0 0] (0, 0) _ rfl (by (with_reducible repeat (first | refine za ?_ _ | refine zb ?_ | refine zc ?_ _)); refine zp (cs := #[.bool false, .slice none 0 0, .slice none 0 0, .slice none 0 0]) ?_ 3 _ rfl; (with_reducible repeat (first | refine za ?_ _ | refine zb ?_ | refine zc ?_ _)); refine zp (cs := #[.bool false, .slice none 0 0, .slice none 0 0, .slice none 0 0]) ?_ 2 _ rfl; (with_reducible repeat (first | refine za ?_ _ | refine zb ?_ | refine zc ?_ _)); refine zp (cs := #[.bool false, .slice none 0 0, .slice none 0 0, .slice none 0 0]) ?_ 1 _ rfl; (with_reducible repeat (first | refine za ?_ _ | refine zb ?_ | refine zc ?_ _)); refine zp (cs := #[.bool false, .slice none 0 0, .slice none 0 0, .slice none 0 0]) ?_ 0 _ rfl; (with_reducible repeat (first | refine za ?_ _ | refine zb ?_ | refine zc ?_ _)); exact BK224.out) Try.underlying29 rfl (by kernel_rfl)) rfl ?_
         exact ⟨_, _, _, by first | rfl | (simp [errW_none, errW_some] <;> rfl) | (simp [*, errW_none, errW_some] <;> rfl), by first | exact Kd.R_nil _ _ _ _ _ | exact Kd.N_nil _ _ _ _ _ | exact Kd.V_nil _ _ _ _ _ | exact Kd.Q_nil _ _ _ _ _ | exact Kd.S_nil _ _ _ _ _, by first | exact Kd.R_nil _ _ _ _ _ | exact Kd.N_nil _ _ _ _ _ | exact Kd.V_nil _ _ _ _ _ | exact Kd.Q_nil _ _ _ _ _ | exact Kd.S_nil _ _ _ _ _, by first | exact Kd.R_nil _ _ _ _ _ | exact Kd.N_nil _ _ _ _ _ | exact Kd.V_nil _ _ _ _ _ | exact Kd.Q_nil _ _ _ _ _ | exact Kd.S_nil _ _ _ _ _, by repeat (first | (with_reducible first | exact HB.out | apply zg | apply zh | apply zi | refine zr ?_ (IsS153.ge HI228.out) | refine zr ?_ GE224.out | refine zr ?_ GE227.out) | exact HB.out)⟩
        ·replace c134 := Bool.eq_false_iff.mpr c134
         subst c134
         have H1 : (if x229001_1 = (t224.size : Int) then ((impl_NodeOk.f k1 ((bt t224 0) == 108) x228001_1 x228002_1 x228003_1).bind fun t251 => (if t251 = true then (some (((bt t224 0) == 108), x228001_1, x228002_1, x228003_1, true)) else (some (false, ([] : List ByteArray), ([] : List ByteArray), ([] : List Int), false)))) else (some (false, ([] : List ByteArray), ([] : List ByteArray), ([] : List Int), false))) = some (r1, r2, r3, r4, r5) := by rw [if_neg (show ¬ (false = true) by decide)] at H; exact H
         clear H
         have H := H1
         clear H1
         by_cases c139 : x229001_1 = (t224.size : Int)
         ·rw [if_pos c139] at H
          have c139b0 : (x229001_1 == (t224.size : Int)) = true := beq_iff_eq.mpr c139
          have c139b1 : (x229001_1 != (t224.size : Int)) = false := bne_eq_false_iff_eq.mpr c139
          clear c139
          replace H := Option.bind_eq_some_iff.mp H
          obtain ⟨t251, A1400, H⟩ := H
          replace H : (if t251 = true then (some (((bt t224 0) == 108), x228001_1, x228002_1, x228003_1, true)) else (some (false, ([] : List ByteArray), ([] : List ByteArray), ([] : List Int), false))) = some (r1, r2, r3, r4, r5) := H
          have A140 := zj A1400
          clear A1400
          by_cases c141 : t251 = true
          ·subst c141
           have H1 : (some (((bt t224 0) == 108), x228001_1, x228002_1, x228003_1, true)) = some (r1, r2, r3, r4, r5) := by rw [if_pos rfl] at H; exact H
           clear H
           have H := H1
           clear H1
           simp only [Option.some.injEq, Prod.mk.injEq] at H
           obtain ⟨rfl, rfl, rfl, rfl, rfl⟩ := H
           obtain ⟨HGz142, hgz142⟩ := HI228.out
           have hcz142_0 := cellS153_0 HGz142
           have hcz142_1 := cellS153_1 HGz142
           have hcz142_2 := cellS153_2 HGz142
           have hfz142_0 := zu HGz142 0
           have hfz142_1 := zu HGz142 1
           have hfz142_2 := zu HGz142 2
           clear HGz142 hgz142
           have hnb143 := NB227_224.out
           have hnc143 := NB224_227.out
           have hnb144 := NB227_228.out
           have hnc144 := NB228_227.out
           have hcz145_0 : wr.cell? ⟨gb227, 0, none⟩ = some (.bool ((bt t224 0) == 108)) := (zq BK227.out 0).trans rfl
           have hcz145_1 : wr.cell? ⟨gb227, 1, none⟩ = some (u228001) := (zq BK227.out 1).trans rfl
           have hcz145_2 : wr.cell? ⟨gb227, 2, none⟩ = some (u228002) := (zq BK227.out 2).trans rfl
           have hcz145_3 : wr.cell? ⟨gb227, 3, none⟩ = some (u228003) := (zq BK227.out 3).trans rfl
           have hfz145_0 := zu BK227.out 0
           have hfz145_1 := zu BK227.out 1
           have hfz145_2 := zu BK227.out 2
           have hfz145_3 := zu BK227.out 3
           obtain ⟨Ao146, co146, eo146⟩ := Kd.R_slice HO_228001.out
           subst eo146
           obtain ⟨Ao147, co147, eo147⟩ := Kd.R_slice HO_228002.out
           subst eo147
           obtain ⟨Ao148, co148, eo148⟩ := Kd.R_slice HO_228003.out
           subst eo148
           go_wp2_with (first | (go_at_call 84; (with_reducible refine (impl_NodeOk.calls k1 ((bt t224 0) == 108) _ _ x228001_1 _ _ x228002_1 _ _ x228003_1 true _ ?side1 ?side2 ?side3 ?side4 ?side5 ?side6 A140.out).mono ?_); (case side1 => repeat (first | exact (Kd.R_reads' HO_228001.out).2.2 | (with_reducible refine Kd.C_alloc ?_ _) | (with_reducible refine Kd.C_drewN ?_ _) | (with_reducible refine Kd.C_drew ?_))); (case side2 => exact (Kd.R_reads' HO_228001.out).2.1); (case side3 => repeat (first | exact (Kd.R_reads' HO_228002.out).2.2 | (with_reducible refine Kd.C_alloc ?_ _) | (with_reducible refine Kd.C_drewN ?_ _) | (with_reducible refine Kd.C_drew ?_))); (case side4 => exact (Kd.R_reads' HO_228002.out).2.1); (case side5 => repeat (first | exact (Kd.R_reads' HO_228003.out).2.2 | (with_reducible refine Kd.C_alloc ?_ _) | (with_reducible refine Kd.C_drewN ?_ _) | (with_reducible refine Kd.C_drew ?_))); (case side6 => exact (Kd.R_reads' HO_228003.out).2.1); rintro e w149 ⟨rfl, hb⟩; have n0_ := zj (zs (by (with_reducible repeat (first | apply zd | apply ze | apply zf)); exact HO_228001.out) hb); have n1_ := zj (zs (by (with_reducible repeat (first | apply zd | apply ze | apply zf)); exact HO_228002.out) hb); have n2_ := zj (zs (by (with_reducible repeat (first | apply zd | apply ze | apply zf)); exact HO_228003.out) hb); have n3_ := zj (zo (g := gb224) (o := .cells #[.bool false, .slice none 0 0, .slice none 0 0, .slice none 0 0] 29 (0, 0)) (by (with_reducible repeat (first | refine za ?_ _ | refine zb ?_ | refine zc ?_ _)); exact BK224.out) hb); have n4_ := zj (zo (g := gb227) (o := .cells #[.bool ((bt t224 0) == 108), .slice Ao146 x228001_1.length co146, .slice Ao147 x228002_1.length co147, .slice Ao148 x228003_1.length co148] 29 (0, 0)) (by (with_reducible repeat (first | refine za ?_ _ | refine zb ?_ | refine zc ?_ _)); exact BK227.out) hb); have n5_ := zj (IsS153.below (by repeat (first | (with_reducible first | exact HI228.out | apply IsS153.alloc | apply IsS153.drewN | apply IsS153.drew | apply IsS153.set_0 | apply IsS153.set_1 | apply IsS153.set_2 | apply IsS153.far (hne := NB228_224.out) | apply IsS153.far (hne := NB228_227.out)) | apply IsS153.far (hne := NB228_224.out) | apply IsS153.far (hne := NB228_227.out) | exact HI228.out)) hb); have n6_ := zj (zl (by repeat (first | (with_reducible first | exact HB.out | apply zg | apply zh | apply zi | refine zr ?_ (IsS153.ge HI228.out) | refine zr ?_ GE224.out | refine zr ?_ GE227.out) | exact HB.out)) hb); clear HO_228001; clear HO_228002; clear HO_228003; clear BK224; clear BK227; clear HI228; clear HB; have HO_228001 := n0_; have HO_228002 := n1_; have HO_228003 := n2_; have BK224 := n3_; have BK227 := n4_; have HI228 := n5_; have HB := n6_; clear n0_ n1_ n2_ n3_ n4_ n5_ n6_; (try clear hb); (try clear hb2); (try clear hk); (try clear hi); have hcz150_0 : w149.cell? ⟨gb227, 0, none⟩ = some (.bool ((bt t224 0) == 108)) := (zq BK227.out 0).trans rfl; have hcz150_1 : w149.cell? ⟨gb227, 1, none⟩ = some (.slice Ao146 x228001_1.length co146) := (zq BK227.out 1).trans rfl; have hcz150_2 : w149.cell? ⟨gb227, 2, none⟩ = some (.slice Ao147 x228002_1.length co147) := (zq BK227.out 2).trans rfl; have hcz150_3 : w149.cell? ⟨gb227, 3, none⟩ = some (.slice Ao148 x228003_1.length co148) := (zq BK227.out 3).trans rfl; have hfz150_0 := zu BK227.out 0; have hfz150_1 := zu BK227.out 1; have hfz150_2 := zu BK227.out 2; have hfz150_3 := zu BK227.out 3; have hnb151 := NB224_228.out; have hnc151 := NB228_224.out; have hcz152_0 : w149.cell? ⟨gb224, 0, none⟩ = some (.bool false) := (zq BK224.out 0).trans rfl; have hcz152_1 : w149.cell? ⟨gb224, 1, none⟩ = some (.slice none 0 0) := (zq BK224.out 1).trans rfl; have hcz152_2 : w149.cell? ⟨gb224, 2, none⟩ = some (.slice none 0 0) := (zq BK224.out 2).trans rfl; have hcz152_3 : w149.cell? ⟨gb224, 3, none⟩ = some (.slice none 0 0) := (zq BK224.out 3).trans rfl; have hfz152_0 := zu BK224.out 0; have hfz152_1 := zu BK224.out 1; have hfz152_2 := zu BK224.out 2; have hfz152_3 := zu BK224.out 3))
           refine bodyPost_ret (results_ct rfl _ _ gb224 29 #[.bool ((bt t224 0) == 108), .slice Ao146 x228001_1.length co146, .slice Ao147 x228002_1.length co147, .slice Ao148 x228003_1.length co148] (0, 0) _ rfl (by (with_reducible repeat (first | refine za ?_ _ | refine zb ?_ | refine zc ?_ _)); refine zp (cs := #[.bool ((bt t224 0) == 108), .slice Ao146 x228001_1.length co146, .slice Ao147 x228002_1.length co147, .slice none 0 0]) ?_ 3 _ rfl; (with_reducible repeat (first | refine za ?_ _ | refine zb ?_ | refine zc ?_ _)); refine zp (cs := #[.bool ((bt t224 0) == 108), .slice Ao146 x228001_1.length co146, .slice none 0 0, .slice none 0 0]) ?_ 2 _ rfl; (with_reducible repeat (first | refine za ?_ _ | refine zb ?_ | refine zc ?_ _)); refine zp (cs := #[.bool ((bt t224 0) == 108), .slice none 0 0, .slice none 0 0, .slice none 0 0]) ?_ 1 _ rfl; (with_reducible repeat (first | refine za ?_ _ | refine zb ?_ | refine zc ?_ _)); refine zp (cs := #[.bool false, .slice none 0 0, .slice none 0 0, .slice none 0 0]) ?_ 0 _ rfl; (with_reducible repeat (first | refine za ?_ _ | refine zb ?_ | refine zc ?_ _)); exact BK224.out) Try.underlying29 rfl (by kernel_rfl)) rfl ?_
           exact ⟨_, _, _, by first | rfl | (simp [errW_none, errW_some] <;> rfl) | (simp [*, errW_none, errW_some] <;> rfl), by (with_reducible repeat (first | apply zd | apply ze | apply zf)); exact zm (zn (p := ⟨gb224, 3, none⟩) (zn (p := ⟨gb224, 2, none⟩) (zn (p := ⟨gb224, 1, none⟩) (zn (p := ⟨gb224, 0, none⟩) (zt HO_228001.out BK224.out (by decide)) (fun _ hk => hk.2) (.bool ((bt t224 0) == 108))) (fun _ hk => hk.2) (.slice Ao146 x228001_1.length co146)) (fun _ hk => hk.2) (.slice Ao147 x228002_1.length co147)) (fun _ hk => hk.2) (.slice Ao148 x228003_1.length co148)) (fun _ hk => hk.1), by (with_reducible repeat (first | apply zd | apply ze | apply zf)); exact zm (zn (p := ⟨gb224, 3, none⟩) (zn (p := ⟨gb224, 2, none⟩) (zn (p := ⟨gb224, 1, none⟩) (zn (p := ⟨gb224, 0, none⟩) (zt HO_228002.out BK224.out (by decide)) (fun _ hk => hk.2) (.bool ((bt t224 0) == 108))) (fun _ hk => hk.2) (.slice Ao146 x228001_1.length co146)) (fun _ hk => hk.2) (.slice Ao147 x228002_1.length co147)) (fun _ hk => hk.2) (.slice Ao148 x228003_1.length co148)) (fun _ hk => hk.1), by (with_reducible repeat (first | apply zd | apply ze | apply zf)); exact zm (zn (p := ⟨gb224, 3, none⟩) (zn (p := ⟨gb224, 2, none⟩) (zn (p := ⟨gb224, 1, none⟩) (zn (p := ⟨gb224, 0, none⟩) (zt HO_228003.out BK224.out (by decide)) (fun _ hk => hk.2) (.bool ((bt t224 0) == 108))) (fun _ hk => hk.2) (.slice Ao146 x228001_1.length co146)) (fun _ hk => hk.2) (.slice Ao147 x228002_1.length co147)) (fun _ hk => hk.2) (.slice Ao148 x228003_1.length co148)) (fun _ hk => trivial), by repeat (first | (with_reducible first | exact HB.out | apply zg | apply zh | apply zi | refine zr ?_ (IsS153.ge HI228.out) | refine zr ?_ GE224.out | refine zr ?_ GE227.out) | exact HB.out)⟩
          ·replace c141 := Bool.eq_false_iff.mpr c141
           subst c141
           have H1 : (some (false, ([] : List ByteArray), ([] : List ByteArray), ([] : List Int), false)) = some (r1, r2, r3, r4, r5) := by rw [if_neg (show ¬ (false = true) by decide)] at H; exact H
           clear H
           have H := H1
           clear H1
           simp only [Option.some.injEq, Prod.mk.injEq] at H
           obtain ⟨rfl, rfl, rfl, rfl, rfl⟩ := H
           obtain ⟨HGz153, hgz153⟩ := HI228.out
           have hcz153_0 := cellS153_0 HGz153
           have hcz153_1 := cellS153_1 HGz153
           have hcz153_2 := cellS153_2 HGz153
           have hfz153_0 := zu HGz153 0
           have hfz153_1 := zu HGz153 1
           have hfz153_2 := zu HGz153 2
           clear HGz153 hgz153
           have hnb154 := NB227_224.out
           have hnc154 := NB224_227.out
           have hnb155 := NB227_228.out
           have hnc155 := NB228_227.out
           have hcz156_0 : wr.cell? ⟨gb227, 0, none⟩ = some (.bool ((bt t224 0) == 108)) := (zq BK227.out 0).trans rfl
           have hcz156_1 : wr.cell? ⟨gb227, 1, none⟩ = some (u228001) := (zq BK227.out 1).trans rfl
           have hcz156_2 : wr.cell? ⟨gb227, 2, none⟩ = some (u228002) := (zq BK227.out 2).trans rfl
           have hcz156_3 : wr.cell? ⟨gb227, 3, none⟩ = some (u228003) := (zq BK227.out 3).trans rfl
           have hfz156_0 := zu BK227.out 0
           have hfz156_1 := zu BK227.out 1
           have hfz156_2 := zu BK227.out 2
           have hfz156_3 := zu BK227.out 3
           obtain ⟨Ao157, co157, eo157⟩ := Kd.R_slice HO_228001.out
           subst eo157
           obtain ⟨Ao158, co158, eo158⟩ := Kd.R_slice HO_228002.out
           subst eo158
           obtain ⟨Ao159, co159, eo159⟩ := Kd.R_slice HO_228003.out
           subst eo159
           go_wp2_with (first | (go_at_call 84; (with_reducible refine (impl_NodeOk.calls k1 ((bt t224 0) == 108) _ _ x228001_1 _ _ x228002_1 _ _ x228003_1 false _ ?side1 ?side2 ?side3 ?side4 ?side5 ?side6 A140.out).mono ?_); (case side1 => repeat (first | exact (Kd.R_reads' HO_228001.out).2.2 | (with_reducible refine Kd.C_alloc ?_ _) | (with_reducible refine Kd.C_drewN ?_ _) | (with_reducible refine Kd.C_drew ?_))); (case side2 => exact (Kd.R_reads' HO_228001.out).2.1); (case side3 => repeat (first | exact (Kd.R_reads' HO_228002.out).2.2 | (with_reducible refine Kd.C_alloc ?_ _) | (with_reducible refine Kd.C_drewN ?_ _) | (with_reducible refine Kd.C_drew ?_))); (case side4 => exact (Kd.R_reads' HO_228002.out).2.1); (case side5 => repeat (first | exact (Kd.R_reads' HO_228003.out).2.2 | (with_reducible refine Kd.C_alloc ?_ _) | (with_reducible refine Kd.C_drewN ?_ _) | (with_reducible refine Kd.C_drew ?_))); (case side6 => exact (Kd.R_reads' HO_228003.out).2.1); rintro e w160 ⟨rfl, hb⟩; have n0_ := zj (zs (by (with_reducible repeat (first | apply zd | apply ze | apply zf)); exact HO_228001.out) hb); have n1_ := zj (zs (by (with_reducible repeat (first | apply zd | apply ze | apply zf)); exact HO_228002.out) hb); have n2_ := zj (zs (by (with_reducible repeat (first | apply zd | apply ze | apply zf)); exact HO_228003.out) hb); have n3_ := zj (zo (g := gb224) (o := .cells #[.bool false, .slice none 0 0, .slice none 0 0, .slice none 0 0] 29 (0, 0)) (by (with_reducible repeat (first | refine za ?_ _ | refine zb ?_ | refine zc ?_ _)); exact BK224.out) hb); have n4_ := zj (zo (g := gb227) (o := .cells #[.bool ((bt t224 0) == 108), .slice Ao157 x228001_1.length co157, .slice Ao158 x228002_1.length co158, .slice Ao159 x228003_1.length co159] 29 (0, 0)) (by (with_reducible repeat (first | refine za ?_ _ | refine zb ?_ | refine zc ?_ _)); exact BK227.out) hb); have n5_ := zj (IsS153.below (by repeat (first | (with_reducible first | exact HI228.out | apply IsS153.alloc | apply IsS153.drewN | apply IsS153.drew | apply IsS153.set_0 | apply IsS153.set_1 | apply IsS153.set_2 | apply IsS153.far (hne := NB228_224.out) | apply IsS153.far (hne := NB228_227.out)) | apply IsS153.far (hne := NB228_224.out) | apply IsS153.far (hne := NB228_227.out) | exact HI228.out)) hb); have n6_ := zj (zl (by repeat (first | (with_reducible first | exact HB.out | apply zg | apply zh | apply zi | refine zr ?_ (IsS153.ge HI228.out) | refine zr ?_ GE224.out | refine zr ?_ GE227.out) | exact HB.out)) hb); clear HO_228001; clear HO_228002; clear HO_228003; clear BK224; clear BK227; clear HI228; clear HB; have HO_228001 := n0_; have HO_228002 := n1_; have HO_228003 := n2_; have BK224 := n3_; have BK227 := n4_; have HI228 := n5_; have HB := n6_; clear n0_ n1_ n2_ n3_ n4_ n5_ n6_; (try clear hb); (try clear hb2); (try clear hk); (try clear hi); have hnb161 := NB224_228.out; have hnc161 := NB228_224.out; have hcz162_0 : w160.cell? ⟨gb224, 0, none⟩ = some (.bool false) := (zq BK224.out 0).trans rfl; have hcz162_1 : w160.cell? ⟨gb224, 1, none⟩ = some (.slice none 0 0) := (zq BK224.out 1).trans rfl; have hcz162_2 : w160.cell? ⟨gb224, 2, none⟩ = some (.slice none 0 0) := (zq BK224.out 2).trans rfl; have hcz162_3 : w160.cell? ⟨gb224, 3, none⟩ = some (.slice none 0 0) := (zq BK224.out 3).trans rfl; have hfz162_0 := zu BK224.out 0; have hfz162_1 := zu BK224.out 1; have hfz162_2 := zu BK224.out 2; have hfz162_3 := zu BK224.out 3))
           refine bodyPost_ret (results_ct rfl _ _ gb224 29 #[.bool false, .slice none 0 0, .slice none 0 0, .slice none 0 0] (0, 0) _ rfl (by (with_reducible repeat (first | refine za ?_ _ | refine zb ?_ | refine zc ?_ _)); refine zp (cs := #[.bool false, .slice none 0 0, .slice none 0 0, .slice none 0 0]) ?_ 3 _ rfl; (with_reducible repeat (first | refine za ?_ _ | refine zb ?_ | refine zc ?_ _)); refine zp (cs := #[.bool false, .slice none 0 0, .slice none 0 0, .slice none 0 0]) ?_ 2 _ rfl; (with_reducible repeat (first | refine za ?_ _ | refine zb ?_ | refine zc ?_ _)); refine zp (cs := #[.bool false, .slice none 0 0, .slice none 0 0, .slice none 0 0]) ?_ 1 _ rfl; (with_reducible repeat (first | refine za ?_ _ | refine zb ?_ | refine zc ?_ _)); refine zp (cs := #[.bool false, .slice none 0 0, .slice none 0 0, .slice none 0 0]) ?_ 0 _ rfl; (with_reducible repeat (first | refine za ?_ _ | refine zb ?_ | refine zc ?_ _)); exact BK224.out) Try.underlying29 rfl (by kernel_rfl)) rfl ?_
           exact ⟨_, _, _, by first | rfl | (simp [errW_none, errW_some] <;> rfl) | (simp [*, errW_none, errW_some] <;> rfl), by first | exact Kd.R_nil _ _ _ _ _ | exact Kd.N_nil _ _ _ _ _ | exact Kd.V_nil _ _ _ _ _ | exact Kd.Q_nil _ _ _ _ _ | exact Kd.S_nil _ _ _ _ _, by first | exact Kd.R_nil _ _ _ _ _ | exact Kd.N_nil _ _ _ _ _ | exact Kd.V_nil _ _ _ _ _ | exact Kd.Q_nil _ _ _ _ _ | exact Kd.S_nil _ _ _ _ _, by first | exact Kd.R_nil _ _ _ _ _ | exact Kd.N_nil _ _ _ _ _ | exact Kd.V_nil _ _ _ _ _ | exact Kd.Q_nil _ _ _ _ _ | exact Kd.S_nil _ _ _ _ _, by repeat (first | (with_reducible first | exact HB.out | apply zg | apply zh | apply zi | refine zr ?_ (IsS153.ge HI228.out) | refine zr ?_ GE224.out | refine zr ?_ GE227.out) | exact HB.out)⟩
         ·rw [if_neg c139] at H
          have c139b0 : (x229001_1 == (t224.size : Int)) = false := beq_eq_false_iff_ne.mpr c139
          have c139b1 : (x229001_1 != (t224.size : Int)) = true := bne_iff_ne.mpr c139
          simp only [Option.some.injEq, Prod.mk.injEq] at H
          obtain ⟨rfl, rfl, rfl, rfl, rfl⟩ := H
          obtain ⟨HGz163, hgz163⟩ := HI228.out
          have hcz163_0 := cellS153_0 HGz163
          have hcz163_1 := cellS153_1 HGz163
          have hcz163_2 := cellS153_2 HGz163
          have hfz163_0 := zu HGz163 0
          have hfz163_1 := zu HGz163 1
          have hfz163_2 := zu HGz163 2
          clear HGz163 hgz163
          have hnb164 := NB224_227.out
          have hnc164 := NB227_224.out
          have hnb165 := NB224_228.out
          have hnc165 := NB228_224.out
          have hcz166_0 : wr.cell? ⟨gb224, 0, none⟩ = some (.bool false) := (zq BK224.out 0).trans rfl
          have hcz166_1 : wr.cell? ⟨gb224, 1, none⟩ = some (.slice none 0 0) := (zq BK224.out 1).trans rfl
          have hcz166_2 : wr.cell? ⟨gb224, 2, none⟩ = some (.slice none 0 0) := (zq BK224.out 2).trans rfl
          have hcz166_3 : wr.cell? ⟨gb224, 3, none⟩ = some (.slice none 0 0) := (zq BK224.out 3).trans rfl
          have hfz166_0 := zu BK224.out 0
          have hfz166_1 := zu BK224.out 1
          have hfz166_2 := zu BK224.out 2
          have hfz166_3 := zu BK224.out 3
          go_wp2
          refine bodyPost_ret (results_ct rfl _ _ gb224 29 #[.bool false, .slice none 0 0, .slice none 0 0, .slice none 0 0] (0, 0) _ rfl (by (with_reducible repeat (first | refine za ?_ _ | refine zb ?_ | refine zc ?_ _)); refine zp (cs := #[.bool false, .slice none 0 0, .slice none 0 0, .slice none 0 0]) ?_ 3 _ rfl; (with_reducible repeat (first | refine za ?_ _ | refine zb ?_ | refine zc ?_ _)); refine zp (cs := #[.bool false, .slice none 0 0, .slice none 0 0, .slice none 0 0]) ?_ 2 _ rfl; (with_reducible repeat (first | refine za ?_ _ | refine zb ?_ | refine zc ?_ _)); refine zp (cs := #[.bool false, .slice none 0 0, .slice none 0 0, .slice none 0 0]) ?_ 1 _ rfl; (with_reducible repeat (first | refine za ?_ _ | refine zb ?_ | refine zc ?_ _)); refine zp (cs := #[.bool false, .slice none 0 0, .slice none 0 0, .slice none 0 0]) ?_ 0 _ rfl; (with_reducible repeat (first | refine za ?_ _ | refine zb ?_ | refine zc ?_ _)); exact BK224.out) Try.underlying29 rfl (by kernel_rfl)) rfl ?_
          exact ⟨_, _, _, by first | rfl | (simp [errW_none, errW_some] <;> rfl) | (simp [*, errW_none, errW_some] <;> rfl), by first | exact Kd.R_nil _ _ _ _ _ | exact Kd.N_nil _ _ _ _ _ | exact Kd.V_nil _ _ _ _ _ | exact Kd.Q_nil _ _ _ _ _ | exact Kd.S_nil _ _ _ _ _, by first | exact Kd.R_nil _ _ _ _ _ | exact Kd.N_nil _ _ _ _ _ | exact Kd.V_nil _ _ _ _ _ | exact Kd.Q_nil _ _ _ _ _ | exact Kd.S_nil _ _ _ _ _, by first | exact Kd.R_nil _ _ _ _ _ | exact Kd.N_nil _ _ _ _ _ | exact Kd.V_nil _ _ _ _ _ | exact Kd.Q_nil _ _ _ _ _ | exact Kd.S_nil _ _ _ _ _, by repeat (first | (with_reducible first | exact HB.out | apply zg | apply zh | apply zi | refine zr ?_ (IsS153.ge HI228.out) | refine zr ?_ GE224.out | refine zr ?_ GE227.out) | exact HB.out)⟩
   ·rw [if_neg c8] at H
    exact absurd H (by simp)
 ·replace c3 := Bool.eq_false_iff.mpr c3
  subst c3
  have H1 : (some (false, ([] : List ByteArray), ([] : List ByteArray), ([] : List Int), false)) = some (r1, r2, r3, r4, r5) := by rw [if_neg (show ¬ (false = true) by decide)] at H; exact H
  clear H
  have H := H1
  clear H1
  simp only [Option.some.injEq, Prod.mk.injEq] at H
  obtain ⟨rfl, rfl, rfl, rfl, rfl⟩ := H
  go_enter Try.func57, Try.ntmps57
  go_wp2_with (first | ((with_reducible refine gate_dst (N := 2) rfl ?_); (try (refine gate_guard (by rfl) ?_; dsimp only)); refine box_event ?hg (N := 2) ?hd (cs := #[.bool false, .slice none 0 0, .slice none 0 0, .slice none 0 0]) (t := 29) ?hr ?_; (case hd => rfl); (case hg => rfl); (case hr => first | (go_simp; done) | (go_simp; rfl)); intro gb224 hg w167 hbox hb; have n0_ := zj (zl (by repeat (first | (with_reducible first | exact HB.out | apply zg | apply zh | apply zi) | exact HB.out)) hb); have n1_ := zj (hbox); have n2_ := zj ((by rw [hg]; exact (zk (by repeat (first | (with_reducible first | exact HB.out | apply zg | apply zh | apply zi) | exact HB.out))) : w.heap.size ≤ gb224)); have n3_ := zj ((by rw [hg]; exact (zk (by repeat (first | (with_reducible first | exact HB.out | apply zg | apply zh | apply zi) | exact HB.out))) : w.heap.size ≤ gb224)); clear HB; have HB := n0_; have BK224 := n1_; have GW224 := n2_; have GE224 := n3_; clear n0_ n1_ n2_ n3_; clear hb hbox hg) | ((with_reducible refine gate_callee (f := 128) rfl ?_); refine goesL_ (some 10) rfl rfl Try.func128 (by kernel_rfl) rfl #[.string a0] rfl (by (try simp only [List.map_toArray, List.map_cons, List.map_nil]); first | done | rfl | (simp only [List.length_drop, List.length_take]; rfl)) ?_; (with_reducible refine (impl_Unsealed.calls k a0 t224 false _ A2.out).mono ?_); rintro e w168 ⟨rfl, hb⟩; refine ⟨_, rfl, ?_⟩; have n0_ := zj (zo (g := gb224) (o := .cells #[.bool false, .slice none 0 0, .slice none 0 0, .slice none 0 0] 29 (0, 0)) (by (with_reducible repeat (first | refine za ?_ _ | refine zb ?_ | refine zc ?_ _)); exact BK224.out) hb); have n1_ := zj (zl (by repeat (first | (with_reducible first | exact HB.out | apply zg | apply zh | apply zi | refine zr ?_ GE224.out) | exact HB.out)) hb); clear BK224; clear HB; have BK224 := n0_; have HB := n1_; clear n0_ n1_; (try clear hb); (try clear hb2); (try clear hk); (try clear hi); have hcz169_0 : w168.cell? ⟨gb224, 0, none⟩ = some (.bool false) := (zq BK224.out 0).trans rfl; have hcz169_1 : w168.cell? ⟨gb224, 1, none⟩ = some (.slice none 0 0) := (zq BK224.out 1).trans rfl; have hcz169_2 : w168.cell? ⟨gb224, 2, none⟩ = some (.slice none 0 0) := (zq BK224.out 2).trans rfl; have hcz169_3 : w168.cell? ⟨gb224, 3, none⟩ = some (.slice none 0 0) := (zq BK224.out 3).trans rfl; have hfz169_0 := zu BK224.out 0; have hfz169_1 := zu BK224.out 1; have hfz169_2 := zu BK224.out 2; have hfz169_3 := zu BK224.out 3))
  refine bodyPost_ret (results_ct rfl _ _ gb224 29 #[.bool false, .slice none 0 0, .slice none 0 0, .slice none 0 0] (0, 0) _ rfl (by (with_reducible repeat (first | refine za ?_ _ | refine zb ?_ | refine zc ?_ _)); refine zp (cs := #[.bool false, .slice none 0 0, .slice none 0 0, .slice none 0 0]) ?_ 3 _ rfl; (with_reducible repeat (first | refine za ?_ _ | refine zb ?_ | refine zc ?_ _)); refine zp (cs := #[.bool false, .slice none 0 0, .slice none 0 0, .slice none 0 0]) ?_ 2 _ rfl; (with_reducible repeat (first | refine za ?_ _ | refine zb ?_ | refine zc ?_ _)); refine zp (cs := #[.bool false, .slice none 0 0, .slice none 0 0, .slice none 0 0]) ?_ 1 _ rfl; (with_reducible repeat (first | refine za ?_ _ | refine zb ?_ | refine zc ?_ _)); refine zp (cs := #[.bool false, .slice none 0 0, .slice none 0 0, .slice none 0 0]) ?_ 0 _ rfl; (with_reducible repeat (first | refine za ?_ _ | refine zb ?_ | refine zc ?_ _)); exact BK224.out) Try.underlying29 rfl (by kernel_rfl)) rfl ?_
  exact ⟨_, _, _, by first | rfl | (simp [errW_none, errW_some] <;> rfl) | (simp [*, errW_none, errW_some] <;> rfl), by first | exact Kd.R_nil _ _ _ _ _ | exact Kd.N_nil _ _ _ _ _ | exact Kd.V_nil _ _ _ _ _ | exact Kd.Q_nil _ _ _ _ _ | exact Kd.S_nil _ _ _ _ _, by first | exact Kd.R_nil _ _ _ _ _ | exact Kd.N_nil _ _ _ _ _ | exact Kd.V_nil _ _ _ _ _ | exact Kd.Q_nil _ _ _ _ _ | exact Kd.S_nil _ _ _ _ _, by first | exact Kd.R_nil _ _ _ _ _ | exact Kd.N_nil _ _ _ _ _ | exact Kd.V_nil _ _ _ _ _ | exact Kd.Q_nil _ _ _ _ _ | exact Kd.S_nil _ _ _ _ _, by repeat (first | (with_reducible first | exact HB.out | apply zg | apply zh | apply zi | refine zr ?_ GE224.out) | exact HB.out)⟩

end Go.Proofs.Ytkobbccjjglfmaa.VFnExactReadNode
