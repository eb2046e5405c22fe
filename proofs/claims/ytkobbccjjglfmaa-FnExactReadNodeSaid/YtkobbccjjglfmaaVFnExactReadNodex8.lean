-- Written by a program of this repo (wip/myprint.py), over the kit's print; functions that the print does not take stand in it by hand-proved contracts.
import Derived.Test.YtkobbccjjglfmaaVFnExactReadNodex0
import Derived.Test.YtkobbccjjglfmaaVFnExactReadNodex3
import Derived.Test.YtkobbccjjglfmaaVFnExactReadNodex5
import Derived.Test.YtkobbccjjglfmaaVFnExactReadNodex6
import Derived.Test.YtkobbccjjglfmaaVFnExactReadNodex7
namespace Go.Proofs.Ytkobbccjjglfmaa.VFnExactReadNode
open Go.RowKit Go.Proofs.YtkobbccjjglfmaaW.PrintWords Go.Proofs.YtkobbccjjglfmaaW.PrintLast Go.Proofs.YtkobbccjjglfmaaW.PrintMore
attribute [local go_sem] max2_int min2_int max_two min_two max_three min_three max_four min_four   -- for this text's walks alone
attribute [local go_sem high] str_leq str_gtr str_geq str_lss
set_option linter.unusedVariables false
set_option linter.unusedSimpArgs false

/-! ### spec_ReadNode: function 56 -/
mutual
def spec_ReadNode.j0 : Nat → ByteArray → ByteArray → Bool → Option (Bool × List ByteArray × List ByteArray × List Int × Bool)
 | 0, _, _, _ => none
 | k + 1, x0, x4, x23 => if x23 = true then (some (false, ([] : List ByteArray), ([] : List ByteArray), ([] : List Int), false)) else (if 0 < (x4.size : Int) then ((spec_l04Var.f k x4 1 false).bind fun bt167 => (spec_ReadNode.l0 k x0 bt167.1 0 bt167.2.1 bt167.2.2.1 bt167.2.2.2 ((bt x4 0) == 108) ([] : List ByteArray) ([] : List ByteArray) ([] : List Int))) else (none))
def spec_ReadNode.l0 : Nat → ByteArray → Int → Int → ByteArray → Int → Bool → Bool → List ByteArray → List ByteArray → List Int → Option (Bool × List ByteArray × List ByteArray × List Int × Bool)
 | 0, _, _, _, _, _, _, _, _, _, _ => none
 | k + 1, x0, x8, x9, x166000, x166001, x166002, x167000, x167001, x167002, x167003 => if x9 < x8 then (if x9 < 10 then (spec_ReadNode.j2 k x0 x8 x9 (!x166002) x166000 x166001 x166002 x167000 x167001 x167002 x167003) else (spec_ReadNode.j2 k x0 x8 x9 false x166000 x166001 x166002 x167000 x167001 x167002 x167003)) else (spec_ReadNode.j2 k x0 x8 x9 false x166000 x166001 x166002 x167000 x167001 x167002 x167003)
def spec_ReadNode.j2 : Nat → ByteArray → Int → Int → Bool → ByteArray → Int → Bool → Bool → List ByteArray → List ByteArray → List Int → Option (Bool × List ByteArray × List ByteArray × List Int × Bool)
 | 0, _, _, _, _, _, _, _, _, _, _, _ => none
 | k + 1, x0, x8, x9, x47, x166000, x166001, x166002, x167000, x167001, x167002, x167003 => if x47 = true then ((spec_l04ReadShort.f k x166000 x166001 x166002).bind fun bt173 => (if x167001.length < 8796093022208 then ((some (x167001 ++ [bt173.1] : List ByteArray)).bind fun y177 => (if x167000 = true then ((spec_l04ReadShort.f k bt173.2.1 bt173.2.2.1 bt173.2.2.2).bind fun bt180 => (if x167002.length < 8796093022208 then (spec_ReadNode.l0 k x0 x8 (wrap64 (x9 + 1)) bt180.2.1 bt180.2.2.1 bt180.2.2.2 x167000 y177 (x167002 ++ [bt180.1]) x167003) else (none))) else ((spec_l04Var.f k bt173.2.1 bt173.2.2.1 bt173.2.2.2).bind fun bt187 => (if x167003.length < 17592186044416 then (spec_ReadNode.l0 k x0 x8 (wrap64 (x9 + 1)) bt187.2.1 bt187.2.2.1 bt187.2.2.2 x167000 y177 x167002 (x167003 ++ [bt187.1])) else (none))))) else (none))) else ((spec_NodeText.f k x167000 x167001 x167002 x167003).bind fun bt171 => (if x166002 = true then (some (false, ([] : List ByteArray), ([] : List ByteArray), ([] : List Int), false)) else (if bt171.2 = true then (if bt171.1.toList = x0.toList then (some (x167000, x167001, x167002, x167003, true)) else (some (false, ([] : List ByteArray), ([] : List ByteArray), ([] : List Int), false))) else (some (false, ([] : List ByteArray), ([] : List ByteArray), ([] : List Int), false)))))
end
def spec_ReadNode.f (k : Nat) (a0 : ByteArray) : Option (Bool × List ByteArray × List ByteArray × List Int × Bool) := (spec_Unsealed.f k a0).bind fun bt163 => (if bt163.2 = true then (spec_ReadNode.j0 k a0 bt163.1 (decide ((bt163.1.size : Int) < 2))) else (spec_ReadNode.j0 k a0 bt163.1 true))
theorem spec_ReadNode.mono_l : ∀ k, (∀ y0 y1 y2, LeO (spec_ReadNode.j0 k y0 y1 y2) (spec_ReadNode.j0 (k + 1) y0 y1 y2)) ∧ (∀ y0 y1 y2 y3 y4 y5 y6 y7 y8 y9, LeO (spec_ReadNode.l0 k y0 y1 y2 y3 y4 y5 y6 y7 y8 y9) (spec_ReadNode.l0 (k + 1) y0 y1 y2 y3 y4 y5 y6 y7 y8 y9)) ∧ (∀ y0 y1 y2 y3 y4 y5 y6 y7 y8 y9 y10, LeO (spec_ReadNode.j2 k y0 y1 y2 y3 y4 y5 y6 y7 y8 y9 y10) (spec_ReadNode.j2 (k + 1) y0 y1 y2 y3 y4 y5 y6 y7 y8 y9 y10))
 | 0 => ⟨fun _ _ _ r h => by simp [spec_ReadNode.j0] at h, fun _ _ _ _ _ _ _ _ _ _ r h => by simp [spec_ReadNode.l0] at h, fun _ _ _ _ _ _ _ _ _ _ _ r h => by simp [spec_ReadNode.j2] at h⟩
 | k + 1 => by
  obtain ⟨ih0, ih1, ih2⟩ := spec_ReadNode.mono_l k
  refine ⟨?_, ?_, ?_⟩
  ·intro y0 y1 y2
   unfold spec_ReadNode.j0
   repeat' first
   | (with_reducible exact ih0 _ _ _)
   | (with_reducible exact ih1 _ _ _ _ _ _ _ _ _ _)
   | (with_reducible exact ih2 _ _ _ _ _ _ _ _ _ _ _)
   | (with_reducible exact spec_NodeText.mono _ _ _ _ _)
   | (with_reducible exact spec_Unsealed.mono _ _)
   | (with_reducible exact spec_l04ReadShort.mono _ _ _ _)
   | (with_reducible exact spec_l04Var.mono _ _ _ _)
   | (with_reducible exact LeO.refl _)
   | (with_reducible exact LeO.none _)
   | (with_reducible refine LeO.ite ?_ ?_)
   | (with_reducible refine LeO.bind ?_ (fun _ => ?_))
   | exact ih0 _ _ _
   | exact ih1 _ _ _ _ _ _ _ _ _ _
   | exact ih2 _ _ _ _ _ _ _ _ _ _ _
   | exact spec_NodeText.mono _ _ _ _ _
   | exact spec_Unsealed.mono _ _
   | exact spec_l04ReadShort.mono _ _ _ _
   | exact spec_l04Var.mono _ _ _ _
   | exact LeO.none _
   | refine LeO.ite ?_ ?_
   | refine LeO.bind ?_ (fun _ => ?_)
  ·intro y0 y1 y2 y3 y4 y5 y6 y7 y8 y9
   unfold spec_ReadNode.l0
   repeat' first
   | (with_reducible exact ih0 _ _ _)
   | (with_reducible exact ih1 _ _ _ _ _ _ _ _ _ _)
   | (with_reducible exact ih2 _ _ _ _ _ _ _ _ _ _ _)
   | (with_reducible exact spec_NodeText.mono _ _ _ _ _)
   | (with_reducible exact spec_Unsealed.mono _ _)
   | (with_reducible exact spec_l04ReadShort.mono _ _ _ _)
   | (with_reducible exact spec_l04Var.mono _ _ _ _)
   | (with_reducible exact LeO.refl _)
   | (with_reducible exact LeO.none _)
   | (with_reducible refine LeO.ite ?_ ?_)
   | (with_reducible refine LeO.bind ?_ (fun _ => ?_))
   | exact ih0 _ _ _
   | exact ih1 _ _ _ _ _ _ _ _ _ _
   | exact ih2 _ _ _ _ _ _ _ _ _ _ _
   | exact spec_NodeText.mono _ _ _ _ _
   | exact spec_Unsealed.mono _ _
   | exact spec_l04ReadShort.mono _ _ _ _
   | exact spec_l04Var.mono _ _ _ _
   | exact LeO.none _
   | refine LeO.ite ?_ ?_
   | refine LeO.bind ?_ (fun _ => ?_)
  ·intro y0 y1 y2 y3 y4 y5 y6 y7 y8 y9 y10
   unfold spec_ReadNode.j2
   repeat' first
   | (with_reducible exact ih0 _ _ _)
   | (with_reducible exact ih1 _ _ _ _ _ _ _ _ _ _)
   | (with_reducible exact ih2 _ _ _ _ _ _ _ _ _ _ _)
   | (with_reducible exact spec_NodeText.mono _ _ _ _ _)
   | (with_reducible exact spec_Unsealed.mono _ _)
   | (with_reducible exact spec_l04ReadShort.mono _ _ _ _)
   | (with_reducible exact spec_l04Var.mono _ _ _ _)
   | (with_reducible exact LeO.refl _)
   | (with_reducible exact LeO.none _)
   | (with_reducible refine LeO.ite ?_ ?_)
   | (with_reducible refine LeO.bind ?_ (fun _ => ?_))
   | exact ih0 _ _ _
   | exact ih1 _ _ _ _ _ _ _ _ _ _
   | exact ih2 _ _ _ _ _ _ _ _ _ _ _
   | exact spec_NodeText.mono _ _ _ _ _
   | exact spec_Unsealed.mono _ _
   | exact spec_l04ReadShort.mono _ _ _ _
   | exact spec_l04Var.mono _ _ _ _
   | exact LeO.none _
   | refine LeO.ite ?_ ?_
   | refine LeO.bind ?_ (fun _ => ?_)
theorem spec_ReadNode.mono : ∀ a0 k, LeO (spec_ReadNode.f k a0) (spec_ReadNode.f (k + 1) a0) := by
 intro a0 k
 obtain ⟨ih0, ih1, ih2⟩ := spec_ReadNode.mono_l k
 unfold spec_ReadNode.f
 repeat' first
   | (with_reducible exact ih0 _ _ _)
   | (with_reducible exact ih1 _ _ _ _ _ _ _ _ _ _)
   | (with_reducible exact ih2 _ _ _ _ _ _ _ _ _ _ _)
   | (with_reducible exact spec_NodeText.mono _ _ _ _ _)
   | (with_reducible exact spec_Unsealed.mono _ _)
   | (with_reducible exact spec_l04ReadShort.mono _ _ _ _)
   | (with_reducible exact spec_l04Var.mono _ _ _ _)
   | (with_reducible exact LeO.refl _)
   | (with_reducible exact LeO.none _)
   | (with_reducible refine LeO.ite ?_ ?_)
   | (with_reducible refine LeO.bind ?_ (fun _ => ?_))
   | exact ih0 _ _ _
   | exact ih1 _ _ _ _ _ _ _ _ _ _
   | exact ih2 _ _ _ _ _ _ _ _ _ _ _
   | exact spec_NodeText.mono _ _ _ _ _
   | exact spec_Unsealed.mono _ _
   | exact spec_l04ReadShort.mono _ _ _ _
   | exact spec_l04Var.mono _ _ _ _
   | exact LeO.none _
   | refine LeO.ite ?_ ?_
   | refine LeO.bind ?_ (fun _ => ?_)
def spec_ReadNode.T10 : Bool × List (List Nat × List Nat) := (true, [([], []), ([0], [0]), ([], []), ([2], [2]), ([3], [3]), ([1, 4, 3], [1, 4]), ([0, 1, 2, 3, 4, 5], []), ([6, 5, 5, 0, 1, 2, 3, 4, 5], [5, 6])])
def spec_ReadNode.B10 : List Nat := [0, 1, 0, 4, 12, 31, 63, 127]
theorem spec_ReadNode.tab10 : rtab .any (opsOf Try.f56 10) = spec_ReadNode.T10 := by kernel_rfl
theorem spec_ReadNode.bits10 : waitsOk spec_ReadNode.T10.2 spec_ReadNode.B10 = true := by kernel_rfl
def spec_ReadNode.T12 : Bool × List (List Nat × List Nat) := (true, [([], []), ([0], [0]), ([], []), ([2], [2]), ([3], [3]), ([1, 4, 3], [1, 4]), ([0, 1, 2, 3, 4, 5], []), ([6, 5, 5, 0, 1, 2, 3, 4, 5], [5, 6])])
def spec_ReadNode.B12 : List Nat := [0, 1, 0, 4, 12, 31, 63, 127]
theorem spec_ReadNode.tab12 : rtab .any (opsOf Try.f56 12) = spec_ReadNode.T12 := by kernel_rfl
theorem spec_ReadNode.bits12 : waitsOk spec_ReadNode.T12.2 spec_ReadNode.B12 = true := by kernel_rfl
def spec_ReadNode.T13 : Bool × List (List Nat × List Nat) := (true, [([], []), ([0], [0]), ([], []), ([2], [2]), ([3], [3]), ([1, 4, 3], [1, 4]), ([0, 1, 2, 3, 4, 5], []), ([6, 5, 5, 0, 1, 2, 3, 4, 5], [5, 6])])
def spec_ReadNode.B13 : List Nat := [0, 1, 0, 4, 12, 31, 63, 127]
theorem spec_ReadNode.tab13 : rtab .any (opsOf Try.f56 13) = spec_ReadNode.T13 := by kernel_rfl
theorem spec_ReadNode.bits13 : waitsOk spec_ReadNode.T13.2 spec_ReadNode.B13 = true := by kernel_rfl
set_option maxHeartbeats 8000000 in
set_option maxRecDepth 100000 in
theorem spec_ReadNode.calls (k : Nat) (a0 : ByteArray) (r1 : Bool) (r2 : List ByteArray) (r3 : List ByteArray) (r4 : List Int) (r5 : Bool) (w : World) (h : spec_ReadNode.f k a0 = some (r1, r2, r3, r4, r5)) :
  Calls Try.prog 56 #[.string a0] w fun e w' => ∃ v1_ v2_ v3_ : Value, e = .returned (.tuple #[.agg #[.bool r1, v1_, v2_, v3_], .bool r5]) ∧ Kd.R Kd.string 9 w' w.heap.size (fun k_ => some k_ ≠ (v2_ : Value).ownBlock) v1_ r2 ∧ Kd.R Kd.string 9 w' w.heap.size (fun k_ => some k_ ≠ (v1_ : Value).ownBlock) v2_ r3 ∧ Kd.R (Kd.int .i64) 3 w' w.heap.size (fun _ => True) v3_ r4 ∧ Below w.heap.size w w' := by
 have hu29 := Try.underlying29
 have hu130 := Try.underlying130
 have HB := zj (Below.refl w.heap.size w)
 have H : ((spec_Unsealed.f k a0).bind fun bt163 => (if bt163.2 = true then (spec_ReadNode.j0 k a0 bt163.1 (decide ((bt163.1.size : Int) < 2))) else (spec_ReadNode.j0 k a0 bt163.1 true))) = some (r1, r2, r3, r4, r5) := h
 clear h
 replace H := Option.bind_eq_some_iff.mp H
 obtain ⟨⟨t163, t164⟩, A20, H⟩ := H
 replace H : (if t164 = true then (spec_ReadNode.j0 k a0 t163 (decide ((t163.size : Int) < 2))) else (spec_ReadNode.j0 k a0 t163 true)) = some (r1, r2, r3, r4, r5) := H
 have A2 := zj A20
 clear A20
 have HC3 := zj H
 clear H
 go_enter Try.func56, Try.ntmps56
 go_upto_region 2 with (first | ((with_reducible refine gate_dst (N := 2) rfl ?_); (try (refine gate_guard (by rfl) ?_; dsimp only)); refine box_event ?hg (N := 2) ?hd (cs := #[.bool false, .slice none 0 0, .slice none 0 0, .slice none 0 0]) (t := 29) ?hr ?_; (case hd => rfl); (case hg => rfl); (case hr => first | (go_simp; done) | (go_simp; rfl)); intro gb162 hg w4 hbox hb; have n0_ := zj (zl (by repeat (first | (with_reducible first | exact HB.out | apply zg | apply zh | apply zi) | exact HB.out)) hb); have n1_ := zj (hbox); have n2_ := zj ((by rw [hg]; exact (zk (by repeat (first | (with_reducible first | exact HB.out | apply zg | apply zh | apply zi) | exact HB.out))) : w.heap.size ≤ gb162)); have n3_ := zj ((by rw [hg]; exact (zk (by repeat (first | (with_reducible first | exact HB.out | apply zg | apply zh | apply zi) | exact HB.out))) : w.heap.size ≤ gb162)); clear HB; have HB := n0_; have BK162 := n1_; have GW162 := n2_; have GE162 := n3_; clear n0_ n1_ n2_ n3_; clear hb hbox hg) | ((with_reducible refine gate_callee (f := 126) rfl ?_); refine goesL_ (some 14) rfl rfl Try.func126 (by kernel_rfl) rfl #[.string a0] rfl (by (try simp only [List.map_toArray, List.map_cons, List.map_nil]); first | done | rfl | (simp only [List.length_drop, List.length_take]; rfl)) ?_; (with_reducible refine (spec_Unsealed.calls k a0 t163 t164 _ A2.out).mono ?_); rintro e w5 ⟨rfl, hb⟩; refine ⟨_, rfl, ?_⟩; have n0_ := zj (zo (g := gb162) (o := .cells #[.bool false, .slice none 0 0, .slice none 0 0, .slice none 0 0] 29 (0, 0)) (by (with_reducible repeat (first | refine za ?_ _ | refine zb ?_ | refine zc ?_ _)); exact BK162.out) hb); have n1_ := zj (zl (by repeat (first | (with_reducible first | exact HB.out | apply zg | apply zh | apply zi | refine zr ?_ GE162.out) | exact HB.out)) hb); clear BK162; clear HB; have BK162 := n0_; have HB := n1_; clear n0_ n1_; (try clear hb); (try clear hb2); (try clear hk); (try clear hi)))
 (try simp only [Act.put, List.setIfInBounds_toArray, List.set_cons_zero, List.set_cons_succ])
 go_cut [23] (fun v23 wc => ∃ (kq : Nat) (x23_2 : Bool), v23 = .bool x23_2 ∧ Aside0 (spec_ReadNode.j0 kq a0 t163 x23_2 = some (r1, r2, r3, r4, r5)) ∧ Aside0 (kq ≤ k) ∧ Aside0 (wc.heap[gb162]? = some (.cells #[.bool false, (.slice none 0 0), (.slice none 0 0), (.slice none 0 0)] 29 (0, 0))) ∧ Aside0 (Below w.heap.size w wc))
 case first =>
  have H := HC3.out
  clear HC3
  by_cases c6 : t164 = true
  ·subst c6
   have H1 : (spec_ReadNode.j0 k a0 t163 (decide ((t163.size : Int) < 2))) = some (r1, r2, r3, r4, r5) := by rw [if_pos rfl] at H; exact H
   clear H
   have H := H1
   clear H1
   have H' := zj H
   clear H
   go_wp2
   go_meet
   case rel => exact ⟨_, (decide ((t163.size : Int) < 2)), (by first | rfl | (simp; done) | (simp [*]; done)), H', ⟨by first | omega | exact Nat.le_refl _⟩, ⟨by (with_reducible repeat (first | refine za ?_ _ | refine zb ?_ | refine zc ?_ _)); exact BK162.out⟩, ⟨by repeat (first | (with_reducible first | exact HB.out | apply zg | apply zh | apply zi | refine zr ?_ GE162.out) | exact HB.out)⟩⟩
  ·replace c6 := Bool.eq_false_iff.mpr c6
   subst c6
   have H1 : (spec_ReadNode.j0 k a0 t163 true) = some (r1, r2, r3, r4, r5) := by rw [if_neg (show ¬ (false = true) by decide)] at H; exact H
   clear H
   have H := H1
   clear H1
   have H' := zj H
   clear H
   go_wp2
   go_meet
   case rel => exact ⟨_, (true), (by first | rfl | (simp; done) | (simp [*]; done)), H', ⟨by first | omega | exact Nat.le_refl _⟩, ⟨by (with_reducible repeat (first | refine za ?_ _ | refine zb ?_ | refine zc ?_ _)); exact BK162.out⟩, ⟨by repeat (first | (with_reducible first | exact HB.out | apply zg | apply zh | apply zi | refine zr ?_ GE162.out) | exact HB.out)⟩⟩
 case rest =>
  clear HC3
  try clear c1
  try clear p2
  try clear c5
  try clear c6
  obtain ⟨kq, x23_2, rfl, HA, HJ2, BK162, HB⟩ := hcut
  cases kq with
  | zero => exact absurd HA.out (by simp [spec_ReadNode.j0])
  | succ kj2 =>
   have H := HA.out
   clear HA
   simp only [spec_ReadNode.j0] at H
   by_cases c7 : x23_2 = true
   ·subst c7
    have H1 : (some (false, ([] : List ByteArray), ([] : List ByteArray), ([] : List Int), false)) = some (r1, r2, r3, r4, r5) := by rw [if_pos rfl] at H; exact H
    clear H
    have H := H1
    clear H1
    simp only [Option.some.injEq, Prod.mk.injEq] at H
    obtain ⟨rfl, rfl, rfl, rfl, rfl⟩ := H
    have hcz8_0 : wc.cell? ⟨gb162, 0, none⟩ = some (.bool false) := (zq BK162.out 0).trans rfl
    have hcz8_1 : wc.cell? ⟨gb162, 1, none⟩ = some (.slice none 0 0) := (zq BK162.out 1).trans rfl
    have hcz8_2 : wc.cell? ⟨gb162, 2, none⟩ = some (.slice none 0 0) := (zq BK162.out 2).trans rfl
    have hcz8_3 : wc.cell? ⟨gb162, 3, none⟩ = some (.slice none 0 0) := (zq BK162.out 3).trans rfl
    have hfz8_0 := zu BK162.out 0
    have hfz8_1 := zu BK162.out 1
    have hfz8_2 := zu BK162.out 2
    have hfz8_3 := zu BK162.out 3
    go_wp2
    refine bodyPost_ret (results_ct rfl _ _ gb162 29 #[.bool false, .slice none 0 0, .slice none 0 0, .slice none 0 0] (0, 0) _ rfl (by (with_reducible repeat (first | refine za ?_ _ | refine zb ?_ | refine zc ?_ _)); refine zp (cs := #[.bool false, .slice none 0 0, .slice none 0 0, .slice none 0 0]) ?_ 3 _ rfl; (with_reducible repeat (first | refine za ?_ _ | refine zb ?_ | refine zc ?_ _)); refine zp (cs := #[.bool false, .slice none 0 0, .slice none 0 0, .slice none 0 0]) ?_ 2 _ rfl; (with_reducible repeat (first | refine za ?_ _ | refine zb ?_ | refine zc ?_ _)); refine zp (cs := #[.bool false, .slice none 0 0, .slice none 0 0, .slice none 0 0]) ?_ 1 _ rfl; (with_reducible repeat (first | refine za ?_ _ | refine zb ?_ | refine zc ?_ _)); refine zp (cs := #[.bool false, .slice none 0 0, .slice none 0 0, .slice none 0 0]) ?_ 0 _ rfl; (with_reducible repeat (first | refine za ?_ _ | refine zb ?_ | refine zc ?_ _)); exact BK162.out) Try.underlying29 rfl (by kernel_rfl)) rfl ?_
    exact ⟨_, _, _, by first | rfl | (simp [errW_none, errW_some] <;> rfl) | (simp [*, errW_none, errW_some] <;> rfl), by first | exact Kd.R_nil _ _ _ _ _ | exact Kd.N_nil _ _ _ _ _ | exact Kd.V_nil _ _ _ _ _ | exact Kd.Q_nil _ _ _ _ _ | exact Kd.S_nil _ _ _ _ _, by first | exact Kd.R_nil _ _ _ _ _ | exact Kd.N_nil _ _ _ _ _ | exact Kd.V_nil _ _ _ _ _ | exact Kd.Q_nil _ _ _ _ _ | exact Kd.S_nil _ _ _ _ _, by first | exact Kd.R_nil _ _ _ _ _ | exact Kd.N_nil _ _ _ _ _ | exact Kd.V_nil _ _ _ _ _ | exact Kd.Q_nil _ _ _ _ _ | exact Kd.S_nil _ _ _ _ _, by repeat (first | (with_reducible first | exact HB.out | apply zg | apply zh | apply zi | refine zr ?_ GE162.out) | exact HB.out)⟩
   ·replace c7 := Bool.eq_false_iff.mpr c7
    subst c7
    have H1 : (if 0 < (t163.size : Int) then ((spec_l04Var.f kj2 t163 1 false).bind fun bt167 => (spec_ReadNode.l0 kj2 a0 bt167.1 0 bt167.2.1 bt167.2.2.1 bt167.2.2.2 ((bt t163 0) == 108) ([] : List ByteArray) ([] : List ByteArray) ([] : List Int))) else (none)) = some (r1, r2, r3, r4, r5) := by rw [if_neg (show ¬ (false = true) by decide)] at H; exact H
    clear H
    have H := H1
    clear H1
    by_cases c9 : 0 < (t163.size : Int)
    ·rw [if_pos c9] at H
     have c9b0 : decide (0 < (t163.size : Int)) = true := decide_eq_true c9
     have c9b1 : decide (0 < t163.size) = true := decide_eq_true (by omega)
     clear c9
     replace H := Option.bind_eq_some_iff.mp H
     obtain ⟨⟨t167, t168, t169, t170⟩, A110, H⟩ := H
     replace H : (spec_ReadNode.l0 kj2 a0 t167 0 t168 t169 t170 ((bt t163 0) == 108) ([] : List ByteArray) ([] : List ByteArray) ([] : List Int)) = some (r1, r2, r3, r4, r5) := H
     have A11 := zj A110
     clear A110
     have H' := zj H
     clear H
     go_wp2_with (first | ((with_reducible refine gate_dst (N := 27) rfl ?_); (try (refine gate_guard (by rfl) ?_; dsimp only)); refine box_event ?hg (N := 27) ?hd (cs := #[.string t163, .int .i64 1, .bool false]) (t := 130) ?hr ?_; (case hd => rfl); (case hg => rfl); (case hr => first | (go_simp; done) | (go_simp; rfl)); intro gb165 hg w12 hbox hb; have n0_ := zj (zo (g := gb162) (o := .cells #[.bool false, .slice none 0 0, .slice none 0 0, .slice none 0 0] 29 (0, 0)) (by (with_reducible repeat (first | refine za ?_ _ | refine zb ?_ | refine zc ?_ _)); exact BK162.out) hb); have n1_ := zj (zl (by repeat (first | (with_reducible first | exact HB.out | apply zg | apply zh | apply zi | refine zr ?_ GE162.out) | exact HB.out)) hb); have n2_ := zj ((show IsS130 w w12 gb165 t163 1 false from ⟨hbox, (by rw [hg]; exact (zk (by repeat (first | (with_reducible first | exact HB.out | apply zg | apply zh | apply zi | refine zr ?_ GE162.out) | exact HB.out))) : w.heap.size ≤ gb165)⟩)); have n3_ := zj ((by rw [hg]; exact (zk (by repeat (first | (with_reducible first | exact HB.out | apply zg | apply zh | apply zi | refine zr ?_ GE162.out) | exact HB.out))) : w.heap.size ≤ gb165)); have n4_ := zj ((by rw [hg]; exact (zk (by repeat (first | (with_reducible first | exact HB.out | apply zg | apply zh | apply zi | refine zr ?_ GE162.out) | exact HB.out))) : w.heap.size ≤ gb165)); have n5_ := zj ((by rw [hg]; exact Nat.ne_of_lt (blk_lt (g := gb162) (o := .cells #[.bool false, .slice none 0 0, .slice none 0 0, .slice none 0 0] 29 (0, 0)) (by (with_reducible repeat (first | refine za ?_ _ | refine zb ?_ | refine zc ?_ _)); exact BK162.out)) : gb162 ≠ gb165)); have n6_ := zj ((by rw [hg]; exact Nat.ne_of_gt (blk_lt (g := gb162) (o := .cells #[.bool false, .slice none 0 0, .slice none 0 0, .slice none 0 0] 29 (0, 0)) (by (with_reducible repeat (first | refine za ?_ _ | refine zb ?_ | refine zc ?_ _)); exact BK162.out)) : gb165 ≠ gb162)); clear BK162; clear HB; have BK162 := n0_; have HB := n1_; have HI165 := n2_; have GW165 := n3_; have GE165 := n4_; have NB162_165 := n5_; have NB165_162 := n6_; clear n0_ n1_ n2_ n3_ n4_ n5_ n6_; clear hb hbox hg; have p10 : 0 ≤ (0 : Int) := (by omega); have q10 : 0 < t163.size := (by have : (0 : Int) < (t163.size : Int) := of_decide_eq_true (by first | (with_reducible assumption) | assumption); omega); have hx10 : ∀ h : 0 < t163.size, ((t163[0]'h).toNat : Int) = bt t163 0 := bt_at t163 0; clear p10; have qi10 : (0 < (t163.size : Int)) = True := eq_true (of_decide_eq_true (by first | (with_reducible assumption) | assumption)); replace q10 := eq_true q10) | ((with_reducible refine gate_dst (N := 7) rfl ?_); (try (refine gate_guard (by rfl) ?_; dsimp only)); refine box_event ?hg (N := 7) ?hd (cs := #[.bool false, .slice none 0 0, .slice none 0 0, .slice none 0 0]) (t := 29) ?hr ?_; (case hd => rfl); (case hg => rfl); (case hr => first | (go_simp; done) | (go_simp; rfl)); intro gb166 hg w13 hbox hb; have n0_ := zj (zo (g := gb162) (o := .cells #[.bool false, .slice none 0 0, .slice none 0 0, .slice none 0 0] 29 (0, 0)) (by (with_reducible repeat (first | refine za ?_ _ | refine zb ?_ | refine zc ?_ _)); exact BK162.out) hb); have n1_ := zj (IsS130.below (by repeat (first | (with_reducible first | exact HI165.out | apply IsS130.alloc | apply IsS130.drewN | apply IsS130.drew | apply IsS130.set_0 | apply IsS130.set_1 | apply IsS130.set_2 | apply IsS130.far (hne := NB165_162.out)) | apply IsS130.far (hne := NB165_162.out) | exact HI165.out)) hb); have n2_ := zj (zl (by repeat (first | (with_reducible first | exact HB.out | apply zg | apply zh | apply zi | refine zr ?_ (IsS130.ge HI165.out) | refine zr ?_ GE162.out) | exact HB.out)) hb); have n3_ := zj (hbox); have n4_ := zj ((by rw [hg]; exact (zk (by repeat (first | (with_reducible first | exact HB.out | apply zg | apply zh | apply zi | refine zr ?_ (IsS130.ge HI165.out) | refine zr ?_ GE162.out) | exact HB.out))) : w.heap.size ≤ gb166)); have n5_ := zj ((by rw [hg]; exact (zk (by repeat (first | (with_reducible first | exact HB.out | apply zg | apply zh | apply zi | refine zr ?_ (IsS130.ge HI165.out) | refine zr ?_ GE162.out) | exact HB.out))) : w.heap.size ≤ gb166)); have n6_ := zj ((by rw [hg]; exact Nat.ne_of_lt (blk_lt (g := gb162) (o := .cells #[.bool false, .slice none 0 0, .slice none 0 0, .slice none 0 0] 29 (0, 0)) (by (with_reducible repeat (first | refine za ?_ _ | refine zb ?_ | refine zc ?_ _)); exact BK162.out)) : gb162 ≠ gb166)); have n7_ := zj ((by rw [hg]; exact Nat.ne_of_gt (blk_lt (g := gb162) (o := .cells #[.bool false, .slice none 0 0, .slice none 0 0, .slice none 0 0] 29 (0, 0)) (by (with_reducible repeat (first | refine za ?_ _ | refine zb ?_ | refine zc ?_ _)); exact BK162.out)) : gb166 ≠ gb162)); have n8_ := zj ((by rw [hg]; exact Nat.ne_of_lt (IsS130.lt (show IsS130 w _ gb165 t163 1 false from by repeat (first | (with_reducible first | exact HI165.out | apply IsS130.alloc | apply IsS130.drewN | apply IsS130.drew | apply IsS130.set_0 | apply IsS130.set_1 | apply IsS130.set_2 | apply IsS130.far (hne := NB165_162.out)) | apply IsS130.far (hne := NB165_162.out) | exact HI165.out))) : gb165 ≠ gb166)); have n9_ := zj ((by rw [hg]; exact Nat.ne_of_gt (IsS130.lt (show IsS130 w _ gb165 t163 1 false from by repeat (first | (with_reducible first | exact HI165.out | apply IsS130.alloc | apply IsS130.drewN | apply IsS130.drew | apply IsS130.set_0 | apply IsS130.set_1 | apply IsS130.set_2 | apply IsS130.far (hne := NB165_162.out)) | apply IsS130.far (hne := NB165_162.out) | exact HI165.out))) : gb166 ≠ gb165)); clear BK162; clear HI165; clear HB; have BK162 := n0_; have HI165 := n1_; have HB := n2_; have BK166 := n3_; have GW166 := n4_; have GE166 := n5_; have NB162_166 := n6_; have NB166_162 := n7_; have NB165_166 := n8_; have NB166_165 := n9_; clear n0_ n1_ n2_ n3_ n4_ n5_ n6_ n7_ n8_ n9_; clear hb hbox hg; have hnb14 := NB166_162.out; have hnc14 := NB162_166.out; have hnb15 := NB166_165.out; have hnc15 := NB165_166.out; have hcz16_0 : w13.cell? ⟨gb166, 0, none⟩ = some (.bool false) := (zq BK166.out 0).trans rfl; have hcz16_1 : w13.cell? ⟨gb166, 1, none⟩ = some (.slice none 0 0) := (zq BK166.out 1).trans rfl; have hcz16_2 : w13.cell? ⟨gb166, 2, none⟩ = some (.slice none 0 0) := (zq BK166.out 2).trans rfl; have hcz16_3 : w13.cell? ⟨gb166, 3, none⟩ = some (.slice none 0 0) := (zq BK166.out 3).trans rfl; have hfz16_0 := zu BK166.out 0; have hfz16_1 := zu BK166.out 1; have hfz16_2 := zu BK166.out 2; have hfz16_3 := zu BK166.out 3) | ((with_reducible refine gate_callee (f := 127) rfl ?_); refine goesL_ (some 33) rfl rfl Try.func127 (by kernel_rfl) rfl #[.pointer (some ⟨gb165, 0, none⟩)] rfl (by (try simp only [List.map_toArray, List.map_cons, List.map_nil]); first | done | rfl | (simp only [List.length_drop, List.length_take]; rfl)) ?_; (with_reducible refine (spec_l04Var.calls kj2 gb165 t163 1 false t167 t168 t169 t170 w _ ?side1 ?side2 A11.out).mono ?_); (case side1 => repeat (first | (with_reducible first | exact HI165.out | apply IsS130.alloc | apply IsS130.drewN | apply IsS130.drew | apply IsS130.set_0 | apply IsS130.set_1 | apply IsS130.set_2 | apply IsS130.far (hne := NB165_162.out) | apply IsS130.far (hne := NB165_166.out)) | apply IsS130.far (hne := NB165_162.out) | apply IsS130.far (hne := NB165_166.out) | exact HI165.out)); (case side2 => repeat (first | (with_reducible first | exact HB.out | apply zg | apply zh | apply zi | refine zr ?_ (IsS130.ge HI165.out) | refine zr ?_ GE162.out | refine zr ?_ GE166.out) | exact HB.out)); rintro e w17 ⟨rfl, hi, hb, hk⟩; refine ⟨_, rfl, ?_⟩; have n0_ := zj (KeepBut.blk hk (g' := gb162) (o := .cells #[.bool false, .slice none 0 0, .slice none 0 0, .slice none 0 0] 29 (0, 0)) (by (with_reducible repeat (first | refine za ?_ _ | refine zb ?_ | refine zc ?_ _)); refine blk_far ?_ NB162_166.out _; (with_reducible repeat (first | refine za ?_ _ | refine zb ?_ | refine zc ?_ _)); refine blk_far ?_ NB162_166.out _; (with_reducible repeat (first | refine za ?_ _ | refine zb ?_ | refine zc ?_ _)); refine blk_far ?_ NB162_166.out _; (with_reducible repeat (first | refine za ?_ _ | refine zb ?_ | refine zc ?_ _)); refine blk_far ?_ NB162_166.out _; (with_reducible repeat (first | refine za ?_ _ | refine zb ?_ | refine zc ?_ _)); exact BK162.out) NB162_165.out (by simp)); have n1_ := zj (KeepBut.blk hk (g' := gb166) (o := .cells #[.bool ((bt t163 0) == 108), .slice none 0 0, .slice none 0 0, .slice none 0 0] 29 (0, 0)) (by (with_reducible repeat (first | refine za ?_ _ | refine zb ?_ | refine zc ?_ _)); refine zp (cs := #[.bool ((bt t163 0) == 108), .slice none 0 0, .slice none 0 0, .slice none 0 0]) ?_ 3 _ rfl; (with_reducible repeat (first | refine za ?_ _ | refine zb ?_ | refine zc ?_ _)); refine zp (cs := #[.bool ((bt t163 0) == 108), .slice none 0 0, .slice none 0 0, .slice none 0 0]) ?_ 2 _ rfl; (with_reducible repeat (first | refine za ?_ _ | refine zb ?_ | refine zc ?_ _)); refine zp (cs := #[.bool ((bt t163 0) == 108), .slice none 0 0, .slice none 0 0, .slice none 0 0]) ?_ 1 _ rfl; (with_reducible repeat (first | refine za ?_ _ | refine zb ?_ | refine zc ?_ _)); refine zp (cs := #[.bool false, .slice none 0 0, .slice none 0 0, .slice none 0 0]) ?_ 0 _ rfl; (with_reducible repeat (first | refine za ?_ _ | refine zb ?_ | refine zc ?_ _)); exact BK166.out) NB166_165.out (by simp)); have n2_ := zj (hb); have n3_ := zj (hi); clear BK162; clear BK166; clear HB; clear HI165; have BK162 := n0_; have BK166 := n1_; have HB := n2_; have HI165 := n3_; clear n0_ n1_ n2_ n3_; (try clear hb); (try clear hb2); (try clear hk); (try clear hi)))
     go_loopg [9] kj2 (fun kq v9 w' => ∃ (x9_2 : Int) (x166000_2 : ByteArray) (x166001_2 : Int) (x166002_2 : Bool) (x167001_2 : List ByteArray) (x167002_2 : List ByteArray) (x167003_2 : List Int) (u167001 : Value) (u167002 : Value) (u167003 : Value), v9 = .int .i64 x9_2 ∧ Aside0 (spec_ReadNode.l0 kq a0 t167 x9_2 x166000_2 x166001_2 x166002_2 ((bt t163 0) == 108) x167001_2 x167002_2 x167003_2 = some (r1, r2, r3, r4, r5)) ∧ Aside0 (kq ≤ kj2) ∧ Aside0 (Kd.R Kd.string 9 w' w.heap.size (fun k_ => some k_ ≠ (u167002 : Value).ownBlock) u167001 x167001_2) ∧ Aside0 (Kd.R Kd.string 9 w' w.heap.size (fun k_ => some k_ ≠ (u167001 : Value).ownBlock) u167002 x167002_2) ∧ Aside0 (Kd.R (Kd.int .i64) 3 w' w.heap.size (fun _ => True) u167003 x167003_2) ∧ Aside0 (w'.heap[gb162]? = some (.cells #[.bool false, (.slice none 0 0), (.slice none 0 0), (.slice none 0 0)] 29 (0, 0))) ∧ Aside0 (w'.heap[gb166]? = some (.cells #[.bool ((bt t163 0) == 108), u167001, u167002, u167003] 29 (0, 0))) ∧ Aside0 (IsS130 w w' gb165 x166000_2 x166001_2 x166002_2) ∧ Aside0 (Below w.heap.size w w'))
     case atStart => exact ⟨(0), (t168), (t169), (t170), (([] : List ByteArray)), (([] : List ByteArray)), (([] : List Int)), (.slice none 0 0), (.slice none 0 0), (.slice none 0 0), (by first | rfl | (simp; done) | (simp [*]; done)), H', ⟨Nat.le_refl _⟩, ⟨by first | exact Kd.R_nil _ _ _ _ _ | exact Kd.N_nil _ _ _ _ _ | exact Kd.V_nil _ _ _ _ _ | exact Kd.Q_nil _ _ _ _ _ | exact Kd.S_nil _ _ _ _ _⟩, ⟨by first | exact Kd.R_nil _ _ _ _ _ | exact Kd.N_nil _ _ _ _ _ | exact Kd.V_nil _ _ _ _ _ | exact Kd.Q_nil _ _ _ _ _ | exact Kd.S_nil _ _ _ _ _⟩, ⟨by first | exact Kd.R_nil _ _ _ _ _ | exact Kd.N_nil _ _ _ _ _ | exact Kd.V_nil _ _ _ _ _ | exact Kd.Q_nil _ _ _ _ _ | exact Kd.S_nil _ _ _ _ _⟩, ⟨by (with_reducible repeat (first | refine za ?_ _ | refine zb ?_ | refine zc ?_ _)); exact BK162.out⟩, ⟨by (with_reducible repeat (first | refine za ?_ _ | refine zb ?_ | refine zc ?_ _)); exact BK166.out⟩, ⟨by repeat (first | (with_reducible first | exact HI165.out | apply IsS130.alloc | apply IsS130.drewN | apply IsS130.drew | apply IsS130.set_0 | apply IsS130.set_1 | apply IsS130.set_2 | apply IsS130.far (hne := NB165_162.out) | apply IsS130.far (hne := NB165_166.out)) | apply IsS130.far (hne := NB165_162.out) | apply IsS130.far (hne := NB165_166.out) | exact HI165.out)⟩, ⟨by repeat (first | (with_reducible first | exact HB.out | apply zg | apply zh | apply zi | refine zr ?_ (IsS130.ge HI165.out) | refine zr ?_ GE162.out | refine zr ?_ GE166.out) | exact HB.out)⟩⟩
     case round =>
      clear H'
      try clear c1
      try clear p1
      try clear q1
      try clear hx1
      try clear qi1
      try clear p2
      try clear c5
      try clear c6
      try clear c7
      try clear c9
      try clear c9b0
      try clear c9b1
      try clear p10
      try clear q10
      try clear hx10
      try clear qi10
      try clear c12
      try clear c14
      try clear c15
      try clear hcz16_0
      try clear hcz16_1
      try clear hcz16_2
      try clear hcz16_3
      try clear hcz8_0
      try clear hcz8_1
      try clear hcz8_2
      try clear hcz8_3
      try clear hfz16_0
      try clear hfz16_1
      try clear hfz16_2
      try clear hfz16_3
      try clear hfz8_0
      try clear hfz8_1
      try clear hfz8_2
      try clear hfz8_3
      try clear p10
      try clear p2
      try clear q10
      obtain ⟨x9_2, x166000_2, x166001_2, x166002_2, x167001_2, x167002_2, x167003_2, u167001, u167002, u167003, rfl, HA, HK2, HO_167001, HO_167002, HO_167003, BK162, BK166, HI165, HB⟩ := hrel
      cases gk with
      | zero => exact absurd HA.out (by simp [spec_ReadNode.l0])
      | succ k2 =>
       have H := HA.out
       clear HA
       simp only [spec_ReadNode.l0] at H
       have HC18 := zj H
       clear H
       go_upto_region 8 with (fail)
       go_cut [47] (fun v47 wc => ∃ (kq : Nat) (x47_17 : Bool), v47 = .bool x47_17 ∧ Aside0 (spec_ReadNode.j2 kq a0 t167 x9_2 x47_17 x166000_2 x166001_2 x166002_2 ((bt t163 0) == 108) x167001_2 x167002_2 x167003_2 = some (r1, r2, r3, r4, r5)) ∧ Aside0 (kq ≤ k2) ∧ Aside0 (Kd.R Kd.string 9 wc w.heap.size (fun k_ => some k_ ≠ (u167002 : Value).ownBlock) u167001 x167001_2) ∧ Aside0 (Kd.R Kd.string 9 wc w.heap.size (fun k_ => some k_ ≠ (u167001 : Value).ownBlock) u167002 x167002_2) ∧ Aside0 (Kd.R (Kd.int .i64) 3 wc w.heap.size (fun _ => True) u167003 x167003_2) ∧ Aside0 (wc.heap[gb162]? = some (.cells #[.bool false, (.slice none 0 0), (.slice none 0 0), (.slice none 0 0)] 29 (0, 0))) ∧ Aside0 (wc.heap[gb166]? = some (.cells #[.bool ((bt t163 0) == 108), u167001, u167002, u167003] 29 (0, 0))) ∧ Aside0 (IsS130 w wc gb165 x166000_2 x166001_2 x166002_2) ∧ Aside0 (Below w.heap.size w wc))
       case first =>
        have H := HC18.out
        clear HC18
        by_cases c19 : x9_2 < t167
        ·rw [if_pos c19] at H
         have c19b0 : decide (x9_2 < t167) = true := decide_eq_true c19
         clear c19
         (first | rw [c19b0] | (simp only [i64_w, i32_w]; rw [c19b0]) | skip)
         by_cases c20 : x9_2 < 10
         ·rw [if_pos c20] at H
          have c20b0 : decide (x9_2 < 10) = true := decide_eq_true c20
          clear c20
          have H' := zj H
          clear H
          obtain ⟨HGz21, hgz21⟩ := HI165.out
          have hcz21_0 := cellS130_0 HGz21
          have hcz21_1 := cellS130_1 HGz21
          have hcz21_2 := cellS130_2 HGz21
          have hfz21_0 := zu HGz21 0
          have hfz21_1 := zu HGz21 1
          have hfz21_2 := zu HGz21 2
          clear HGz21 hgz21
          go_wp2
          go_meet
          case rel => exact ⟨_, (!x166002_2), (by first | rfl | (simp; done) | (simp [*]; done)), H', ⟨by have := HJ2.out; have := HK2.out; first | omega | exact Nat.le_refl _⟩, ⟨by (with_reducible repeat (first | apply zd | apply ze | apply zf)); exact HO_167001.out⟩, ⟨by (with_reducible repeat (first | apply zd | apply ze | apply zf)); exact HO_167002.out⟩, ⟨by (with_reducible repeat (first | apply zd | apply ze | apply zf)); exact HO_167003.out⟩, ⟨by (with_reducible repeat (first | refine za ?_ _ | refine zb ?_ | refine zc ?_ _)); exact BK162.out⟩, ⟨by (with_reducible repeat (first | refine za ?_ _ | refine zb ?_ | refine zc ?_ _)); exact BK166.out⟩, ⟨by repeat (first | (with_reducible first | exact HI165.out | apply IsS130.alloc | apply IsS130.drewN | apply IsS130.drew | apply IsS130.set_0 | apply IsS130.set_1 | apply IsS130.set_2 | apply IsS130.far (hne := NB165_162.out) | apply IsS130.far (hne := NB165_166.out)) | apply IsS130.far (hne := NB165_162.out) | apply IsS130.far (hne := NB165_166.out) | exact HI165.out)⟩, ⟨by repeat (first | (with_reducible first | exact HB.out | apply zg | apply zh | apply zi | refine zr ?_ (IsS130.ge HI165.out) | refine zr ?_ GE162.out | refine zr ?_ GE166.out) | exact HB.out)⟩⟩
         ·rw [if_neg c20] at H
          have c20b0 : decide (x9_2 < 10) = false := decide_eq_false c20
          clear c20
          have H' := zj H
          clear H
          go_wp2
          go_meet
          case rel => exact ⟨_, (false), (by first | rfl | (simp; done) | (simp [*]; done)), H', ⟨by have := HJ2.out; have := HK2.out; first | omega | exact Nat.le_refl _⟩, ⟨by (with_reducible repeat (first | apply zd | apply ze | apply zf)); exact HO_167001.out⟩, ⟨by (with_reducible repeat (first | apply zd | apply ze | apply zf)); exact HO_167002.out⟩, ⟨by (with_reducible repeat (first | apply zd | apply ze | apply zf)); exact HO_167003.out⟩, ⟨by (with_reducible repeat (first | refine za ?_ _ | refine zb ?_ | refine zc ?_ _)); exact BK162.out⟩, ⟨by (with_reducible repeat (first | refine za ?_ _ | refine zb ?_ | refine zc ?_ _)); exact BK166.out⟩, ⟨by repeat (first | (with_reducible first | exact HI165.out | apply IsS130.alloc | apply IsS130.drewN | apply IsS130.drew | apply IsS130.set_0 | apply IsS130.set_1 | apply IsS130.set_2 | apply IsS130.far (hne := NB165_162.out) | apply IsS130.far (hne := NB165_166.out)) | apply IsS130.far (hne := NB165_162.out) | apply IsS130.far (hne := NB165_166.out) | exact HI165.out)⟩, ⟨by repeat (first | (with_reducible first | exact HB.out | apply zg | apply zh | apply zi | refine zr ?_ (IsS130.ge HI165.out) | refine zr ?_ GE162.out | refine zr ?_ GE166.out) | exact HB.out)⟩⟩
        ·rw [if_neg c19] at H
         have c19b0 : decide (x9_2 < t167) = false := decide_eq_false c19
         clear c19
         (first | rw [c19b0] | (simp only [i64_w, i32_w]; rw [c19b0]) | skip)
         have H' := zj H
         clear H
         go_wp2
         go_meet
         case rel => exact ⟨_, (false), (by first | rfl | (simp; done) | (simp [*]; done)), H', ⟨by have := HJ2.out; have := HK2.out; first | omega | exact Nat.le_refl _⟩, ⟨by (with_reducible repeat (first | apply zd | apply ze | apply zf)); exact HO_167001.out⟩, ⟨by (with_reducible repeat (first | apply zd | apply ze | apply zf)); exact HO_167002.out⟩, ⟨by (with_reducible repeat (first | apply zd | apply ze | apply zf)); exact HO_167003.out⟩, ⟨by (with_reducible repeat (first | refine za ?_ _ | refine zb ?_ | refine zc ?_ _)); exact BK162.out⟩, ⟨by (with_reducible repeat (first | refine za ?_ _ | refine zb ?_ | refine zc ?_ _)); exact BK166.out⟩, ⟨by repeat (first | (with_reducible first | exact HI165.out | apply IsS130.alloc | apply IsS130.drewN | apply IsS130.drew | apply IsS130.set_0 | apply IsS130.set_1 | apply IsS130.set_2 | apply IsS130.far (hne := NB165_162.out) | apply IsS130.far (hne := NB165_166.out)) | apply IsS130.far (hne := NB165_162.out) | apply IsS130.far (hne := NB165_166.out) | exact HI165.out)⟩, ⟨by repeat (first | (with_reducible first | exact HB.out | apply zg | apply zh | apply zi | refine zr ?_ (IsS130.ge HI165.out) | refine zr ?_ GE162.out | refine zr ?_ GE166.out) | exact HB.out)⟩⟩
       case rest =>
        clear HC18
        try clear c1
        try clear p1
        try clear q1
        try clear hx1
        try clear qi1
        try clear c2
        try clear p2
        try clear c5
        try clear c6
        try clear c7
        try clear c9
        try clear c9b0
        try clear c9b1
        try clear p10
        try clear q10
        try clear hx10
        try clear qi10
        try clear c12
        try clear c14
        try clear c15
        try clear c19
        try clear c19b0
        try clear c20
        try clear c20b0
        try clear hcz16_0
        try clear hcz16_1
        try clear hcz16_2
        try clear hcz16_3
        try clear hcz21_0
        try clear hcz21_1
        try clear hcz21_2
        try clear hcz8_0
        try clear hcz8_1
        try clear hcz8_2
        try clear hcz8_3
        try clear hfz16_0
        try clear hfz16_1
        try clear hfz16_2
        try clear hfz16_3
        try clear hfz21_0
        try clear hfz21_1
        try clear hfz21_2
        try clear hfz8_0
        try clear hfz8_1
        try clear hfz8_2
        try clear hfz8_3
        try clear p1
        try clear p10
        try clear p2
        try clear q1
        try clear q10
        obtain ⟨kq, x47_17, rfl, HA, HJ17, HO_167001, HO_167002, HO_167003, BK162, BK166, HI165, HB⟩ := hcut
        cases kq with
        | zero => exact absurd HA.out (by simp [spec_ReadNode.j2])
        | succ kj17 =>
         have H := HA.out
         clear HA
         simp only [spec_ReadNode.j2] at H
         by_cases c22 : x47_17 = true
         ·subst c22
          have H1 : ((spec_l04ReadShort.f kj17 x166000_2 x166001_2 x166002_2).bind fun bt173 => (if x167001_2.length < 8796093022208 then ((some (x167001_2 ++ [bt173.1] : List ByteArray)).bind fun y177 => (if ((bt t163 0) == 108) = true then ((spec_l04ReadShort.f kj17 bt173.2.1 bt173.2.2.1 bt173.2.2.2).bind fun bt180 => (if x167002_2.length < 8796093022208 then (spec_ReadNode.l0 kj17 a0 t167 (wrap64 (x9_2 + 1)) bt180.2.1 bt180.2.2.1 bt180.2.2.2 ((bt t163 0) == 108) y177 (x167002_2 ++ [bt180.1]) x167003_2) else (none))) else ((spec_l04Var.f kj17 bt173.2.1 bt173.2.2.1 bt173.2.2.2).bind fun bt187 => (if x167003_2.length < 17592186044416 then (spec_ReadNode.l0 kj17 a0 t167 (wrap64 (x9_2 + 1)) bt187.2.1 bt187.2.2.1 bt187.2.2.2 ((bt t163 0) == 108) y177 x167002_2 (x167003_2 ++ [bt187.1])) else (none))))) else (none))) = some (r1, r2, r3, r4, r5) := by rw [if_pos rfl] at H; exact H
          clear H
          have H := H1
          clear H1
          replace H := Option.bind_eq_some_iff.mp H
          obtain ⟨⟨t173, t174, t175, t176⟩, A230, H⟩ := H
          replace H : (if x167001_2.length < 8796093022208 then ((some (x167001_2 ++ [t173] : List ByteArray)).bind fun y177 => (if ((bt t163 0) == 108) = true then ((spec_l04ReadShort.f kj17 t174 t175 t176).bind fun bt180 => (if x167002_2.length < 8796093022208 then (spec_ReadNode.l0 kj17 a0 t167 (wrap64 (x9_2 + 1)) bt180.2.1 bt180.2.2.1 bt180.2.2.2 ((bt t163 0) == 108) y177 (x167002_2 ++ [bt180.1]) x167003_2) else (none))) else ((spec_l04Var.f kj17 t174 t175 t176).bind fun bt187 => (if x167003_2.length < 17592186044416 then (spec_ReadNode.l0 kj17 a0 t167 (wrap64 (x9_2 + 1)) bt187.2.1 bt187.2.2.1 bt187.2.2.2 ((bt t163 0) == 108) y177 x167002_2 (x167003_2 ++ [bt187.1])) else (none))))) else (none)) = some (r1, r2, r3, r4, r5) := H
          have A23 := zj A230
          clear A230
          by_cases c24 : x167001_2.length < 8796093022208
          ·rw [if_pos c24] at H
           have LMc24 := zj c24
           clear c24
           obtain ⟨y177, hy177⟩ : ∃ y_ : List ByteArray, y_ = (x167001_2 ++ [t173]) := ⟨_, rfl⟩
           replace H : (if ((bt t163 0) == 108) = true then ((spec_l04ReadShort.f kj17 t174 t175 t176).bind fun bt180 => (if x167002_2.length < 8796093022208 then (spec_ReadNode.l0 kj17 a0 t167 (wrap64 (x9_2 + 1)) bt180.2.1 bt180.2.2.1 bt180.2.2.2 ((bt t163 0) == 108) y177 (x167002_2 ++ [bt180.1]) x167003_2) else (none))) else ((spec_l04Var.f kj17 t174 t175 t176).bind fun bt187 => (if x167003_2.length < 17592186044416 then (spec_ReadNode.l0 kj17 a0 t167 (wrap64 (x9_2 + 1)) bt187.2.1 bt187.2.2.1 bt187.2.2.2 ((bt t163 0) == 108) y177 x167002_2 (x167003_2 ++ [bt187.1])) else (none)))) = some (r1, r2, r3, r4, r5) := by first | (rw [hy177]; with_reducible exact H) | (have H2_ := (Option.bind_some _ _).symm.trans H; rw [hy177]; with_reducible exact H2_) | (have H2_ := (Option.bind_some _ _).symm.trans H; with_reducible exact H2_) | with_reducible exact H | (rw [hy177]; exact H) | exact H
           have Ny177 := zj hy177
           clear hy177
           by_cases c25 : ((bt t163 0) == 108) = true
           ·rw [if_pos c25] at H
            have c25b0 : ((bt t163 0) == 108) = true := c25
            (try (have c25b1 : decide ((bt t163 0) = 108) = true := by simpa using c25))
            (try (have c25b2 : ((bt t163 0) == 108) = true := by simpa using c25))
            clear c25
            replace H := Option.bind_eq_some_iff.mp H
            obtain ⟨⟨t180, t181, t182, t183⟩, A260, H⟩ := H
            replace H : (if x167002_2.length < 8796093022208 then (spec_ReadNode.l0 kj17 a0 t167 (wrap64 (x9_2 + 1)) t181 t182 t183 ((bt t163 0) == 108) y177 (x167002_2 ++ [t180]) x167003_2) else (none)) = some (r1, r2, r3, r4, r5) := H
            have A26 := zj A260
            clear A260
            by_cases c27 : x167002_2.length < 8796093022208
            ·rw [if_pos c27] at H
             have LMc27 := zj c27
             clear c27
             obtain ⟨y184, hy184⟩ : ∃ y_ : List ByteArray, y_ = (x167002_2 ++ [t180]) := ⟨_, rfl⟩
             replace H : (spec_ReadNode.l0 kj17 a0 t167 (wrap64 (x9_2 + 1)) t181 t182 t183 ((bt t163 0) == 108) y177 y184 x167003_2) = some (r1, r2, r3, r4, r5) := by first | (rw [hy184]; with_reducible exact H) | (have H2_ := (Option.bind_some _ _).symm.trans H; rw [hy184]; with_reducible exact H2_) | (have H2_ := (Option.bind_some _ _).symm.trans H; with_reducible exact H2_) | with_reducible exact H | (rw [hy184]; exact H) | exact H
             have Ny184 := zj hy184
             clear hy184
             have H' := zj H
             clear H
             try go_wp2
             have n0_ := zj (zf HO_167001.out)
             have n1_ := zj (zf HO_167002.out)
             have n2_ := zj (zf HO_167003.out)
             have n3_ := zj (zb BK162.out)
             have n4_ := zj (zb BK166.out)
             have n5_ := zj (IsS130.drew HI165.out)
             have n6_ := zj (zi HB.out)
             clear HO_167001
             clear HO_167002
             clear HO_167003
             clear BK162
             clear BK166
             clear HI165
             clear HB
             have HO_167001 := n0_
             have HO_167002 := n1_
             have HO_167003 := n2_
             have BK162 := n3_
             have BK166 := n4_
             have HI165 := n5_
             have HB := n6_
             clear n0_ n1_ n2_ n3_ n4_ n5_ n6_
             refine start_ (n := 8) (S := fun w' => w'.cell? ⟨gb166, 0, none⟩ = some (.bool ((bt t163 0) == 108)) ∧ w'.cell? ⟨gb166, 1, none⟩ = some (u167001) ∧ w'.cell? ⟨gb166, 2, none⟩ = some (u167002) ∧ w'.cell? ⟨gb166, 3, none⟩ = some (u167003)) (ds := [7]) #[false, false, false, false, false, false, false, false] (by kernel_rfl) rfl rfl ⟨(zq BK166.out 0).trans rfl, (zq BK166.out 1).trans rfl, (zq BK166.out 2).trans rfl, (zq BK166.out 3).trans rfl⟩ (fun hHeld => ?_); refine with_tabW spec_ReadNode.tab10 spec_ReadNode.bits10 (fun HT_ HW_ => ?_)
             generalize wc.drew = w28 at HO_167001 HO_167002 HO_167003 BK162 BK166 HI165 HB hHeld ⊢
             refine pure_ (i := 0) (N := some 50) (v := ?_) (a' := ?_) #[true, false, false, false, false, false, false, false] rfl rfl (any_of HT_.out (by kernel_rfl)) (fun _ _ _ h => h) (Or.inl ⟨by rfl, ?_⟩) ?_ ?_
             rotate_left
             ·intro w'
              go_simp
              with_reducible rfl
             rotate_left
             ·simp only [Act.put, List.setIfInBounds_toArray, List.set_cons_zero, List.set_cons_succ, i64_w, i32_w]
              rfl
             refine pure_ (i := 2) (N := some 52) (v := ?_) (a' := ?_) #[true, false, true, false, false, false, false, false] rfl rfl (any_of HT_.out (by kernel_rfl)) (fun _ _ _ h => h) (Or.inl ⟨by rfl, ?_⟩) ?_ ?_
             rotate_left
             ·intro w'
              go_simp
              with_reducible rfl
             rotate_left
             ·simp only [Act.put, List.setIfInBounds_toArray, List.set_cons_zero, List.set_cons_succ, i64_w, i32_w]
              rfl
             refine take_ (i := 1) (N := some 51) (v := ?_) (a' := ?_) #[true, true, true, false, false, false, false, false] rfl rfl (take_ofW HT_.out HW_.out (by kernel_rfl)) (fun _ _ _ h => h) (Or.inl ⟨by rfl, ?_⟩) hHeld ?_ ?_
             rotate_left
             ·rintro w' ⟨s0, s1, s2, s3⟩
              go_simp
              with_reducible rfl
             rotate_left
             ·simp only [Act.put, List.setIfInBounds_toArray, List.set_cons_zero, List.set_cons_succ, i64_w, i32_w]
              rfl
             refine one_ (i := 3) (N := some 53) #[true, true, true, true, false, false, false, false] rfl rfl (one_of HT_.out (by kernel_rfl)) (by decide) (fun K hK => ?_)
             refine goes_ Try.func108 (by kernel_rfl) rfl #[.pointer (some ⟨gb165, 0, none⟩)] (by rfl) rfl rfl (by (try simp only [List.map_toArray, List.map_cons, List.map_nil]); first | done | rfl | (simp only [List.length_drop, List.length_take]; rfl)) ?_
             with_reducible refine (spec_l04ReadShort.calls kj17 gb165 x166000_2 x166001_2 x166002_2 t173 t174 t175 t176 w _ ?side1 ?side2 A23.out).mono ?_
             (case side1 => repeat (first | (with_reducible first | exact HI165.out | apply IsS130.alloc | apply IsS130.drewN | apply IsS130.drew | apply IsS130.set_0 | apply IsS130.set_1 | apply IsS130.set_2 | apply IsS130.far (hne := NB165_162.out) | apply IsS130.far (hne := NB165_166.out)) | apply IsS130.far (hne := NB165_162.out) | apply IsS130.far (hne := NB165_166.out) | exact HI165.out))
             (case side2 => repeat (first | (with_reducible first | exact HB.out | apply zg | apply zh | apply zi | refine zr ?_ (IsS130.ge HI165.out) | refine zr ?_ GE162.out | refine zr ?_ GE166.out) | exact HB.out))
             rintro e w29 ⟨rfl, hi, hb, hk⟩
             refine ⟨_, rfl, ?_⟩
             have n0_ := zj (zm (Kd.R_keep (IsS130.apart (show IsS130 w _ gb165 x166000_2 x166001_2 x166002_2 from by repeat (first | (with_reducible first | exact HI165.out | apply IsS130.alloc | apply IsS130.drewN | apply IsS130.drew | apply IsS130.set_0 | apply IsS130.set_1 | apply IsS130.set_2 | apply IsS130.far (hne := NB165_162.out) | apply IsS130.far (hne := NB165_166.out)) | apply IsS130.far (hne := NB165_162.out) | apply IsS130.far (hne := NB165_166.out) | exact HI165.out)) (by (with_reducible repeat (first | apply zd | apply ze | apply zf)); exact HO_167001.out) (by decide)) hk (fun _ h => h.2)) (fun _ h => h.1))
             have n1_ := zj (zm (Kd.R_keep (IsS130.apart (show IsS130 w _ gb165 x166000_2 x166001_2 x166002_2 from by repeat (first | (with_reducible first | exact HI165.out | apply IsS130.alloc | apply IsS130.drewN | apply IsS130.drew | apply IsS130.set_0 | apply IsS130.set_1 | apply IsS130.set_2 | apply IsS130.far (hne := NB165_162.out) | apply IsS130.far (hne := NB165_166.out)) | apply IsS130.far (hne := NB165_162.out) | apply IsS130.far (hne := NB165_166.out) | exact HI165.out)) (by (with_reducible repeat (first | apply zd | apply ze | apply zf)); exact HO_167002.out) (by decide)) hk (fun _ h => h.2)) (fun _ h => h.1))
             have n2_ := zj (zm (Kd.R_keep (IsS130.apart (show IsS130 w _ gb165 x166000_2 x166001_2 x166002_2 from by repeat (first | (with_reducible first | exact HI165.out | apply IsS130.alloc | apply IsS130.drewN | apply IsS130.drew | apply IsS130.set_0 | apply IsS130.set_1 | apply IsS130.set_2 | apply IsS130.far (hne := NB165_162.out) | apply IsS130.far (hne := NB165_166.out)) | apply IsS130.far (hne := NB165_162.out) | apply IsS130.far (hne := NB165_166.out) | exact HI165.out)) (by (with_reducible repeat (first | apply zd | apply ze | apply zf)); exact HO_167003.out) (by decide)) hk (fun _ h => h.2)) (fun _ h => h.1))
             have n3_ := zj (KeepBut.blk hk (g' := gb162) (o := .cells #[.bool false, .slice none 0 0, .slice none 0 0, .slice none 0 0] 29 (0, 0)) (by (with_reducible repeat (first | refine za ?_ _ | refine zb ?_ | refine zc ?_ _)); exact BK162.out) NB162_165.out (by simp))
             have n4_ := zj (KeepBut.blk hk (g' := gb166) (o := .cells #[.bool ((bt t163 0) == 108), u167001, u167002, u167003] 29 (0, 0)) (by (with_reducible repeat (first | refine za ?_ _ | refine zb ?_ | refine zc ?_ _)); exact BK166.out) NB166_165.out (by simp))
             have n5_ := zj (hb)
             have n6_ := zj (hi)
             clear HO_167001
             clear HO_167002
             clear HO_167003
             clear BK162
             clear BK166
             clear HB
             clear HI165
             have HO_167001 := n0_
             have HO_167002 := n1_
             have HO_167003 := n2_
             have BK162 := n3_
             have BK166 := n4_
             have HB := n5_
             have HI165 := n6_
             clear n0_ n1_ n2_ n3_ n4_ n5_ n6_
             (try clear hb)
             (try clear hb2)
             (try clear hk)
             (try clear hi)
             refine hK.out _ _ ⟨(zq BK166.out 0).trans rfl, (zq BK166.out 1).trans rfl, (zq BK166.out 2).trans rfl, (zq BK166.out 3).trans rfl⟩ (fun hHeld => ?_)
             clear hK K
             refine norm_ (a' := ?_) ?_ ?_
             rotate_left
             ·show Act.put _ (some 53) _ = _
              simp only [Act.put, List.setIfInBounds_toArray, List.set_cons_zero, List.set_cons_succ, i64_w, i32_w]
              rfl
             refine one_ (i := 4) (N := some 54) #[true, true, true, true, true, false, false, false] rfl rfl (one_of HT_.out (by kernel_rfl)) (by decide) (fun K hK => ?_)
             refine value_ (w1 := ?_) (v := ?_) (by rfl) rfl ?_ ?_
             rotate_left 2
             ·go_simp
              constructor
              ·rfl
              ·rfl
             refine hK.out _ _ ⟨(zq (zc BK166.out _) 0).trans rfl, (zq (zc BK166.out _) 1).trans rfl, (zq (zc BK166.out _) 2).trans rfl, (zq (zc BK166.out _) 3).trans rfl⟩ (fun hHeld => ?_)
             clear hK K
             refine norm_ (a' := ?_) ?_ ?_
             rotate_left
             ·show Act.put _ (some 54) _ = _
              simp only [Act.put, List.setIfInBounds_toArray, List.set_cons_zero, List.set_cons_succ, i64_w, i32_w]
              rfl
             refine one_ (i := 5) (N := some 55) #[true, true, true, true, true, true, false, false] rfl rfl (one_of HT_.out (by kernel_rfl)) (by decide) (fun K hK => ?_)
             refine Kd.R_append_step Kd.string (w0 := w) w.heap.size (by rfl) (.tmp 51) (.tmp 54) 22 9 (.string ⟨#[]⟩) 16 rfl Try.underlying22 info9 rfl (by decide) (by omega) u167001 x167001_2 t173 [.string t173] (fun k_ => some k_ ≠ (u167002 : Value).ownBlock) (fun _ => False) rfl rfl ?aP (fun _ hk => hk.elim) ?aF ?aO ?aB ?aS ?aL ?_
             (case aP => exact rfl)
             (case aB => exact (by repeat (first | (with_reducible first | exact HB.out | apply zg | apply zh | apply zi | refine zr ?_ (IsS130.ge HI165.out) | refine zr ?_ GE162.out | refine zr ?_ GE166.out) | exact HB.out)))
             (case aF => exact (fun k_ hk => Kd.fresh' (Kd.R_lt (by (with_reducible repeat (first | apply zd | apply ze | apply zf)); exact HO_167002.out)) k_ hk))
             (case aO => exact (by (with_reducible repeat (first | apply zd | apply ze | apply zf)); exact HO_167001.out))
             (case aS => exact (zk (by repeat (first | (with_reducible first | exact HB.out | apply zg | apply zh | apply zi | refine zr ?_ (IsS130.ge HI165.out) | refine zr ?_ GE162.out | refine zr ?_ GE166.out) | exact HB.out))))
             (case aL => have := LMc24.out; omega)
             intro v178 w30 ho hb hg hat
             rw [← Ny177.out] at ho
             have n0_ := zj (Kd.R_after (ok := (fun _ => True)) (by (with_reducible repeat (first | apply zd | apply ze | apply zf)); exact zm HO_167002.out (fun _ hk => ⟨trivial, hk⟩)) hg hat)
             have n1_ := zj (Kd.R_over' (by (with_reducible repeat (first | apply zd | apply ze | apply zf)); exact HO_167003.out) (Kd.R_typed (by (with_reducible repeat (first | apply zd | apply ze | apply zf)); exact HO_167001.out)) (by decide) hg)
             have n2_ := zj (blk_grown (g := gb162) (o := .cells #[.bool false, .slice none 0 0, .slice none 0 0, .slice none 0 0] 29 (0, 0)) (by (with_reducible repeat (first | refine za ?_ _ | refine zb ?_ | refine zc ?_ _)); exact BK162.out) hg (Kd.R_ne HO_167001.out BK162.out (by decide)))
             have n3_ := zj (blk_grown (g := gb166) (o := .cells #[.bool ((bt t163 0) == 108), u167001, u167002, u167003] 29 (0, 0)) (by (with_reducible repeat (first | refine za ?_ _ | refine zb ?_ | refine zc ?_ _)); exact BK166.out) hg (Kd.R_ne HO_167001.out BK166.out (by decide)))
             have n4_ := zj (IsS130.grown (by repeat (first | (with_reducible first | exact HI165.out | apply IsS130.alloc | apply IsS130.drewN | apply IsS130.drew | apply IsS130.set_0 | apply IsS130.set_1 | apply IsS130.set_2 | apply IsS130.far (hne := NB165_162.out) | apply IsS130.far (hne := NB165_166.out)) | apply IsS130.far (hne := NB165_162.out) | apply IsS130.far (hne := NB165_166.out) | exact HI165.out)) hg (IsS130.own_ne HI165.out HO_167001.out (by decide)))
             have n5_ := zj (hb)
             have n6_ := zj (ho)
             clear HO_167002
             clear HO_167003
             clear BK162
             clear BK166
             clear HI165
             clear HB
             clear HO_167001
             have HO_167002 := n0_
             have HO_167003 := n1_
             have BK162 := n2_
             have BK166 := n3_
             have HI165 := n4_
             have HB := n5_
             have HO179 := n6_
             clear n0_ n1_ n2_ n3_ n4_ n5_ n6_
             clear ho hb hg hat
             obtain ⟨Ao31, co31, eo31⟩ := Kd.R_slice HO179.out
             (first | subst eo31 | (injection eo31 with f1_ f2_ f3_; have f4_ := f1_.symm; have f5_ := f3_.symm; clear f1_ f2_ f3_; subst f4_; subst f5_))
             refine hK.out _ _ ⟨(zq BK166.out 0).trans rfl, (zq BK166.out 1).trans rfl, (zq BK166.out 2).trans rfl, (zq BK166.out 3).trans rfl⟩ (fun hHeld => ?_)
             clear hK K
             refine norm_ (a' := ?_) ?_ ?_
             rotate_left
             ·show Act.put _ (some 55) _ = _
              simp only [Act.put, List.setIfInBounds_toArray, List.set_cons_zero, List.set_cons_succ, i64_w, i32_w]
              rfl
             refine pure_ (i := 6) (N := some 56) (v := ?_) (a' := ?_) #[true, true, true, true, true, true, true, false] rfl rfl (any_of HT_.out (by kernel_rfl)) (fun _ _ _ h => h) (Or.inl ⟨by rfl, ?_⟩) ?_ ?_
             rotate_left
             ·intro w'
              go_simp
              with_reducible rfl
             rotate_left
             ·simp only [Act.put, List.setIfInBounds_toArray, List.set_cons_zero, List.set_cons_succ, i64_w, i32_w]
              rfl
             refine last_ (i := 7) (N := none) #[true, true, true, true, true, true, true, true] rfl rfl (one_of HT_.out (by kernel_rfl)) (by decide) (fun K hK => ?_)
             have hs32 : w30.cell? ⟨gb166, 1, none⟩ = some (u167001) := (zq BK166.out 1).trans rfl
             have hfs32 := zu BK166.out 1
             have hns32_0 := NB162_166.out
             have hms32_0 := NB166_162.out
             refine skip_ (w1 := ?_) (by rfl) rfl ?_ ?_
             rotate_left
             ·go_simp
              rfl
             refine hK.out _ _ ?_
             clear hK K
             refine done_ (done_of HT_.out (by kernel_rfl)) ?_
             have hnb33 := NB166_162.out
             have hnc33 := NB162_166.out
             have hnb34 := NB166_165.out
             have hnc34 := NB165_166.out
             have hcz35_0 : w30.cell? ⟨gb166, 0, none⟩ = some (.bool ((bt t163 0) == 108)) := (zq BK166.out 0).trans rfl
             have hcz35_1 : w30.cell? ⟨gb166, 1, none⟩ = some (u167001) := (zq BK166.out 1).trans rfl
             have hcz35_2 : w30.cell? ⟨gb166, 2, none⟩ = some (u167002) := (zq BK166.out 2).trans rfl
             have hcz35_3 : w30.cell? ⟨gb166, 3, none⟩ = some (u167003) := (zq BK166.out 3).trans rfl
             have hfz35_0 := zu BK166.out 0
             have hfz35_1 := zu BK166.out 1
             have hfz35_2 := zu BK166.out 2
             have hfz35_3 := zu BK166.out 3
             try go_wp2
             have n0_ : Aside0 (Kd.R Kd.string 9 (w30.setCell ⟨gb166, 1, none⟩ (.slice Ao31 y177.length co31)) w.heap.size (fun k_ => some k_ ≠ (.slice Ao31 y177.length co31 : Value).ownBlock) u167002 x167002_2) := ⟨by (with_reducible repeat (first | apply zd | apply ze | apply zf)); exact zm (zn (p := ⟨gb166, 1, none⟩) (zt HO_167002.out BK166.out (by decide)) (fun _ hk => hk.2) (.slice Ao31 y177.length co31)) (fun _ hk => hk.1.2)⟩
             have n1_ : Aside0 (Kd.R (Kd.int .i64) 3 (w30.setCell ⟨gb166, 1, none⟩ (.slice Ao31 y177.length co31)) w.heap.size (fun _ => True) u167003 x167003_2) := ⟨by (with_reducible repeat (first | apply zd | apply ze | apply zf)); exact zm (zn (p := ⟨gb166, 1, none⟩) (zt HO_167003.out BK166.out (by decide)) (fun _ hk => hk.2) (.slice Ao31 y177.length co31)) (fun _ hk => trivial)⟩
             have n2_ : Aside0 (Kd.R Kd.string 9 (w30.setCell ⟨gb166, 1, none⟩ (.slice Ao31 y177.length co31)) w.heap.size (fun k_ => some k_ ≠ (u167002 : Value).ownBlock) (.slice Ao31 y177.length co31) y177) := ⟨by (with_reducible repeat (first | apply zd | apply ze | apply zf)); exact zm (zn (p := ⟨gb166, 1, none⟩) (zt HO179.out BK166.out (by decide)) (fun _ hk => hk.2) (.slice Ao31 y177.length co31)) (fun _ hk => hk.1)⟩
             have n3_ : Aside0 ((w30.setCell ⟨gb166, 1, none⟩ (.slice Ao31 y177.length co31)).heap[gb162]? = some (.cells #[.bool false, .slice none 0 0, .slice none 0 0, .slice none 0 0] 29 (0, 0))) := ⟨by (with_reducible repeat (first | refine za ?_ _ | refine zb ?_ | refine zc ?_ _)); refine blk_far ?_ NB162_166.out _; (with_reducible repeat (first | refine za ?_ _ | refine zb ?_ | refine zc ?_ _)); exact BK162.out⟩
             have n4_ : Aside0 ((w30.setCell ⟨gb166, 1, none⟩ (.slice Ao31 y177.length co31)).heap[gb166]? = some (.cells #[.bool ((bt t163 0) == 108), .slice Ao31 y177.length co31, u167002, u167003] 29 (0, 0))) := ⟨by (with_reducible repeat (first | refine za ?_ _ | refine zb ?_ | refine zc ?_ _)); refine zp (cs := #[.bool ((bt t163 0) == 108), u167001, u167002, u167003]) ?_ 1 _ rfl; (with_reducible repeat (first | refine za ?_ _ | refine zb ?_ | refine zc ?_ _)); exact BK166.out⟩
             have n5_ : Aside0 (IsS130 w (w30.setCell ⟨gb166, 1, none⟩ (.slice Ao31 y177.length co31)) gb165 t174 t175 t176) := ⟨by repeat (first | (with_reducible first | exact HI165.out | apply IsS130.alloc | apply IsS130.drewN | apply IsS130.drew | apply IsS130.set_0 | apply IsS130.set_1 | apply IsS130.set_2 | apply IsS130.far (hne := NB165_162.out) | apply IsS130.far (hne := NB165_166.out)) | apply IsS130.far (hne := NB165_162.out) | apply IsS130.far (hne := NB165_166.out) | exact HI165.out)⟩
             have n6_ : Aside0 (Below w.heap.size w (w30.setCell ⟨gb166, 1, none⟩ (.slice Ao31 y177.length co31))) := ⟨by repeat (first | (with_reducible first | exact HB.out | apply zg | apply zh | apply zi | refine zr ?_ (IsS130.ge HI165.out) | refine zr ?_ GE162.out | refine zr ?_ GE166.out) | exact HB.out)⟩
             (try clear HO_167002)
             (try clear HO_167003)
             (try clear HO179)
             (try clear BK162)
             (try clear BK166)
             (try clear HI165)
             (try clear HB)
             generalize (w30.setCell ⟨gb166, 1, none⟩ (.slice Ao31 y177.length co31)) = w36 at n0_ n1_ n2_ n3_ n4_ n5_ n6_ ⊢
             have HO_167002 := n0_
             have HO_167003 := n1_
             have HO179 := n2_
             have BK162 := n3_
             have BK166 := n4_
             have HI165 := n5_
             have HB := n6_
             clear n0_ n1_ n2_ n3_ n4_ n5_ n6_
             have n0_ := zj (zf HO_167002.out)
             have n1_ := zj (zf HO_167003.out)
             have n2_ := zj (zf HO179.out)
             have n3_ := zj (zb BK162.out)
             have n4_ := zj (zb BK166.out)
             have n5_ := zj (IsS130.drew HI165.out)
             have n6_ := zj (zi HB.out)
             clear HO_167002
             clear HO_167003
             clear HO179
             clear BK162
             clear BK166
             clear HI165
             clear HB
             have HO_167002 := n0_
             have HO_167003 := n1_
             have HO179 := n2_
             have BK162 := n3_
             have BK166 := n4_
             have HI165 := n5_
             have HB := n6_
             clear n0_ n1_ n2_ n3_ n4_ n5_ n6_
             refine start_ (n := 8) (S := fun w' => w'.cell? ⟨gb166, 0, none⟩ = some (.bool ((bt t163 0) == 108)) ∧ w'.cell? ⟨gb166, 1, none⟩ = some (.slice Ao31 y177.length co31) ∧ w'.cell? ⟨gb166, 2, none⟩ = some (u167002) ∧ w'.cell? ⟨gb166, 3, none⟩ = some (u167003)) (ds := [7]) #[false, false, false, false, false, false, false, false] (by kernel_rfl) rfl rfl ⟨(zq BK166.out 0).trans rfl, (zq BK166.out 1).trans rfl, (zq BK166.out 2).trans rfl, (zq BK166.out 3).trans rfl⟩ (fun hHeld => ?_); refine with_tabW spec_ReadNode.tab12 spec_ReadNode.bits12 (fun HT_ HW_ => ?_)
             generalize w36.drew = w37 at HO_167002 HO_167003 HO179 BK162 BK166 HI165 HB hHeld ⊢
             refine pure_ (i := 0) (N := some 59) (v := ?_) (a' := ?_) #[true, false, false, false, false, false, false, false] rfl rfl (any_of HT_.out (by kernel_rfl)) (fun _ _ _ h => h) (Or.inl ⟨by rfl, ?_⟩) ?_ ?_
             rotate_left
             ·intro w'
              go_simp
              with_reducible rfl
             rotate_left
             ·simp only [Act.put, List.setIfInBounds_toArray, List.set_cons_zero, List.set_cons_succ, i64_w, i32_w]
              rfl
             refine pure_ (i := 2) (N := some 61) (v := ?_) (a' := ?_) #[true, false, true, false, false, false, false, false] rfl rfl (any_of HT_.out (by kernel_rfl)) (fun _ _ _ h => h) (Or.inl ⟨by rfl, ?_⟩) ?_ ?_
             rotate_left
             ·intro w'
              go_simp
              with_reducible rfl
             rotate_left
             ·simp only [Act.put, List.setIfInBounds_toArray, List.set_cons_zero, List.set_cons_succ, i64_w, i32_w]
              rfl
             refine take_ (i := 1) (N := some 60) (v := ?_) (a' := ?_) #[true, true, true, false, false, false, false, false] rfl rfl (take_ofW HT_.out HW_.out (by kernel_rfl)) (fun _ _ _ h => h) (Or.inl ⟨by rfl, ?_⟩) hHeld ?_ ?_
             rotate_left
             ·rintro w' ⟨s0, s1, s2, s3⟩
              go_simp
              with_reducible rfl
             rotate_left
             ·simp only [Act.put, List.setIfInBounds_toArray, List.set_cons_zero, List.set_cons_succ, i64_w, i32_w]
              rfl
             refine one_ (i := 3) (N := some 62) #[true, true, true, true, false, false, false, false] rfl rfl (one_of HT_.out (by kernel_rfl)) (by decide) (fun K hK => ?_)
             refine goes_ Try.func108 (by kernel_rfl) rfl #[.pointer (some ⟨gb165, 0, none⟩)] (by rfl) rfl rfl (by (try simp only [List.map_toArray, List.map_cons, List.map_nil]); first | done | rfl | (simp only [List.length_drop, List.length_take]; rfl)) ?_
             with_reducible refine (spec_l04ReadShort.calls kj17 gb165 t174 t175 t176 t180 t181 t182 t183 w _ ?side1 ?side2 A26.out).mono ?_
             (case side1 => repeat (first | (with_reducible first | exact HI165.out | apply IsS130.alloc | apply IsS130.drewN | apply IsS130.drew | apply IsS130.set_0 | apply IsS130.set_1 | apply IsS130.set_2 | apply IsS130.far (hne := NB165_162.out) | apply IsS130.far (hne := NB165_166.out)) | apply IsS130.far (hne := NB165_162.out) | apply IsS130.far (hne := NB165_166.out) | exact HI165.out))
             (case side2 => repeat (first | (with_reducible first | exact HB.out | apply zg | apply zh | apply zi | refine zr ?_ (IsS130.ge HI165.out) | refine zr ?_ GE162.out | refine zr ?_ GE166.out) | exact HB.out))
             rintro e w38 ⟨rfl, hi, hb, hk⟩
             refine ⟨_, rfl, ?_⟩
             have n0_ := zj (zm (Kd.R_keep (IsS130.apart (show IsS130 w _ gb165 t174 t175 t176 from by repeat (first | (with_reducible first | exact HI165.out | apply IsS130.alloc | apply IsS130.drewN | apply IsS130.drew | apply IsS130.set_0 | apply IsS130.set_1 | apply IsS130.set_2 | apply IsS130.far (hne := NB165_162.out) | apply IsS130.far (hne := NB165_166.out)) | apply IsS130.far (hne := NB165_162.out) | apply IsS130.far (hne := NB165_166.out) | exact HI165.out)) (by (with_reducible repeat (first | apply zd | apply ze | apply zf)); exact HO_167002.out) (by decide)) hk (fun _ h => h.2)) (fun _ h => h.1))
             have n1_ := zj (zm (Kd.R_keep (IsS130.apart (show IsS130 w _ gb165 t174 t175 t176 from by repeat (first | (with_reducible first | exact HI165.out | apply IsS130.alloc | apply IsS130.drewN | apply IsS130.drew | apply IsS130.set_0 | apply IsS130.set_1 | apply IsS130.set_2 | apply IsS130.far (hne := NB165_162.out) | apply IsS130.far (hne := NB165_166.out)) | apply IsS130.far (hne := NB165_162.out) | apply IsS130.far (hne := NB165_166.out) | exact HI165.out)) (by (with_reducible repeat (first | apply zd | apply ze | apply zf)); exact HO_167003.out) (by decide)) hk (fun _ h => h.2)) (fun _ h => h.1))
             have n2_ := zj (KeepBut.blk hk (g' := gb162) (o := .cells #[.bool false, .slice none 0 0, .slice none 0 0, .slice none 0 0] 29 (0, 0)) (by (with_reducible repeat (first | refine za ?_ _ | refine zb ?_ | refine zc ?_ _)); exact BK162.out) NB162_165.out (by simp))
             have n3_ := zj (KeepBut.blk hk (g' := gb166) (o := .cells #[.bool ((bt t163 0) == 108), .slice Ao31 y177.length co31, u167002, u167003] 29 (0, 0)) (by (with_reducible repeat (first | refine za ?_ _ | refine zb ?_ | refine zc ?_ _)); exact BK166.out) NB166_165.out (by simp))
             have n4_ := zj (zm (Kd.R_keep (IsS130.apart (show IsS130 w _ gb165 t174 t175 t176 from by repeat (first | (with_reducible first | exact HI165.out | apply IsS130.alloc | apply IsS130.drewN | apply IsS130.drew | apply IsS130.set_0 | apply IsS130.set_1 | apply IsS130.set_2 | apply IsS130.far (hne := NB165_162.out) | apply IsS130.far (hne := NB165_166.out)) | apply IsS130.far (hne := NB165_162.out) | apply IsS130.far (hne := NB165_166.out) | exact HI165.out)) (by (with_reducible repeat (first | apply zd | apply ze | apply zf)); exact HO179.out) (by decide)) hk (fun _ h => h.2)) (fun _ h => h.1))
             have n5_ := zj (hb)
             have n6_ := zj (hi)
             clear HO_167002
             clear HO_167003
             clear BK162
             clear BK166
             clear HO179
             clear HB
             clear HI165
             have HO_167002 := n0_
             have HO_167003 := n1_
             have BK162 := n2_
             have BK166 := n3_
             have HO179 := n4_
             have HB := n5_
             have HI165 := n6_
             clear n0_ n1_ n2_ n3_ n4_ n5_ n6_
             (try clear hb)
             (try clear hb2)
             (try clear hk)
             (try clear hi)
             refine hK.out _ _ ⟨(zq BK166.out 0).trans rfl, (zq BK166.out 1).trans rfl, (zq BK166.out 2).trans rfl, (zq BK166.out 3).trans rfl⟩ (fun hHeld => ?_)
             clear hK K
             refine norm_ (a' := ?_) ?_ ?_
             rotate_left
             ·show Act.put _ (some 62) _ = _
              simp only [Act.put, List.setIfInBounds_toArray, List.set_cons_zero, List.set_cons_succ, i64_w, i32_w]
              rfl
             refine one_ (i := 4) (N := some 63) #[true, true, true, true, true, false, false, false] rfl rfl (one_of HT_.out (by kernel_rfl)) (by decide) (fun K hK => ?_)
             refine value_ (w1 := ?_) (v := ?_) (by rfl) rfl ?_ ?_
             rotate_left 2
             ·go_simp
              constructor
              ·rfl
              ·rfl
             refine hK.out _ _ ⟨(zq (zc BK166.out _) 0).trans rfl, (zq (zc BK166.out _) 1).trans rfl, (zq (zc BK166.out _) 2).trans rfl, (zq (zc BK166.out _) 3).trans rfl⟩ (fun hHeld => ?_)
             clear hK K
             refine norm_ (a' := ?_) ?_ ?_
             rotate_left
             ·show Act.put _ (some 63) _ = _
              simp only [Act.put, List.setIfInBounds_toArray, List.set_cons_zero, List.set_cons_succ, i64_w, i32_w]
              rfl
             refine one_ (i := 5) (N := some 64) #[true, true, true, true, true, true, false, false] rfl rfl (one_of HT_.out (by kernel_rfl)) (by decide) (fun K hK => ?_)
             refine Kd.R_append_step Kd.string (w0 := w) w.heap.size (by rfl) (.tmp 60) (.tmp 63) 22 9 (.string ⟨#[]⟩) 16 rfl Try.underlying22 info9 rfl (by decide) (by omega) u167002 x167002_2 t180 [.string t180] (fun k_ => some k_ ≠ (.slice Ao31 y177.length co31 : Value).ownBlock) (fun _ => False) rfl rfl ?aP (fun _ hk => hk.elim) ?aF ?aO ?aB ?aS ?aL ?_
             (case aP => exact rfl)
             (case aB => exact (by repeat (first | (with_reducible first | exact HB.out | apply zg | apply zh | apply zi | refine zr ?_ (IsS130.ge HI165.out) | refine zr ?_ GE162.out | refine zr ?_ GE166.out) | exact HB.out)))
             (case aF => exact (fun k_ hk => Kd.fresh' (Kd.R_lt (by (with_reducible repeat (first | apply zd | apply ze | apply zf)); exact HO179.out)) k_ hk))
             (case aO => exact (by (with_reducible repeat (first | apply zd | apply ze | apply zf)); exact HO_167002.out))
             (case aS => exact (zk (by repeat (first | (with_reducible first | exact HB.out | apply zg | apply zh | apply zi | refine zr ?_ (IsS130.ge HI165.out) | refine zr ?_ GE162.out | refine zr ?_ GE166.out) | exact HB.out))))
             (case aL => have := LMc27.out; omega)
             intro v185 w39 ho hb hg hat
             rw [← Ny184.out] at ho
             have n0_ := zj (Kd.R_over' (by (with_reducible repeat (first | apply zd | apply ze | apply zf)); exact HO_167003.out) (Kd.R_typed (by (with_reducible repeat (first | apply zd | apply ze | apply zf)); exact HO_167002.out)) (by decide) hg)
             have n1_ := zj (blk_grown (g := gb162) (o := .cells #[.bool false, .slice none 0 0, .slice none 0 0, .slice none 0 0] 29 (0, 0)) (by (with_reducible repeat (first | refine za ?_ _ | refine zb ?_ | refine zc ?_ _)); exact BK162.out) hg (Kd.R_ne HO_167002.out BK162.out (by decide)))
             have n2_ := zj (blk_grown (g := gb166) (o := .cells #[.bool ((bt t163 0) == 108), .slice Ao31 y177.length co31, u167002, u167003] 29 (0, 0)) (by (with_reducible repeat (first | refine za ?_ _ | refine zb ?_ | refine zc ?_ _)); exact BK166.out) hg (Kd.R_ne HO_167002.out BK166.out (by decide)))
             have n3_ := zj (IsS130.grown (by repeat (first | (with_reducible first | exact HI165.out | apply IsS130.alloc | apply IsS130.drewN | apply IsS130.drew | apply IsS130.set_0 | apply IsS130.set_1 | apply IsS130.set_2 | apply IsS130.far (hne := NB165_162.out) | apply IsS130.far (hne := NB165_166.out)) | apply IsS130.far (hne := NB165_162.out) | apply IsS130.far (hne := NB165_166.out) | exact HI165.out)) hg (IsS130.own_ne HI165.out HO_167002.out (by decide)))
             have n4_ := zj (Kd.R_after (ok := (fun _ => True)) (by (with_reducible repeat (first | apply zd | apply ze | apply zf)); exact zm HO179.out (fun _ hk => ⟨trivial, hk⟩)) hg hat)
             have n5_ := zj (hb)
             have n6_ := zj (ho)
             clear HO_167003
             clear BK162
             clear BK166
             clear HI165
             clear HO179
             clear HB
             clear HO_167002
             have HO_167003 := n0_
             have BK162 := n1_
             have BK166 := n2_
             have HI165 := n3_
             have HO179 := n4_
             have HB := n5_
             have HO186 := n6_
             clear n0_ n1_ n2_ n3_ n4_ n5_ n6_
             clear ho hb hg hat
             obtain ⟨Ao40, co40, eo40⟩ := Kd.R_slice HO186.out
             (first | subst eo40 | (injection eo40 with f1_ f2_ f3_; have f4_ := f1_.symm; have f5_ := f3_.symm; clear f1_ f2_ f3_; subst f4_; subst f5_))
             refine hK.out _ _ ⟨(zq BK166.out 0).trans rfl, (zq BK166.out 1).trans rfl, (zq BK166.out 2).trans rfl, (zq BK166.out 3).trans rfl⟩ (fun hHeld => ?_)
             clear hK K
             refine norm_ (a' := ?_) ?_ ?_
             rotate_left
             ·show Act.put _ (some 64) _ = _
              simp only [Act.put, List.setIfInBounds_toArray, List.set_cons_zero, List.set_cons_succ, i64_w, i32_w]
              rfl
             refine pure_ (i := 6) (N := some 65) (v := ?_) (a' := ?_) #[true, true, true, true, true, true, true, false] rfl rfl (any_of HT_.out (by kernel_rfl)) (fun _ _ _ h => h) (Or.inl ⟨by rfl, ?_⟩) ?_ ?_
             rotate_left
             ·intro w'
              go_simp
              with_reducible rfl
             rotate_left
             ·simp only [Act.put, List.setIfInBounds_toArray, List.set_cons_zero, List.set_cons_succ, i64_w, i32_w]
              rfl
             refine last_ (i := 7) (N := none) #[true, true, true, true, true, true, true, true] rfl rfl (one_of HT_.out (by kernel_rfl)) (by decide) (fun K hK => ?_)
             have hs41 : w39.cell? ⟨gb166, 2, none⟩ = some (u167002) := (zq BK166.out 2).trans rfl
             have hfs41 := zu BK166.out 2
             have hns41_0 := NB162_166.out
             have hms41_0 := NB166_162.out
             refine skip_ (w1 := ?_) (by rfl) rfl ?_ ?_
             rotate_left
             ·go_simp
              rfl
             refine hK.out _ _ ?_
             clear hK K
             refine done_ (done_of HT_.out (by kernel_rfl)) ?_
             try go_wp2
             go_roundg kj17
             case measure => have := HJ2.out; have := HK2.out; have := HJ17.out; omega
             case rel => exact ⟨(wrap64 (x9_2 + 1)), (t181), (t182), (t183), (y177), (y184), (x167003_2), (.slice Ao31 y177.length co31), (.slice Ao40 y184.length co40), (u167003), (by first | rfl | (simp; done) | (simp [*]; done)), H', ⟨by have := HJ2.out; have := HK2.out; have := HJ17.out; omega⟩, ⟨by (with_reducible repeat (first | apply zd | apply ze | apply zf)); exact zm (zn (p := ⟨gb166, 2, none⟩) (zt HO179.out BK166.out (by decide)) (fun _ hk => hk.2) (.slice Ao40 y184.length co40)) (fun _ hk => hk.1.2)⟩, ⟨by (with_reducible repeat (first | apply zd | apply ze | apply zf)); exact zm (zn (p := ⟨gb166, 2, none⟩) (zt HO186.out BK166.out (by decide)) (fun _ hk => hk.2) (.slice Ao40 y184.length co40)) (fun _ hk => hk.1)⟩, ⟨by (with_reducible repeat (first | apply zd | apply ze | apply zf)); exact zm (zn (p := ⟨gb166, 2, none⟩) (zt HO_167003.out BK166.out (by decide)) (fun _ hk => hk.2) (.slice Ao40 y184.length co40)) (fun _ hk => trivial)⟩, ⟨by (with_reducible repeat (first | refine za ?_ _ | refine zb ?_ | refine zc ?_ _)); refine blk_far ?_ NB162_166.out _; (with_reducible repeat (first | refine za ?_ _ | refine zb ?_ | refine zc ?_ _)); exact BK162.out⟩, ⟨by (with_reducible repeat (first | refine za ?_ _ | refine zb ?_ | refine zc ?_ _)); refine zp (cs := #[.bool ((bt t163 0) == 108), .slice Ao31 y177.length co31, u167002, u167003]) ?_ 2 _ rfl; (with_reducible repeat (first | refine za ?_ _ | refine zb ?_ | refine zc ?_ _)); exact BK166.out⟩, ⟨by repeat (first | (with_reducible first | exact HI165.out | apply IsS130.alloc | apply IsS130.drewN | apply IsS130.drew | apply IsS130.set_0 | apply IsS130.set_1 | apply IsS130.set_2 | apply IsS130.far (hne := NB165_162.out) | apply IsS130.far (hne := NB165_166.out)) | apply IsS130.far (hne := NB165_162.out) | apply IsS130.far (hne := NB165_166.out) | exact HI165.out)⟩, ⟨by repeat (first | (with_reducible first | exact HB.out | apply zg | apply zh | apply zi | refine zr ?_ (IsS130.ge HI165.out) | refine zr ?_ GE162.out | refine zr ?_ GE166.out) | exact HB.out)⟩⟩
            ·rw [if_neg c27] at H
             exact absurd H (by simp)
           ·rw [if_neg c25] at H
            have c25b0 : ((bt t163 0) == 108) = false := by simpa using c25
            (try (have c25b1 : decide ((bt t163 0) = 108) = false := by simpa using c25))
            (try (have c25b2 : ((bt t163 0) == 108) = false := by simpa using c25))
            (try (have c25b3 : ¬ ((bt t163 0) = 108) := by simpa using c25))
            clear c25
            replace H := Option.bind_eq_some_iff.mp H
            obtain ⟨⟨t187, t188, t189, t190⟩, A420, H⟩ := H
            replace H : (if x167003_2.length < 17592186044416 then (spec_ReadNode.l0 kj17 a0 t167 (wrap64 (x9_2 + 1)) t188 t189 t190 ((bt t163 0) == 108) y177 x167002_2 (x167003_2 ++ [t187])) else (none)) = some (r1, r2, r3, r4, r5) := H
            have A42 := zj A420
            clear A420
            by_cases c43 : x167003_2.length < 17592186044416
            ·rw [if_pos c43] at H
             have LMc43 := zj c43
             clear c43
             obtain ⟨y191, hy191⟩ : ∃ y_ : List Int, y_ = (x167003_2 ++ [t187]) := ⟨_, rfl⟩
             replace H : (spec_ReadNode.l0 kj17 a0 t167 (wrap64 (x9_2 + 1)) t188 t189 t190 ((bt t163 0) == 108) y177 x167002_2 y191) = some (r1, r2, r3, r4, r5) := by first | (rw [hy191]; with_reducible exact H) | (have H2_ := (Option.bind_some _ _).symm.trans H; rw [hy191]; with_reducible exact H2_) | (have H2_ := (Option.bind_some _ _).symm.trans H; with_reducible exact H2_) | with_reducible exact H | (rw [hy191]; exact H) | exact H
             have Ny191 := zj hy191
             clear hy191
             have H' := zj H
             clear H
             try go_wp2
             have n0_ := zj (zf HO_167001.out)
             have n1_ := zj (zf HO_167002.out)
             have n2_ := zj (zf HO_167003.out)
             have n3_ := zj (zb BK162.out)
             have n4_ := zj (zb BK166.out)
             have n5_ := zj (IsS130.drew HI165.out)
             have n6_ := zj (zi HB.out)
             clear HO_167001
             clear HO_167002
             clear HO_167003
             clear BK162
             clear BK166
             clear HI165
             clear HB
             have HO_167001 := n0_
             have HO_167002 := n1_
             have HO_167003 := n2_
             have BK162 := n3_
             have BK166 := n4_
             have HI165 := n5_
             have HB := n6_
             clear n0_ n1_ n2_ n3_ n4_ n5_ n6_
             refine start_ (n := 8) (S := fun w' => w'.cell? ⟨gb166, 0, none⟩ = some (.bool ((bt t163 0) == 108)) ∧ w'.cell? ⟨gb166, 1, none⟩ = some (u167001) ∧ w'.cell? ⟨gb166, 2, none⟩ = some (u167002) ∧ w'.cell? ⟨gb166, 3, none⟩ = some (u167003)) (ds := [7]) #[false, false, false, false, false, false, false, false] (by kernel_rfl) rfl rfl ⟨(zq BK166.out 0).trans rfl, (zq BK166.out 1).trans rfl, (zq BK166.out 2).trans rfl, (zq BK166.out 3).trans rfl⟩ (fun hHeld => ?_); refine with_tabW spec_ReadNode.tab10 spec_ReadNode.bits10 (fun HT_ HW_ => ?_)
             generalize wc.drew = w44 at HO_167001 HO_167002 HO_167003 BK162 BK166 HI165 HB hHeld ⊢
             refine pure_ (i := 0) (N := some 50) (v := ?_) (a' := ?_) #[true, false, false, false, false, false, false, false] rfl rfl (any_of HT_.out (by kernel_rfl)) (fun _ _ _ h => h) (Or.inl ⟨by rfl, ?_⟩) ?_ ?_
             rotate_left
             ·intro w'
              go_simp
              with_reducible rfl
             rotate_left
             ·simp only [Act.put, List.setIfInBounds_toArray, List.set_cons_zero, List.set_cons_succ, i64_w, i32_w]
              rfl
             refine pure_ (i := 2) (N := some 52) (v := ?_) (a' := ?_) #[true, false, true, false, false, false, false, false] rfl rfl (any_of HT_.out (by kernel_rfl)) (fun _ _ _ h => h) (Or.inl ⟨by rfl, ?_⟩) ?_ ?_
             rotate_left
             ·intro w'
              go_simp
              with_reducible rfl
             rotate_left
             ·simp only [Act.put, List.setIfInBounds_toArray, List.set_cons_zero, List.set_cons_succ, i64_w, i32_w]
              rfl
             refine take_ (i := 1) (N := some 51) (v := ?_) (a' := ?_) #[true, true, true, false, false, false, false, false] rfl rfl (take_ofW HT_.out HW_.out (by kernel_rfl)) (fun _ _ _ h => h) (Or.inl ⟨by rfl, ?_⟩) hHeld ?_ ?_
             rotate_left
             ·rintro w' ⟨s0, s1, s2, s3⟩
              go_simp
              with_reducible rfl
             rotate_left
             ·simp only [Act.put, List.setIfInBounds_toArray, List.set_cons_zero, List.set_cons_succ, i64_w, i32_w]
              rfl
             refine one_ (i := 3) (N := some 53) #[true, true, true, true, false, false, false, false] rfl rfl (one_of HT_.out (by kernel_rfl)) (by decide) (fun K hK => ?_)
             refine goes_ Try.func108 (by kernel_rfl) rfl #[.pointer (some ⟨gb165, 0, none⟩)] (by rfl) rfl rfl (by (try simp only [List.map_toArray, List.map_cons, List.map_nil]); first | done | rfl | (simp only [List.length_drop, List.length_take]; rfl)) ?_
             with_reducible refine (spec_l04ReadShort.calls kj17 gb165 x166000_2 x166001_2 x166002_2 t173 t174 t175 t176 w _ ?side1 ?side2 A23.out).mono ?_
             (case side1 => repeat (first | (with_reducible first | exact HI165.out | apply IsS130.alloc | apply IsS130.drewN | apply IsS130.drew | apply IsS130.set_0 | apply IsS130.set_1 | apply IsS130.set_2 | apply IsS130.far (hne := NB165_162.out) | apply IsS130.far (hne := NB165_166.out)) | apply IsS130.far (hne := NB165_162.out) | apply IsS130.far (hne := NB165_166.out) | exact HI165.out))
             (case side2 => repeat (first | (with_reducible first | exact HB.out | apply zg | apply zh | apply zi | refine zr ?_ (IsS130.ge HI165.out) | refine zr ?_ GE162.out | refine zr ?_ GE166.out) | exact HB.out))
             rintro e w45 ⟨rfl, hi, hb, hk⟩
             refine ⟨_, rfl, ?_⟩
             have n0_ := zj (zm (Kd.R_keep (IsS130.apart (show IsS130 w _ gb165 x166000_2 x166001_2 x166002_2 from by repeat (first | (with_reducible first | exact HI165.out | apply IsS130.alloc | apply IsS130.drewN | apply IsS130.drew | apply IsS130.set_0 | apply IsS130.set_1 | apply IsS130.set_2 | apply IsS130.far (hne := NB165_162.out) | apply IsS130.far (hne := NB165_166.out)) | apply IsS130.far (hne := NB165_162.out) | apply IsS130.far (hne := NB165_166.out) | exact HI165.out)) (by (with_reducible repeat (first | apply zd | apply ze | apply zf)); exact HO_167001.out) (by decide)) hk (fun _ h => h.2)) (fun _ h => h.1))
             have n1_ := zj (zm (Kd.R_keep (IsS130.apart (show IsS130 w _ gb165 x166000_2 x166001_2 x166002_2 from by repeat (first | (with_reducible first | exact HI165.out | apply IsS130.alloc | apply IsS130.drewN | apply IsS130.drew | apply IsS130.set_0 | apply IsS130.set_1 | apply IsS130.set_2 | apply IsS130.far (hne := NB165_162.out) | apply IsS130.far (hne := NB165_166.out)) | apply IsS130.far (hne := NB165_162.out) | apply IsS130.far (hne := NB165_166.out) | exact HI165.out)) (by (with_reducible repeat (first | apply zd | apply ze | apply zf)); exact HO_167002.out) (by decide)) hk (fun _ h => h.2)) (fun _ h => h.1))
             have n2_ := zj (zm (Kd.R_keep (IsS130.apart (show IsS130 w _ gb165 x166000_2 x166001_2 x166002_2 from by repeat (first | (with_reducible first | exact HI165.out | apply IsS130.alloc | apply IsS130.drewN | apply IsS130.drew | apply IsS130.set_0 | apply IsS130.set_1 | apply IsS130.set_2 | apply IsS130.far (hne := NB165_162.out) | apply IsS130.far (hne := NB165_166.out)) | apply IsS130.far (hne := NB165_162.out) | apply IsS130.far (hne := NB165_166.out) | exact HI165.out)) (by (with_reducible repeat (first | apply zd | apply ze | apply zf)); exact HO_167003.out) (by decide)) hk (fun _ h => h.2)) (fun _ h => h.1))
             have n3_ := zj (KeepBut.blk hk (g' := gb162) (o := .cells #[.bool false, .slice none 0 0, .slice none 0 0, .slice none 0 0] 29 (0, 0)) (by (with_reducible repeat (first | refine za ?_ _ | refine zb ?_ | refine zc ?_ _)); exact BK162.out) NB162_165.out (by simp))
             have n4_ := zj (KeepBut.blk hk (g' := gb166) (o := .cells #[.bool ((bt t163 0) == 108), u167001, u167002, u167003] 29 (0, 0)) (by (with_reducible repeat (first | refine za ?_ _ | refine zb ?_ | refine zc ?_ _)); exact BK166.out) NB166_165.out (by simp))
             have n5_ := zj (hb)
             have n6_ := zj (hi)
             clear HO_167001
             clear HO_167002
             clear HO_167003
             clear BK162
             clear BK166
             clear HB
             clear HI165
             have HO_167001 := n0_
             have HO_167002 := n1_
             have HO_167003 := n2_
             have BK162 := n3_
             have BK166 := n4_
             have HB := n5_
             have HI165 := n6_
             clear n0_ n1_ n2_ n3_ n4_ n5_ n6_
             (try clear hb)
             (try clear hb2)
             (try clear hk)
             (try clear hi)
             refine hK.out _ _ ⟨(zq BK166.out 0).trans rfl, (zq BK166.out 1).trans rfl, (zq BK166.out 2).trans rfl, (zq BK166.out 3).trans rfl⟩ (fun hHeld => ?_)
             clear hK K
             refine norm_ (a' := ?_) ?_ ?_
             rotate_left
             ·show Act.put _ (some 53) _ = _
              simp only [Act.put, List.setIfInBounds_toArray, List.set_cons_zero, List.set_cons_succ, i64_w, i32_w]
              rfl
             refine one_ (i := 4) (N := some 54) #[true, true, true, true, true, false, false, false] rfl rfl (one_of HT_.out (by kernel_rfl)) (by decide) (fun K hK => ?_)
             refine value_ (w1 := ?_) (v := ?_) (by rfl) rfl ?_ ?_
             rotate_left 2
             ·go_simp
              constructor
              ·rfl
              ·rfl
             refine hK.out _ _ ⟨(zq (zc BK166.out _) 0).trans rfl, (zq (zc BK166.out _) 1).trans rfl, (zq (zc BK166.out _) 2).trans rfl, (zq (zc BK166.out _) 3).trans rfl⟩ (fun hHeld => ?_)
             clear hK K
             refine norm_ (a' := ?_) ?_ ?_
             rotate_left
             ·show Act.put _ (some 54) _ = _
              simp only [Act.put, List.setIfInBounds_toArray, List.set_cons_zero, List.set_cons_succ, i64_w, i32_w]
              rfl
             refine one_ (i := 5) (N := some 55) #[true, true, true, true, true, true, false, false] rfl rfl (one_of HT_.out (by kernel_rfl)) (by decide) (fun K hK => ?_)
             refine Kd.R_append_step Kd.string (w0 := w) w.heap.size (by rfl) (.tmp 51) (.tmp 54) 22 9 (.string ⟨#[]⟩) 16 rfl Try.underlying22 info9 rfl (by decide) (by omega) u167001 x167001_2 t173 [.string t173] (fun k_ => some k_ ≠ (u167002 : Value).ownBlock) (fun _ => False) rfl rfl ?aP (fun _ hk => hk.elim) ?aF ?aO ?aB ?aS ?aL ?_
             (case aP => exact rfl)
             (case aB => exact (by repeat (first | (with_reducible first | exact HB.out | apply zg | apply zh | apply zi | refine zr ?_ (IsS130.ge HI165.out) | refine zr ?_ GE162.out | refine zr ?_ GE166.out) | exact HB.out)))
             (case aF => exact (fun k_ hk => Kd.fresh' (Kd.R_lt (by (with_reducible repeat (first | apply zd | apply ze | apply zf)); exact HO_167002.out)) k_ hk))
             (case aO => exact (by (with_reducible repeat (first | apply zd | apply ze | apply zf)); exact HO_167001.out))
             (case aS => exact (zk (by repeat (first | (with_reducible first | exact HB.out | apply zg | apply zh | apply zi | refine zr ?_ (IsS130.ge HI165.out) | refine zr ?_ GE162.out | refine zr ?_ GE166.out) | exact HB.out))))
             (case aL => have := LMc24.out; omega)
             intro v178 w46 ho hb hg hat
             rw [← Ny177.out] at ho
             have n0_ := zj (Kd.R_after (ok := (fun _ => True)) (by (with_reducible repeat (first | apply zd | apply ze | apply zf)); exact zm HO_167002.out (fun _ hk => ⟨trivial, hk⟩)) hg hat)
             have n1_ := zj (Kd.R_over' (by (with_reducible repeat (first | apply zd | apply ze | apply zf)); exact HO_167003.out) (Kd.R_typed (by (with_reducible repeat (first | apply zd | apply ze | apply zf)); exact HO_167001.out)) (by decide) hg)
             have n2_ := zj (blk_grown (g := gb162) (o := .cells #[.bool false, .slice none 0 0, .slice none 0 0, .slice none 0 0] 29 (0, 0)) (by (with_reducible repeat (first | refine za ?_ _ | refine zb ?_ | refine zc ?_ _)); exact BK162.out) hg (Kd.R_ne HO_167001.out BK162.out (by decide)))
             have n3_ := zj (blk_grown (g := gb166) (o := .cells #[.bool ((bt t163 0) == 108), u167001, u167002, u167003] 29 (0, 0)) (by (with_reducible repeat (first | refine za ?_ _ | refine zb ?_ | refine zc ?_ _)); exact BK166.out) hg (Kd.R_ne HO_167001.out BK166.out (by decide)))
             have n4_ := zj (IsS130.grown (by repeat (first | (with_reducible first | exact HI165.out | apply IsS130.alloc | apply IsS130.drewN | apply IsS130.drew | apply IsS130.set_0 | apply IsS130.set_1 | apply IsS130.set_2 | apply IsS130.far (hne := NB165_162.out) | apply IsS130.far (hne := NB165_166.out)) | apply IsS130.far (hne := NB165_162.out) | apply IsS130.far (hne := NB165_166.out) | exact HI165.out)) hg (IsS130.own_ne HI165.out HO_167001.out (by decide)))
             have n5_ := zj (hb)
             have n6_ := zj (ho)
             clear HO_167002
             clear HO_167003
             clear BK162
             clear BK166
             clear HI165
             clear HB
             clear HO_167001
             have HO_167002 := n0_
             have HO_167003 := n1_
             have BK162 := n2_
             have BK166 := n3_
             have HI165 := n4_
             have HB := n5_
             have HO179 := n6_
             clear n0_ n1_ n2_ n3_ n4_ n5_ n6_
             clear ho hb hg hat
             obtain ⟨Ao47, co47, eo47⟩ := Kd.R_slice HO179.out
             (first | subst eo47 | (injection eo47 with f1_ f2_ f3_; have f4_ := f1_.symm; have f5_ := f3_.symm; clear f1_ f2_ f3_; subst f4_; subst f5_))
             refine hK.out _ _ ⟨(zq BK166.out 0).trans rfl, (zq BK166.out 1).trans rfl, (zq BK166.out 2).trans rfl, (zq BK166.out 3).trans rfl⟩ (fun hHeld => ?_)
             clear hK K
             refine norm_ (a' := ?_) ?_ ?_
             rotate_left
             ·show Act.put _ (some 55) _ = _
              simp only [Act.put, List.setIfInBounds_toArray, List.set_cons_zero, List.set_cons_succ, i64_w, i32_w]
              rfl
             refine pure_ (i := 6) (N := some 56) (v := ?_) (a' := ?_) #[true, true, true, true, true, true, true, false] rfl rfl (any_of HT_.out (by kernel_rfl)) (fun _ _ _ h => h) (Or.inl ⟨by rfl, ?_⟩) ?_ ?_
             rotate_left
             ·intro w'
              go_simp
              with_reducible rfl
             rotate_left
             ·simp only [Act.put, List.setIfInBounds_toArray, List.set_cons_zero, List.set_cons_succ, i64_w, i32_w]
              rfl
             refine last_ (i := 7) (N := none) #[true, true, true, true, true, true, true, true] rfl rfl (one_of HT_.out (by kernel_rfl)) (by decide) (fun K hK => ?_)
             have hs48 : w46.cell? ⟨gb166, 1, none⟩ = some (u167001) := (zq BK166.out 1).trans rfl
             have hfs48 := zu BK166.out 1
             have hns48_0 := NB162_166.out
             have hms48_0 := NB166_162.out
             refine skip_ (w1 := ?_) (by rfl) rfl ?_ ?_
             rotate_left
             ·go_simp
              rfl
             refine hK.out _ _ ?_
             clear hK K
             refine done_ (done_of HT_.out (by kernel_rfl)) ?_
             have hnb49 := NB166_162.out
             have hnc49 := NB162_166.out
             have hnb50 := NB166_165.out
             have hnc50 := NB165_166.out
             have hcz51_0 : w46.cell? ⟨gb166, 0, none⟩ = some (.bool ((bt t163 0) == 108)) := (zq BK166.out 0).trans rfl
             have hcz51_1 : w46.cell? ⟨gb166, 1, none⟩ = some (u167001) := (zq BK166.out 1).trans rfl
             have hcz51_2 : w46.cell? ⟨gb166, 2, none⟩ = some (u167002) := (zq BK166.out 2).trans rfl
             have hcz51_3 : w46.cell? ⟨gb166, 3, none⟩ = some (u167003) := (zq BK166.out 3).trans rfl
             have hfz51_0 := zu BK166.out 0
             have hfz51_1 := zu BK166.out 1
             have hfz51_2 := zu BK166.out 2
             have hfz51_3 := zu BK166.out 3
             try go_wp2
             have n0_ : Aside0 (Kd.R Kd.string 9 (w46.setCell ⟨gb166, 1, none⟩ (.slice Ao47 y177.length co47)) w.heap.size (fun k_ => some k_ ≠ (.slice Ao47 y177.length co47 : Value).ownBlock) u167002 x167002_2) := ⟨by (with_reducible repeat (first | apply zd | apply ze | apply zf)); exact zm (zn (p := ⟨gb166, 1, none⟩) (zt HO_167002.out BK166.out (by decide)) (fun _ hk => hk.2) (.slice Ao47 y177.length co47)) (fun _ hk => hk.1.2)⟩
             have n1_ : Aside0 (Kd.R (Kd.int .i64) 3 (w46.setCell ⟨gb166, 1, none⟩ (.slice Ao47 y177.length co47)) w.heap.size (fun _ => True) u167003 x167003_2) := ⟨by (with_reducible repeat (first | apply zd | apply ze | apply zf)); exact zm (zn (p := ⟨gb166, 1, none⟩) (zt HO_167003.out BK166.out (by decide)) (fun _ hk => hk.2) (.slice Ao47 y177.length co47)) (fun _ hk => trivial)⟩
             have n2_ : Aside0 (Kd.R Kd.string 9 (w46.setCell ⟨gb166, 1, none⟩ (.slice Ao47 y177.length co47)) w.heap.size (fun k_ => some k_ ≠ (u167002 : Value).ownBlock) (.slice Ao47 y177.length co47) y177) := ⟨by (with_reducible repeat (first | apply zd | apply ze | apply zf)); exact zm (zn (p := ⟨gb166, 1, none⟩) (zt HO179.out BK166.out (by decide)) (fun _ hk => hk.2) (.slice Ao47 y177.length co47)) (fun _ hk => hk.1)⟩
             have n3_ : Aside0 ((w46.setCell ⟨gb166, 1, none⟩ (.slice Ao47 y177.length co47)).heap[gb162]? = some (.cells #[.bool false, .slice none 0 0, .slice none 0 0, .slice none 0 0] 29 (0, 0))) := ⟨by (with_reducible repeat (first | refine za ?_ _ | refine zb ?_ | refine zc ?_ _)); refine blk_far ?_ NB162_166.out _; (with_reducible repeat (first | refine za ?_ _ | refine zb ?_ | refine zc ?_ _)); exact BK162.out⟩
             have n4_ : Aside0 ((w46.setCell ⟨gb166, 1, none⟩ (.slice Ao47 y177.length co47)).heap[gb166]? = some (.cells #[.bool ((bt t163 0) == 108), .slice Ao47 y177.length co47, u167002, u167003] 29 (0, 0))) := ⟨by (with_reducible repeat (first | refine za ?_ _ | refine zb ?_ | refine zc ?_ _)); refine zp (cs := #[.bool ((bt t163 0) == 108), u167001, u167002, u167003]) ?_ 1 _ rfl; (with_reducible repeat (first | refine za ?_ _ | refine zb ?_ | refine zc ?_ _)); exact BK166.out⟩
             have n5_ : Aside0 (IsS130 w (w46.setCell ⟨gb166, 1, none⟩ (.slice Ao47 y177.length co47)) gb165 t174 t175 t176) := ⟨by repeat (first | (with_reducible first | exact HI165.out | apply IsS130.alloc | apply IsS130.drewN | apply IsS130.drew | apply IsS130.set_0 | apply IsS130.set_1 | apply IsS130.set_2 | apply IsS130.far (hne := NB165_162.out) | apply IsS130.far (hne := NB165_166.out)) | apply IsS130.far (hne := NB165_162.out) | apply IsS130.far (hne := NB165_166.out) | exact HI165.out)⟩
             have n6_ : Aside0 (Below w.heap.size w (w46.setCell ⟨gb166, 1, none⟩ (.slice Ao47 y177.length co47))) := ⟨by repeat (first | (with_reducible first | exact HB.out | apply zg | apply zh | apply zi | refine zr ?_ (IsS130.ge HI165.out) | refine zr ?_ GE162.out | refine zr ?_ GE166.out) | exact HB.out)⟩
             (try clear HO_167002)
             (try clear HO_167003)
             (try clear HO179)
             (try clear BK162)
             (try clear BK166)
             (try clear HI165)
             (try clear HB)
             generalize (w46.setCell ⟨gb166, 1, none⟩ (.slice Ao47 y177.length co47)) = w52 at n0_ n1_ n2_ n3_ n4_ n5_ n6_ ⊢
             have HO_167002 := n0_
             have HO_167003 := n1_
             have HO179 := n2_
             have BK162 := n3_
             have BK166 := n4_
             have HI165 := n5_
             have HB := n6_
             clear n0_ n1_ n2_ n3_ n4_ n5_ n6_
             have n0_ := zj (zf HO_167002.out)
             have n1_ := zj (zf HO_167003.out)
             have n2_ := zj (zf HO179.out)
             have n3_ := zj (zb BK162.out)
             have n4_ := zj (zb BK166.out)
             have n5_ := zj (IsS130.drew HI165.out)
             have n6_ := zj (zi HB.out)
             clear HO_167002
             clear HO_167003
             clear HO179
             clear BK162
             clear BK166
             clear HI165
             clear HB
             have HO_167002 := n0_
             have HO_167003 := n1_
             have HO179 := n2_
             have BK162 := n3_
             have BK166 := n4_
             have HI165 := n5_
             have HB := n6_
             clear n0_ n1_ n2_ n3_ n4_ n5_ n6_
             refine start_ (n := 8) (S := fun w' => w'.cell? ⟨gb166, 0, none⟩ = some (.bool ((bt t163 0) == 108)) ∧ w'.cell? ⟨gb166, 1, none⟩ = some (.slice Ao47 y177.length co47) ∧ w'.cell? ⟨gb166, 2, none⟩ = some (u167002) ∧ w'.cell? ⟨gb166, 3, none⟩ = some (u167003)) (ds := [7]) #[false, false, false, false, false, false, false, false] (by kernel_rfl) rfl rfl ⟨(zq BK166.out 0).trans rfl, (zq BK166.out 1).trans rfl, (zq BK166.out 2).trans rfl, (zq BK166.out 3).trans rfl⟩ (fun hHeld => ?_); refine with_tabW spec_ReadNode.tab13 spec_ReadNode.bits13 (fun HT_ HW_ => ?_)
             generalize w52.drew = w53 at HO_167002 HO_167003 HO179 BK162 BK166 HI165 HB hHeld ⊢
             refine pure_ (i := 0) (N := some 66) (v := ?_) (a' := ?_) #[true, false, false, false, false, false, false, false] rfl rfl (any_of HT_.out (by kernel_rfl)) (fun _ _ _ h => h) (Or.inl ⟨by rfl, ?_⟩) ?_ ?_
             rotate_left
             ·intro w'
              go_simp
              with_reducible rfl
             rotate_left
             ·simp only [Act.put, List.setIfInBounds_toArray, List.set_cons_zero, List.set_cons_succ, i64_w, i32_w]
              rfl
             refine pure_ (i := 2) (N := some 68) (v := ?_) (a' := ?_) #[true, false, true, false, false, false, false, false] rfl rfl (any_of HT_.out (by kernel_rfl)) (fun _ _ _ h => h) (Or.inl ⟨by rfl, ?_⟩) ?_ ?_
             rotate_left
             ·intro w'
              go_simp
              with_reducible rfl
             rotate_left
             ·simp only [Act.put, List.setIfInBounds_toArray, List.set_cons_zero, List.set_cons_succ, i64_w, i32_w]
              rfl
             refine take_ (i := 1) (N := some 67) (v := ?_) (a' := ?_) #[true, true, true, false, false, false, false, false] rfl rfl (take_ofW HT_.out HW_.out (by kernel_rfl)) (fun _ _ _ h => h) (Or.inl ⟨by rfl, ?_⟩) hHeld ?_ ?_
             rotate_left
             ·rintro w' ⟨s0, s1, s2, s3⟩
              go_simp
              with_reducible rfl
             rotate_left
             ·simp only [Act.put, List.setIfInBounds_toArray, List.set_cons_zero, List.set_cons_succ, i64_w, i32_w]
              rfl
             refine one_ (i := 3) (N := some 69) #[true, true, true, true, false, false, false, false] rfl rfl (one_of HT_.out (by kernel_rfl)) (by decide) (fun K hK => ?_)
             refine goes_ Try.func127 (by kernel_rfl) rfl #[.pointer (some ⟨gb165, 0, none⟩)] (by rfl) rfl rfl (by (try simp only [List.map_toArray, List.map_cons, List.map_nil]); first | done | rfl | (simp only [List.length_drop, List.length_take]; rfl)) ?_
             with_reducible refine (spec_l04Var.calls kj17 gb165 t174 t175 t176 t187 t188 t189 t190 w _ ?side1 ?side2 A42.out).mono ?_
             (case side1 => repeat (first | (with_reducible first | exact HI165.out | apply IsS130.alloc | apply IsS130.drewN | apply IsS130.drew | apply IsS130.set_0 | apply IsS130.set_1 | apply IsS130.set_2 | apply IsS130.far (hne := NB165_162.out) | apply IsS130.far (hne := NB165_166.out)) | apply IsS130.far (hne := NB165_162.out) | apply IsS130.far (hne := NB165_166.out) | exact HI165.out))
             (case side2 => repeat (first | (with_reducible first | exact HB.out | apply zg | apply zh | apply zi | refine zr ?_ (IsS130.ge HI165.out) | refine zr ?_ GE162.out | refine zr ?_ GE166.out) | exact HB.out))
             rintro e w54 ⟨rfl, hi, hb, hk⟩
             refine ⟨_, rfl, ?_⟩
             have n0_ := zj (zm (Kd.R_keep (IsS130.apart (show IsS130 w _ gb165 t174 t175 t176 from by repeat (first | (with_reducible first | exact HI165.out | apply IsS130.alloc | apply IsS130.drewN | apply IsS130.drew | apply IsS130.set_0 | apply IsS130.set_1 | apply IsS130.set_2 | apply IsS130.far (hne := NB165_162.out) | apply IsS130.far (hne := NB165_166.out)) | apply IsS130.far (hne := NB165_162.out) | apply IsS130.far (hne := NB165_166.out) | exact HI165.out)) (by (with_reducible repeat (first | apply zd | apply ze | apply zf)); exact HO_167002.out) (by decide)) hk (fun _ h => h.2)) (fun _ h => h.1))
             have n1_ := zj (zm (Kd.R_keep (IsS130.apart (show IsS130 w _ gb165 t174 t175 t176 from by repeat (first | (with_reducible first | exact HI165.out | apply IsS130.alloc | apply IsS130.drewN | apply IsS130.drew | apply IsS130.set_0 | apply IsS130.set_1 | apply IsS130.set_2 | apply IsS130.far (hne := NB165_162.out) | apply IsS130.far (hne := NB165_166.out)) | apply IsS130.far (hne := NB165_162.out) | apply IsS130.far (hne := NB165_166.out) | exact HI165.out)) (by (with_reducible repeat (first | apply zd | apply ze | apply zf)); exact HO_167003.out) (by decide)) hk (fun _ h => h.2)) (fun _ h => h.1))
             have n2_ := zj (KeepBut.blk hk (g' := gb162) (o := .cells #[.bool false, .slice none 0 0, .slice none 0 0, .slice none 0 0] 29 (0, 0)) (by (with_reducible repeat (first | refine za ?_ _ | refine zb ?_ | refine zc ?_ _)); exact BK162.out) NB162_165.out (by simp))
             have n3_ := zj (KeepBut.blk hk (g' := gb166) (o := .cells #[.bool ((bt t163 0) == 108), .slice Ao47 y177.length co47, u167002, u167003] 29 (0, 0)) (by (with_reducible repeat (first | refine za ?_ _ | refine zb ?_ | refine zc ?_ _)); exact BK166.out) NB166_165.out (by simp))
             have n4_ := zj (zm (Kd.R_keep (IsS130.apart (show IsS130 w _ gb165 t174 t175 t176 from by repeat (first | (with_reducible first | exact HI165.out | apply IsS130.alloc | apply IsS130.drewN | apply IsS130.drew | apply IsS130.set_0 | apply IsS130.set_1 | apply IsS130.set_2 | apply IsS130.far (hne := NB165_162.out) | apply IsS130.far (hne := NB165_166.out)) | apply IsS130.far (hne := NB165_162.out) | apply IsS130.far (hne := NB165_166.out) | exact HI165.out)) (by (with_reducible repeat (first | apply zd | apply ze | apply zf)); exact HO179.out) (by decide)) hk (fun _ h => h.2)) (fun _ h => h.1))
             have n5_ := zj (hb)
             have n6_ := zj (hi)
             clear HO_167002
             clear HO_167003
             clear BK162
             clear BK166
             clear HO179
             clear HB
             clear HI165
             have HO_167002 := n0_
             have HO_167003 := n1_
             have BK162 := n2_
             have BK166 := n3_
             have HO179 := n4_
             have HB := n5_
             have HI165 := n6_
             clear n0_ n1_ n2_ n3_ n4_ n5_ n6_
             (try clear hb)
             (try clear hb2)
             (try clear hk)
             (try clear hi)
             refine hK.out _ _ ⟨(zq BK166.out 0).trans rfl, (zq BK166.out 1).trans rfl, (zq BK166.out 2).trans rfl, (zq BK166.out 3).trans rfl⟩ (fun hHeld => ?_)
             clear hK K
             refine norm_ (a' := ?_) ?_ ?_
             rotate_left
             ·show Act.put _ (some 69) _ = _
              simp only [Act.put, List.setIfInBounds_toArray, List.set_cons_zero, List.set_cons_succ, i64_w, i32_w]
              rfl
             refine one_ (i := 4) (N := some 70) #[true, true, true, true, true, false, false, false] rfl rfl (one_of HT_.out (by kernel_rfl)) (by decide) (fun K hK => ?_)
             refine value_ (w1 := ?_) (v := ?_) (by rfl) rfl ?_ ?_
             rotate_left 2
             ·go_simp
              constructor
              ·rfl
              ·rfl
             refine hK.out _ _ ⟨(zq (zc BK166.out _) 0).trans rfl, (zq (zc BK166.out _) 1).trans rfl, (zq (zc BK166.out _) 2).trans rfl, (zq (zc BK166.out _) 3).trans rfl⟩ (fun hHeld => ?_)
             clear hK K
             refine norm_ (a' := ?_) ?_ ?_
             rotate_left
             ·show Act.put _ (some 70) _ = _
              simp only [Act.put, List.setIfInBounds_toArray, List.set_cons_zero, List.set_cons_succ, i64_w, i32_w]
              rfl
             refine one_ (i := 5) (N := some 71) #[true, true, true, true, true, true, false, false] rfl rfl (one_of HT_.out (by kernel_rfl)) (by decide) (fun K hK => ?_)
             refine Kd.R_append_step (Kd.int .i64) (w0 := w) w.heap.size (by rfl) (.tmp 67) (.tmp 70) 23 3 (.int .i64 0) 8 rfl Try.underlying23 info3 rfl (by decide) (by omega) u167003 x167003_2 t187 [.int .i64 t187] (fun _ => True) (fun _ => False) rfl rfl ?aP (fun _ hk => hk.elim) ?aF ?aO ?aB ?aS ?aL ?_
             (case aP => exact rfl)
             (case aB => exact (by repeat (first | (with_reducible first | exact HB.out | apply zg | apply zh | apply zi | refine zr ?_ (IsS130.ge HI165.out) | refine zr ?_ GE162.out | refine zr ?_ GE166.out) | exact HB.out)))
             (case aF => exact (fun _ _ => trivial))
             (case aO => exact (by (with_reducible repeat (first | apply zd | apply ze | apply zf)); exact HO_167003.out))
             (case aS => exact (zk (by repeat (first | (with_reducible first | exact HB.out | apply zg | apply zh | apply zi | refine zr ?_ (IsS130.ge HI165.out) | refine zr ?_ GE162.out | refine zr ?_ GE166.out) | exact HB.out))))
             (case aL => have := LMc43.out; omega)
             intro v192 w55 ho hb hg hat
             rw [← Ny191.out] at ho
             have n0_ := zj (Kd.R_over' (by (with_reducible repeat (first | apply zd | apply ze | apply zf)); exact HO_167002.out) (Kd.R_typed (by (with_reducible repeat (first | apply zd | apply ze | apply zf)); exact HO_167003.out)) (by decide) hg)
             have n1_ := zj (blk_grown (g := gb162) (o := .cells #[.bool false, .slice none 0 0, .slice none 0 0, .slice none 0 0] 29 (0, 0)) (by (with_reducible repeat (first | refine za ?_ _ | refine zb ?_ | refine zc ?_ _)); exact BK162.out) hg (Kd.R_ne HO_167003.out BK162.out (by decide)))
             have n2_ := zj (blk_grown (g := gb166) (o := .cells #[.bool ((bt t163 0) == 108), .slice Ao47 y177.length co47, u167002, u167003] 29 (0, 0)) (by (with_reducible repeat (first | refine za ?_ _ | refine zb ?_ | refine zc ?_ _)); exact BK166.out) hg (Kd.R_ne HO_167003.out BK166.out (by decide)))
             have n3_ := zj (IsS130.grown (by repeat (first | (with_reducible first | exact HI165.out | apply IsS130.alloc | apply IsS130.drewN | apply IsS130.drew | apply IsS130.set_0 | apply IsS130.set_1 | apply IsS130.set_2 | apply IsS130.far (hne := NB165_162.out) | apply IsS130.far (hne := NB165_166.out)) | apply IsS130.far (hne := NB165_162.out) | apply IsS130.far (hne := NB165_166.out) | exact HI165.out)) hg (IsS130.own_ne HI165.out HO_167003.out (by decide)))
             have n4_ := zj (Kd.R_over' (by (with_reducible repeat (first | apply zd | apply ze | apply zf)); exact HO179.out) (Kd.R_typed (by (with_reducible repeat (first | apply zd | apply ze | apply zf)); exact HO_167003.out)) (by decide) hg)
             have n5_ := zj (hb)
             have n6_ := zj (ho)
             clear HO_167002
             clear BK162
             clear BK166
             clear HI165
             clear HO179
             clear HB
             clear HO_167003
             have HO_167002 := n0_
             have BK162 := n1_
             have BK166 := n2_
             have HI165 := n3_
             have HO179 := n4_
             have HB := n5_
             have HO193 := n6_
             clear n0_ n1_ n2_ n3_ n4_ n5_ n6_
             clear ho hb hg hat
             obtain ⟨Ao56, co56, eo56⟩ := Kd.R_slice HO193.out
             (first | subst eo56 | (injection eo56 with f1_ f2_ f3_; have f4_ := f1_.symm; have f5_ := f3_.symm; clear f1_ f2_ f3_; subst f4_; subst f5_))
             refine hK.out _ _ ⟨(zq BK166.out 0).trans rfl, (zq BK166.out 1).trans rfl, (zq BK166.out 2).trans rfl, (zq BK166.out 3).trans rfl⟩ (fun hHeld => ?_)
             clear hK K
             refine norm_ (a' := ?_) ?_ ?_
             rotate_left
             ·show Act.put _ (some 71) _ = _
              simp only [Act.put, List.setIfInBounds_toArray, List.set_cons_zero, List.set_cons_succ, i64_w, i32_w]
              rfl
             refine pure_ (i := 6) (N := some 72) (v := ?_) (a' := ?_) #[true, true, true, true, true, true, true, false] rfl rfl (any_of HT_.out (by kernel_rfl)) (fun _ _ _ h => h) (Or.inl ⟨by rfl, ?_⟩) ?_ ?_
             rotate_left
             ·intro w'
              go_simp
              with_reducible rfl
             rotate_left
             ·simp only [Act.put, List.setIfInBounds_toArray, List.set_cons_zero, List.set_cons_succ, i64_w, i32_w]
              rfl
             refine last_ (i := 7) (N := none) #[true, true, true, true, true, true, true, true] rfl rfl (one_of HT_.out (by kernel_rfl)) (by decide) (fun K hK => ?_)
             have hs57 : w55.cell? ⟨gb166, 3, none⟩ = some (u167003) := (zq BK166.out 3).trans rfl
             have hfs57 := zu BK166.out 3
             have hns57_0 := NB162_166.out
             have hms57_0 := NB166_162.out
             refine skip_ (w1 := ?_) (by rfl) rfl ?_ ?_
             rotate_left
             ·go_simp
              rfl
             refine hK.out _ _ ?_
             clear hK K
             refine done_ (done_of HT_.out (by kernel_rfl)) ?_
             try go_wp2
             go_roundg kj17
             case measure => have := HJ2.out; have := HK2.out; have := HJ17.out; omega
             case rel => exact ⟨(wrap64 (x9_2 + 1)), (t188), (t189), (t190), (y177), (x167002_2), (y191), (.slice Ao47 y177.length co47), (u167002), (.slice Ao56 y191.length co56), (by first | rfl | (simp; done) | (simp [*]; done)), H', ⟨by have := HJ2.out; have := HK2.out; have := HJ17.out; omega⟩, ⟨by (with_reducible repeat (first | apply zd | apply ze | apply zf)); exact zm (zn (p := ⟨gb166, 3, none⟩) (zt HO179.out BK166.out (by decide)) (fun _ hk => hk.2) (.slice Ao56 y191.length co56)) (fun _ hk => hk.1)⟩, ⟨by (with_reducible repeat (first | apply zd | apply ze | apply zf)); exact zm (zn (p := ⟨gb166, 3, none⟩) (zt HO_167002.out BK166.out (by decide)) (fun _ hk => hk.2) (.slice Ao56 y191.length co56)) (fun _ hk => hk.1)⟩, ⟨by (with_reducible repeat (first | apply zd | apply ze | apply zf)); exact zm (zn (p := ⟨gb166, 3, none⟩) (zt HO193.out BK166.out (by decide)) (fun _ hk => hk.2) (.slice Ao56 y191.length co56)) (fun _ hk => trivial)⟩, ⟨by (with_reducible repeat (first | refine za ?_ _ | refine zb ?_ | refine zc ?_ _)); refine blk_far ?_ NB162_166.out _; (with_reducible repeat (first | refine za ?_ _ | refine zb ?_ | refine zc ?_ _)); exact BK162.out⟩, ⟨by (with_reducible repeat (first | refine za ?_ _ | refine zb ?_ | refine zc ?_ _)); refine zp (cs := #[.bool ((bt t163 0) == 108), .slice Ao47 y177.length co47, u167002, u167003]) ?_ 3 _ rfl; (with_reducible repeat (first | refine za ?_ _ | refine zb ?_ | refine zc ?_ _)); exact BK166.out⟩, ⟨by repeat (first | (with_reducible first | exact HI165.out | apply IsS130.alloc | apply IsS130.drewN | apply IsS130.drew | apply IsS130.set_0 | apply IsS130.set_1 | apply IsS130.set_2 | apply IsS130.far (hne := NB165_162.out) | apply IsS130.far (hne := NB165_166.out)) | apply IsS130.far (hne := NB165_162.out) | apply IsS130.far (hne := NB165_166.out) | exact HI165.out)⟩, ⟨by repeat (first | (with_reducible first | exact HB.out | apply zg | apply zh | apply zi | refine zr ?_ (IsS130.ge HI165.out) | refine zr ?_ GE162.out | refine zr ?_ GE166.out) | exact HB.out)⟩⟩
            ·rw [if_neg c43] at H
             exact absurd H (by simp)
          ·rw [if_neg c24] at H
           exact absurd H (by simp)
         ·replace c22 := Bool.eq_false_iff.mpr c22
          subst c22
          have H1 : ((spec_NodeText.f kj17 ((bt t163 0) == 108) x167001_2 x167002_2 x167003_2).bind fun bt171 => (if x166002_2 = true then (some (false, ([] : List ByteArray), ([] : List ByteArray), ([] : List Int), false)) else (if bt171.2 = true then (if bt171.1.toList = a0.toList then (some (((bt t163 0) == 108), x167001_2, x167002_2, x167003_2, true)) else (some (false, ([] : List ByteArray), ([] : List ByteArray), ([] : List Int), false))) else (some (false, ([] : List ByteArray), ([] : List ByteArray), ([] : List Int), false))))) = some (r1, r2, r3, r4, r5) := by rw [if_neg (show ¬ (false = true) by decide)] at H; exact H
          clear H
          have H := H1
          clear H1
          replace H := Option.bind_eq_some_iff.mp H
          obtain ⟨⟨t171, t172⟩, A580, H⟩ := H
          replace H : (if x166002_2 = true then (some (false, ([] : List ByteArray), ([] : List ByteArray), ([] : List Int), false)) else (if t172 = true then (if t171.toList = a0.toList then (some (((bt t163 0) == 108), x167001_2, x167002_2, x167003_2, true)) else (some (false, ([] : List ByteArray), ([] : List ByteArray), ([] : List Int), false))) else (some (false, ([] : List ByteArray), ([] : List ByteArray), ([] : List Int), false)))) = some (r1, r2, r3, r4, r5) := H
          have A58 := zj A580
          clear A580
          by_cases c59 : x166002_2 = true
          ·subst c59
           have H1 : (some (false, ([] : List ByteArray), ([] : List ByteArray), ([] : List Int), false)) = some (r1, r2, r3, r4, r5) := by rw [if_pos rfl] at H; exact H
           clear H
           have H := H1
           clear H1
           simp only [Option.some.injEq, Prod.mk.injEq] at H
           obtain ⟨rfl, rfl, rfl, rfl, rfl⟩ := H
           have hnb60 := NB166_162.out
           have hnc60 := NB162_166.out
           have hnb61 := NB166_165.out
           have hnc61 := NB165_166.out
           have hcz62_0 : wc.cell? ⟨gb166, 0, none⟩ = some (.bool ((bt t163 0) == 108)) := (zq BK166.out 0).trans rfl
           have hcz62_1 : wc.cell? ⟨gb166, 1, none⟩ = some (u167001) := (zq BK166.out 1).trans rfl
           have hcz62_2 : wc.cell? ⟨gb166, 2, none⟩ = some (u167002) := (zq BK166.out 2).trans rfl
           have hcz62_3 : wc.cell? ⟨gb166, 3, none⟩ = some (u167003) := (zq BK166.out 3).trans rfl
           have hfz62_0 := zu BK166.out 0
           have hfz62_1 := zu BK166.out 1
           have hfz62_2 := zu BK166.out 2
           have hfz62_3 := zu BK166.out 3
           obtain ⟨Ao63, co63, eo63⟩ := Kd.R_slice HO_167001.out
           subst eo63
           obtain ⟨Ao64, co64, eo64⟩ := Kd.R_slice HO_167002.out
           subst eo64
           obtain ⟨Ao65, co65, eo65⟩ := Kd.R_slice HO_167003.out
           subst eo65
           go_wp2_with (first | ((with_reducible refine gate_callee (f := 15) rfl ?_); refine goesL_ (some 75) rfl rfl Try.func15 (by kernel_rfl) rfl #[.agg #[.bool ((bt t163 0) == 108), .slice Ao63 x167001_2.length co63, .slice Ao64 x167002_2.length co64, .slice Ao65 x167003_2.length co65]] rfl (by (try simp only [List.map_toArray, List.map_cons, List.map_nil]); first | done | rfl | (simp only [List.length_drop, List.length_take]; rfl)) ?_; (with_reducible refine (spec_NodeText.calls kj17 ((bt t163 0) == 108) _ _ x167001_2 _ _ x167002_2 _ _ x167003_2 t171 t172 _ ?side1 ?side2 ?side3 ?side4 ?side5 ?side6 A58.out).mono ?_); (case side1 => repeat (first | exact (Kd.R_reads' HO_167001.out).2.2 | (with_reducible refine Kd.C_alloc ?_ _) | (with_reducible refine Kd.C_drewN ?_ _) | (with_reducible refine Kd.C_drew ?_))); (case side2 => exact (Kd.R_reads' HO_167001.out).2.1); (case side3 => repeat (first | exact (Kd.R_reads' HO_167002.out).2.2 | (with_reducible refine Kd.C_alloc ?_ _) | (with_reducible refine Kd.C_drewN ?_ _) | (with_reducible refine Kd.C_drew ?_))); (case side4 => exact (Kd.R_reads' HO_167002.out).2.1); (case side5 => repeat (first | exact (Kd.R_reads' HO_167003.out).2.2 | (with_reducible refine Kd.C_alloc ?_ _) | (with_reducible refine Kd.C_drewN ?_ _) | (with_reducible refine Kd.C_drew ?_))); (case side6 => exact (Kd.R_reads' HO_167003.out).2.1); rintro e w66 ⟨rfl, hb⟩; refine ⟨_, rfl, ?_⟩; have n0_ := zj (zs (by (with_reducible repeat (first | apply zd | apply ze | apply zf)); exact HO_167001.out) hb); have n1_ := zj (zs (by (with_reducible repeat (first | apply zd | apply ze | apply zf)); exact HO_167002.out) hb); have n2_ := zj (zs (by (with_reducible repeat (first | apply zd | apply ze | apply zf)); exact HO_167003.out) hb); have n3_ := zj (zo (g := gb162) (o := .cells #[.bool false, .slice none 0 0, .slice none 0 0, .slice none 0 0] 29 (0, 0)) (by (with_reducible repeat (first | refine za ?_ _ | refine zb ?_ | refine zc ?_ _)); exact BK162.out) hb); have n4_ := zj (zo (g := gb166) (o := .cells #[.bool ((bt t163 0) == 108), .slice Ao63 x167001_2.length co63, .slice Ao64 x167002_2.length co64, .slice Ao65 x167003_2.length co65] 29 (0, 0)) (by (with_reducible repeat (first | refine za ?_ _ | refine zb ?_ | refine zc ?_ _)); exact BK166.out) hb); have n5_ := zj (IsS130.below (by repeat (first | (with_reducible first | exact HI165.out | apply IsS130.alloc | apply IsS130.drewN | apply IsS130.drew | apply IsS130.set_0 | apply IsS130.set_1 | apply IsS130.set_2 | apply IsS130.far (hne := NB165_162.out) | apply IsS130.far (hne := NB165_166.out)) | apply IsS130.far (hne := NB165_162.out) | apply IsS130.far (hne := NB165_166.out) | exact HI165.out)) hb); have n6_ := zj (zl (by repeat (first | (with_reducible first | exact HB.out | apply zg | apply zh | apply zi | refine zr ?_ (IsS130.ge HI165.out) | refine zr ?_ GE162.out | refine zr ?_ GE166.out) | exact HB.out)) hb); clear HO_167001; clear HO_167002; clear HO_167003; clear BK162; clear BK166; clear HI165; clear HB; have HO_167001 := n0_; have HO_167002 := n1_; have HO_167003 := n2_; have BK162 := n3_; have BK166 := n4_; have HI165 := n5_; have HB := n6_; clear n0_ n1_ n2_ n3_ n4_ n5_ n6_; (try clear hb); (try clear hb2); (try clear hk); (try clear hi); obtain ⟨HGz67, hgz67⟩ := HI165.out; have hcz67_0 := cellS130_0 HGz67; have hcz67_1 := cellS130_1 HGz67; have hcz67_2 := cellS130_2 HGz67; have hfz67_0 := zu HGz67 0; have hfz67_1 := zu HGz67 1; have hfz67_2 := zu HGz67 2; clear HGz67 hgz67; have hnb68 := NB162_165.out; have hnc68 := NB165_162.out; have hcz69_0 : w66.cell? ⟨gb162, 0, none⟩ = some (.bool false) := (zq BK162.out 0).trans rfl; have hcz69_1 : w66.cell? ⟨gb162, 1, none⟩ = some (.slice none 0 0) := (zq BK162.out 1).trans rfl; have hcz69_2 : w66.cell? ⟨gb162, 2, none⟩ = some (.slice none 0 0) := (zq BK162.out 2).trans rfl; have hcz69_3 : w66.cell? ⟨gb162, 3, none⟩ = some (.slice none 0 0) := (zq BK162.out 3).trans rfl; have hfz69_0 := zu BK162.out 0; have hfz69_1 := zu BK162.out 1; have hfz69_2 := zu BK162.out 2; have hfz69_3 := zu BK162.out 3))
           refine bodyPost_ret (results_ct rfl _ _ gb162 29 #[.bool false, .slice none 0 0, .slice none 0 0, .slice none 0 0] (0, 0) _ rfl (by (with_reducible repeat (first | refine za ?_ _ | refine zb ?_ | refine zc ?_ _)); refine zp (cs := #[.bool false, .slice none 0 0, .slice none 0 0, .slice none 0 0]) ?_ 3 _ rfl; (with_reducible repeat (first | refine za ?_ _ | refine zb ?_ | refine zc ?_ _)); refine zp (cs := #[.bool false, .slice none 0 0, .slice none 0 0, .slice none 0 0]) ?_ 2 _ rfl; (with_reducible repeat (first | refine za ?_ _ | refine zb ?_ | refine zc ?_ _)); refine zp (cs := #[.bool false, .slice none 0 0, .slice none 0 0, .slice none 0 0]) ?_ 1 _ rfl; (with_reducible repeat (first | refine za ?_ _ | refine zb ?_ | refine zc ?_ _)); refine zp (cs := #[.bool false, .slice none 0 0, .slice none 0 0, .slice none 0 0]) ?_ 0 _ rfl; (with_reducible repeat (first | refine za ?_ _ | refine zb ?_ | refine zc ?_ _)); exact BK162.out) Try.underlying29 rfl (by kernel_rfl)) rfl ?_
           exact ⟨_, _, _, by first | rfl | (simp [errW_none, errW_some] <;> rfl) | (simp [*, errW_none, errW_some] <;> rfl), by first | exact Kd.R_nil _ _ _ _ _ | exact Kd.N_nil _ _ _ _ _ | exact Kd.V_nil _ _ _ _ _ | exact Kd.Q_nil _ _ _ _ _ | exact Kd.S_nil _ _ _ _ _, by first | exact Kd.R_nil _ _ _ _ _ | exact Kd.N_nil _ _ _ _ _ | exact Kd.V_nil _ _ _ _ _ | exact Kd.Q_nil _ _ _ _ _ | exact Kd.S_nil _ _ _ _ _, by first | exact Kd.R_nil _ _ _ _ _ | exact Kd.N_nil _ _ _ _ _ | exact Kd.V_nil _ _ _ _ _ | exact Kd.Q_nil _ _ _ _ _ | exact Kd.S_nil _ _ _ _ _, by repeat (first | (with_reducible first | exact HB.out | apply zg | apply zh | apply zi | refine zr ?_ (IsS130.ge HI165.out) | refine zr ?_ GE162.out | refine zr ?_ GE166.out) | exact HB.out)⟩
          ·replace c59 := Bool.eq_false_iff.mpr c59
           subst c59
           have H1 : (if t172 = true then (if t171.toList = a0.toList then (some (((bt t163 0) == 108), x167001_2, x167002_2, x167003_2, true)) else (some (false, ([] : List ByteArray), ([] : List ByteArray), ([] : List Int), false))) else (some (false, ([] : List ByteArray), ([] : List ByteArray), ([] : List Int), false))) = some (r1, r2, r3, r4, r5) := by rw [if_neg (show ¬ (false = true) by decide)] at H; exact H
           clear H
           have H := H1
           clear H1
           by_cases c70 : t172 = true
           ·subst c70
            have H1 : (if t171.toList = a0.toList then (some (((bt t163 0) == 108), x167001_2, x167002_2, x167003_2, true)) else (some (false, ([] : List ByteArray), ([] : List ByteArray), ([] : List Int), false))) = some (r1, r2, r3, r4, r5) := by rw [if_pos rfl] at H; exact H
            clear H
            have H := H1
            clear H1
            by_cases c71 : t171.toList = a0.toList
            ·rw [if_pos c71] at H
             have c71b0 : (t171.toList == a0.toList) = true := beq_iff_eq.mpr c71
             have c71b1 : (t171.toList != a0.toList) = false := bne_eq_false_iff_eq.mpr c71
             clear c71
             simp only [Option.some.injEq, Prod.mk.injEq] at H
             obtain ⟨rfl, rfl, rfl, rfl, rfl⟩ := H
             have hnb72 := NB166_162.out
             have hnc72 := NB162_166.out
             have hnb73 := NB166_165.out
             have hnc73 := NB165_166.out
             have hcz74_0 : wc.cell? ⟨gb166, 0, none⟩ = some (.bool ((bt t163 0) == 108)) := (zq BK166.out 0).trans rfl
             have hcz74_1 : wc.cell? ⟨gb166, 1, none⟩ = some (u167001) := (zq BK166.out 1).trans rfl
             have hcz74_2 : wc.cell? ⟨gb166, 2, none⟩ = some (u167002) := (zq BK166.out 2).trans rfl
             have hcz74_3 : wc.cell? ⟨gb166, 3, none⟩ = some (u167003) := (zq BK166.out 3).trans rfl
             have hfz74_0 := zu BK166.out 0
             have hfz74_1 := zu BK166.out 1
             have hfz74_2 := zu BK166.out 2
             have hfz74_3 := zu BK166.out 3
             obtain ⟨Ao75, co75, eo75⟩ := Kd.R_slice HO_167001.out
             subst eo75
             obtain ⟨Ao76, co76, eo76⟩ := Kd.R_slice HO_167002.out
             subst eo76
             obtain ⟨Ao77, co77, eo77⟩ := Kd.R_slice HO_167003.out
             subst eo77
             go_wp2_with (first | ((with_reducible refine gate_callee (f := 15) rfl ?_); refine goesL_ (some 75) rfl rfl Try.func15 (by kernel_rfl) rfl #[.agg #[.bool ((bt t163 0) == 108), .slice Ao75 x167001_2.length co75, .slice Ao76 x167002_2.length co76, .slice Ao77 x167003_2.length co77]] rfl (by (try simp only [List.map_toArray, List.map_cons, List.map_nil]); first | done | rfl | (simp only [List.length_drop, List.length_take]; rfl)) ?_; (with_reducible refine (spec_NodeText.calls kj17 ((bt t163 0) == 108) _ _ x167001_2 _ _ x167002_2 _ _ x167003_2 t171 true _ ?side1 ?side2 ?side3 ?side4 ?side5 ?side6 A58.out).mono ?_); (case side1 => repeat (first | exact (Kd.R_reads' HO_167001.out).2.2 | (with_reducible refine Kd.C_alloc ?_ _) | (with_reducible refine Kd.C_drewN ?_ _) | (with_reducible refine Kd.C_drew ?_))); (case side2 => exact (Kd.R_reads' HO_167001.out).2.1); (case side3 => repeat (first | exact (Kd.R_reads' HO_167002.out).2.2 | (with_reducible refine Kd.C_alloc ?_ _) | (with_reducible refine Kd.C_drewN ?_ _) | (with_reducible refine Kd.C_drew ?_))); (case side4 => exact (Kd.R_reads' HO_167002.out).2.1); (case side5 => repeat (first | exact (Kd.R_reads' HO_167003.out).2.2 | (with_reducible refine Kd.C_alloc ?_ _) | (with_reducible refine Kd.C_drewN ?_ _) | (with_reducible refine Kd.C_drew ?_))); (case side6 => exact (Kd.R_reads' HO_167003.out).2.1); rintro e w78 ⟨rfl, hb⟩; refine ⟨_, rfl, ?_⟩; have n0_ := zj (zs (by (with_reducible repeat (first | apply zd | apply ze | apply zf)); exact HO_167001.out) hb); have n1_ := zj (zs (by (with_reducible repeat (first | apply zd | apply ze | apply zf)); exact HO_167002.out) hb); have n2_ := zj (zs (by (with_reducible repeat (first | apply zd | apply ze | apply zf)); exact HO_167003.out) hb); have n3_ := zj (zo (g := gb162) (o := .cells #[.bool false, .slice none 0 0, .slice none 0 0, .slice none 0 0] 29 (0, 0)) (by (with_reducible repeat (first | refine za ?_ _ | refine zb ?_ | refine zc ?_ _)); exact BK162.out) hb); have n4_ := zj (zo (g := gb166) (o := .cells #[.bool ((bt t163 0) == 108), .slice Ao75 x167001_2.length co75, .slice Ao76 x167002_2.length co76, .slice Ao77 x167003_2.length co77] 29 (0, 0)) (by (with_reducible repeat (first | refine za ?_ _ | refine zb ?_ | refine zc ?_ _)); exact BK166.out) hb); have n5_ := zj (IsS130.below (by repeat (first | (with_reducible first | exact HI165.out | apply IsS130.alloc | apply IsS130.drewN | apply IsS130.drew | apply IsS130.set_0 | apply IsS130.set_1 | apply IsS130.set_2 | apply IsS130.far (hne := NB165_162.out) | apply IsS130.far (hne := NB165_166.out)) | apply IsS130.far (hne := NB165_162.out) | apply IsS130.far (hne := NB165_166.out) | exact HI165.out)) hb); have n6_ := zj (zl (by repeat (first | (with_reducible first | exact HB.out | apply zg | apply zh | apply zi | refine zr ?_ (IsS130.ge HI165.out) | refine zr ?_ GE162.out | refine zr ?_ GE166.out) | exact HB.out)) hb); clear HO_167001; clear HO_167002; clear HO_167003; clear BK162; clear BK166; clear HI165; clear HB; have HO_167001 := n0_; have HO_167002 := n1_; have HO_167003 := n2_; have BK162 := n3_; have BK166 := n4_; have HI165 := n5_; have HB := n6_; clear n0_ n1_ n2_ n3_ n4_ n5_ n6_; (try clear hb); (try clear hb2); (try clear hk); (try clear hi); obtain ⟨HGz79, hgz79⟩ := HI165.out; have hcz79_0 := cellS130_0 HGz79; have hcz79_1 := cellS130_1 HGz79; have hcz79_2 := cellS130_2 HGz79; have hfz79_0 := zu HGz79 0; have hfz79_1 := zu HGz79 1; have hfz79_2 := zu HGz79 2; clear HGz79 hgz79; have hcz80_0 : w78.cell? ⟨gb166, 0, none⟩ = some (.bool ((bt t163 0) == 108)) := (zq BK166.out 0).trans rfl; have hcz80_1 : w78.cell? ⟨gb166, 1, none⟩ = some (.slice Ao75 x167001_2.length co75) := (zq BK166.out 1).trans rfl; have hcz80_2 : w78.cell? ⟨gb166, 2, none⟩ = some (.slice Ao76 x167002_2.length co76) := (zq BK166.out 2).trans rfl; have hcz80_3 : w78.cell? ⟨gb166, 3, none⟩ = some (.slice Ao77 x167003_2.length co77) := (zq BK166.out 3).trans rfl; have hfz80_0 := zu BK166.out 0; have hfz80_1 := zu BK166.out 1; have hfz80_2 := zu BK166.out 2; have hfz80_3 := zu BK166.out 3; have hnb81 := NB162_165.out; have hnc81 := NB165_162.out; have hcz82_0 : w78.cell? ⟨gb162, 0, none⟩ = some (.bool false) := (zq BK162.out 0).trans rfl; have hcz82_1 : w78.cell? ⟨gb162, 1, none⟩ = some (.slice none 0 0) := (zq BK162.out 1).trans rfl; have hcz82_2 : w78.cell? ⟨gb162, 2, none⟩ = some (.slice none 0 0) := (zq BK162.out 2).trans rfl; have hcz82_3 : w78.cell? ⟨gb162, 3, none⟩ = some (.slice none 0 0) := (zq BK162.out 3).trans rfl; have hfz82_0 := zu BK162.out 0; have hfz82_1 := zu BK162.out 1; have hfz82_2 := zu BK162.out 2; have hfz82_3 := zu BK162.out 3))
             refine bodyPost_ret (results_ct rfl _ _ gb162 29 #[.bool ((bt t163 0) == 108), .slice Ao75 x167001_2.length co75, .slice Ao76 x167002_2.length co76, .slice Ao77 x167003_2.length co77] (0, 0) _ rfl (by (with_reducible repeat (first | refine za ?_ _ | refine zb ?_ | refine zc ?_ _)); refine zp (cs := #[.bool ((bt t163 0) == 108), .slice Ao75 x167001_2.length co75, .slice Ao76 x167002_2.length co76, .slice none 0 0]) ?_ 3 _ rfl; (with_reducible repeat (first | refine za ?_ _ | refine zb ?_ | refine zc ?_ _)); refine zp (cs := #[.bool ((bt t163 0) == 108), .slice Ao75 x167001_2.length co75, .slice none 0 0, .slice none 0 0]) ?_ 2 _ rfl; (with_reducible repeat (first | refine za ?_ _ | refine zb ?_ | refine zc ?_ _)); refine zp (cs := #[.bool ((bt t163 0) == 108), .slice none 0 0, .slice none 0 0, .slice none 0 0]) ?_ 1 _ rfl; (with_reducible repeat (first | refine za ?_ _ | refine zb ?_ | refine zc ?_ _)); refine zp (cs := #[.bool false, .slice none 0 0, .slice none 0 0, .slice none 0 0]) ?_ 0 _ rfl; (with_reducible repeat (first | refine za ?_ _ | refine zb ?_ | refine zc ?_ _)); exact BK162.out) Try.underlying29 rfl (by kernel_rfl)) rfl ?_
             exact ⟨_, _, _, by first | rfl | (simp [errW_none, errW_some] <;> rfl) | (simp [*, errW_none, errW_some] <;> rfl), by (with_reducible repeat (first | apply zd | apply ze | apply zf)); exact zm (zn (p := ⟨gb162, 3, none⟩) (zn (p := ⟨gb162, 2, none⟩) (zn (p := ⟨gb162, 1, none⟩) (zn (p := ⟨gb162, 0, none⟩) (zt HO_167001.out BK162.out (by decide)) (fun _ hk => hk.2) (.bool ((bt t163 0) == 108))) (fun _ hk => hk.2) (.slice Ao75 x167001_2.length co75)) (fun _ hk => hk.2) (.slice Ao76 x167002_2.length co76)) (fun _ hk => hk.2) (.slice Ao77 x167003_2.length co77)) (fun _ hk => hk.1), by (with_reducible repeat (first | apply zd | apply ze | apply zf)); exact zm (zn (p := ⟨gb162, 3, none⟩) (zn (p := ⟨gb162, 2, none⟩) (zn (p := ⟨gb162, 1, none⟩) (zn (p := ⟨gb162, 0, none⟩) (zt HO_167002.out BK162.out (by decide)) (fun _ hk => hk.2) (.bool ((bt t163 0) == 108))) (fun _ hk => hk.2) (.slice Ao75 x167001_2.length co75)) (fun _ hk => hk.2) (.slice Ao76 x167002_2.length co76)) (fun _ hk => hk.2) (.slice Ao77 x167003_2.length co77)) (fun _ hk => hk.1), by (with_reducible repeat (first | apply zd | apply ze | apply zf)); exact zm (zn (p := ⟨gb162, 3, none⟩) (zn (p := ⟨gb162, 2, none⟩) (zn (p := ⟨gb162, 1, none⟩) (zn (p := ⟨gb162, 0, none⟩) (zt HO_167003.out BK162.out (by decide)) (fun _ hk => hk.2) (.bool ((bt t163 0) == 108))) (fun _ hk => hk.2) (.slice Ao75 x167001_2.length co75)) (fun _ hk => hk.2) (.slice Ao76 x167002_2.length co76)) (fun _ hk => hk.2) (.slice Ao77 x167003_2.length co77)) (fun _ hk => trivial), by repeat (first | (with_reducible first | exact HB.out | apply zg | apply zh | apply zi | refine zr ?_ (IsS130.ge HI165.out) | refine zr ?_ GE162.out | refine zr ?_ GE166.out) | exact HB.out)⟩
            ·rw [if_neg c71] at H
             have c71b0 : (t171.toList == a0.toList) = false := beq_eq_false_iff_ne.mpr c71
             have c71b1 : (t171.toList != a0.toList) = true := bne_iff_ne.mpr c71
             simp only [Option.some.injEq, Prod.mk.injEq] at H
             obtain ⟨rfl, rfl, rfl, rfl, rfl⟩ := H
             have hnb83 := NB166_162.out
             have hnc83 := NB162_166.out
             have hnb84 := NB166_165.out
             have hnc84 := NB165_166.out
             have hcz85_0 : wc.cell? ⟨gb166, 0, none⟩ = some (.bool ((bt t163 0) == 108)) := (zq BK166.out 0).trans rfl
             have hcz85_1 : wc.cell? ⟨gb166, 1, none⟩ = some (u167001) := (zq BK166.out 1).trans rfl
             have hcz85_2 : wc.cell? ⟨gb166, 2, none⟩ = some (u167002) := (zq BK166.out 2).trans rfl
             have hcz85_3 : wc.cell? ⟨gb166, 3, none⟩ = some (u167003) := (zq BK166.out 3).trans rfl
             have hfz85_0 := zu BK166.out 0
             have hfz85_1 := zu BK166.out 1
             have hfz85_2 := zu BK166.out 2
             have hfz85_3 := zu BK166.out 3
             obtain ⟨Ao86, co86, eo86⟩ := Kd.R_slice HO_167001.out
             subst eo86
             obtain ⟨Ao87, co87, eo87⟩ := Kd.R_slice HO_167002.out
             subst eo87
             obtain ⟨Ao88, co88, eo88⟩ := Kd.R_slice HO_167003.out
             subst eo88
             go_wp2_with (first | ((with_reducible refine gate_callee (f := 15) rfl ?_); refine goesL_ (some 75) rfl rfl Try.func15 (by kernel_rfl) rfl #[.agg #[.bool ((bt t163 0) == 108), .slice Ao86 x167001_2.length co86, .slice Ao87 x167002_2.length co87, .slice Ao88 x167003_2.length co88]] rfl (by (try simp only [List.map_toArray, List.map_cons, List.map_nil]); first | done | rfl | (simp only [List.length_drop, List.length_take]; rfl)) ?_; (with_reducible refine (spec_NodeText.calls kj17 ((bt t163 0) == 108) _ _ x167001_2 _ _ x167002_2 _ _ x167003_2 t171 true _ ?side1 ?side2 ?side3 ?side4 ?side5 ?side6 A58.out).mono ?_); (case side1 => repeat (first | exact (Kd.R_reads' HO_167001.out).2.2 | (with_reducible refine Kd.C_alloc ?_ _) | (with_reducible refine Kd.C_drewN ?_ _) | (with_reducible refine Kd.C_drew ?_))); (case side2 => exact (Kd.R_reads' HO_167001.out).2.1); (case side3 => repeat (first | exact (Kd.R_reads' HO_167002.out).2.2 | (with_reducible refine Kd.C_alloc ?_ _) | (with_reducible refine Kd.C_drewN ?_ _) | (with_reducible refine Kd.C_drew ?_))); (case side4 => exact (Kd.R_reads' HO_167002.out).2.1); (case side5 => repeat (first | exact (Kd.R_reads' HO_167003.out).2.2 | (with_reducible refine Kd.C_alloc ?_ _) | (with_reducible refine Kd.C_drewN ?_ _) | (with_reducible refine Kd.C_drew ?_))); (case side6 => exact (Kd.R_reads' HO_167003.out).2.1); rintro e w89 ⟨rfl, hb⟩; refine ⟨_, rfl, ?_⟩; have n0_ := zj (zs (by (with_reducible repeat (first | apply zd | apply ze | apply zf)); exact HO_167001.out) hb); have n1_ := zj (zs (by (with_reducible repeat (first | apply zd | apply ze | apply zf)); exact HO_167002.out) hb); have n2_ := zj (zs (by (with_reducible repeat (first | apply zd | apply ze | apply zf)); exact HO_167003.out) hb); have n3_ := zj (zo (g := gb162) (o := .cells #[.bool false, .slice none 0 0, .slice none 0 0, .slice none 0 0] 29 (0, 0)) (by (with_reducible repeat (first | refine za ?_ _ | refine zb ?_ | refine zc ?_ _)); exact BK162.out) hb); have n4_ := zj (zo (g := gb166) (o := .cells #[.bool ((bt t163 0) == 108), .slice Ao86 x167001_2.length co86, .slice Ao87 x167002_2.length co87, .slice Ao88 x167003_2.length co88] 29 (0, 0)) (by (with_reducible repeat (first | refine za ?_ _ | refine zb ?_ | refine zc ?_ _)); exact BK166.out) hb); have n5_ := zj (IsS130.below (by repeat (first | (with_reducible first | exact HI165.out | apply IsS130.alloc | apply IsS130.drewN | apply IsS130.drew | apply IsS130.set_0 | apply IsS130.set_1 | apply IsS130.set_2 | apply IsS130.far (hne := NB165_162.out) | apply IsS130.far (hne := NB165_166.out)) | apply IsS130.far (hne := NB165_162.out) | apply IsS130.far (hne := NB165_166.out) | exact HI165.out)) hb); have n6_ := zj (zl (by repeat (first | (with_reducible first | exact HB.out | apply zg | apply zh | apply zi | refine zr ?_ (IsS130.ge HI165.out) | refine zr ?_ GE162.out | refine zr ?_ GE166.out) | exact HB.out)) hb); clear HO_167001; clear HO_167002; clear HO_167003; clear BK162; clear BK166; clear HI165; clear HB; have HO_167001 := n0_; have HO_167002 := n1_; have HO_167003 := n2_; have BK162 := n3_; have BK166 := n4_; have HI165 := n5_; have HB := n6_; clear n0_ n1_ n2_ n3_ n4_ n5_ n6_; (try clear hb); (try clear hb2); (try clear hk); (try clear hi); obtain ⟨HGz90, hgz90⟩ := HI165.out; have hcz90_0 := cellS130_0 HGz90; have hcz90_1 := cellS130_1 HGz90; have hcz90_2 := cellS130_2 HGz90; have hfz90_0 := zu HGz90 0; have hfz90_1 := zu HGz90 1; have hfz90_2 := zu HGz90 2; clear HGz90 hgz90; have hnb91 := NB162_165.out; have hnc91 := NB165_162.out; have hcz92_0 : w89.cell? ⟨gb162, 0, none⟩ = some (.bool false) := (zq BK162.out 0).trans rfl; have hcz92_1 : w89.cell? ⟨gb162, 1, none⟩ = some (.slice none 0 0) := (zq BK162.out 1).trans rfl; have hcz92_2 : w89.cell? ⟨gb162, 2, none⟩ = some (.slice none 0 0) := (zq BK162.out 2).trans rfl; have hcz92_3 : w89.cell? ⟨gb162, 3, none⟩ = some (.slice none 0 0) := (zq BK162.out 3).trans rfl; have hfz92_0 := zu BK162.out 0; have hfz92_1 := zu BK162.out 1; have hfz92_2 := zu BK162.out 2; have hfz92_3 := zu BK162.out 3))
             refine bodyPost_ret (results_ct rfl _ _ gb162 29 #[.bool false, .slice none 0 0, .slice none 0 0, .slice none 0 0] (0, 0) _ rfl (by (with_reducible repeat (first | refine za ?_ _ | refine zb ?_ | refine zc ?_ _)); refine zp (cs := #[.bool false, .slice none 0 0, .slice none 0 0, .slice none 0 0]) ?_ 3 _ rfl; (with_reducible repeat (first | refine za ?_ _ | refine zb ?_ | refine zc ?_ _)); refine zp (cs := #[.bool false, .slice none 0 0, .slice none 0 0, .slice none 0 0]) ?_ 2 _ rfl; (with_reducible repeat (first | refine za ?_ _ | refine zb ?_ | refine zc ?_ _)); refine zp (cs := #[.bool false, .slice none 0 0, .slice none 0 0, .slice none 0 0]) ?_ 1 _ rfl; (with_reducible repeat (first | refine za ?_ _ | refine zb ?_ | refine zc ?_ _)); refine zp (cs := #[.bool false, .slice none 0 0, .slice none 0 0, .slice none 0 0]) ?_ 0 _ rfl; (with_reducible repeat (first | refine za ?_ _ | refine zb ?_ | refine zc ?_ _)); exact BK162.out) Try.underlying29 rfl (by kernel_rfl)) rfl ?_
             exact ⟨_, _, _, by first | rfl | (simp [errW_none, errW_some] <;> rfl) | (simp [*, errW_none, errW_some] <;> rfl), by first | exact Kd.R_nil _ _ _ _ _ | exact Kd.N_nil _ _ _ _ _ | exact Kd.V_nil _ _ _ _ _ | exact Kd.Q_nil _ _ _ _ _ | exact Kd.S_nil _ _ _ _ _, by first | exact Kd.R_nil _ _ _ _ _ | exact Kd.N_nil _ _ _ _ _ | exact Kd.V_nil _ _ _ _ _ | exact Kd.Q_nil _ _ _ _ _ | exact Kd.S_nil _ _ _ _ _, by first | exact Kd.R_nil _ _ _ _ _ | exact Kd.N_nil _ _ _ _ _ | exact Kd.V_nil _ _ _ _ _ | exact Kd.Q_nil _ _ _ _ _ | exact Kd.S_nil _ _ _ _ _, by repeat (first | (with_reducible first | exact HB.out | apply zg | apply zh | apply zi | refine zr ?_ (IsS130.ge HI165.out) | refine zr ?_ GE162.out | refine zr ?_ GE166.out) | exact HB.out)⟩
           ·replace c70 := Bool.eq_false_iff.mpr c70
            subst c70
            have H1 : (some (false, ([] : List ByteArray), ([] : List ByteArray), ([] : List Int), false)) = some (r1, r2, r3, r4, r5) := by rw [if_neg (show ¬ (false = true) by decide)] at H; exact H
            clear H
            have H := H1
            clear H1
            simp only [Option.some.injEq, Prod.mk.injEq] at H
            obtain ⟨rfl, rfl, rfl, rfl, rfl⟩ := H
            have hnb93 := NB166_162.out
            have hnc93 := NB162_166.out
            have hnb94 := NB166_165.out
            have hnc94 := NB165_166.out
            have hcz95_0 : wc.cell? ⟨gb166, 0, none⟩ = some (.bool ((bt t163 0) == 108)) := (zq BK166.out 0).trans rfl
            have hcz95_1 : wc.cell? ⟨gb166, 1, none⟩ = some (u167001) := (zq BK166.out 1).trans rfl
            have hcz95_2 : wc.cell? ⟨gb166, 2, none⟩ = some (u167002) := (zq BK166.out 2).trans rfl
            have hcz95_3 : wc.cell? ⟨gb166, 3, none⟩ = some (u167003) := (zq BK166.out 3).trans rfl
            have hfz95_0 := zu BK166.out 0
            have hfz95_1 := zu BK166.out 1
            have hfz95_2 := zu BK166.out 2
            have hfz95_3 := zu BK166.out 3
            obtain ⟨Ao96, co96, eo96⟩ := Kd.R_slice HO_167001.out
            subst eo96
            obtain ⟨Ao97, co97, eo97⟩ := Kd.R_slice HO_167002.out
            subst eo97
            obtain ⟨Ao98, co98, eo98⟩ := Kd.R_slice HO_167003.out
            subst eo98
            go_wp2_with (first | ((with_reducible refine gate_callee (f := 15) rfl ?_); refine goesL_ (some 75) rfl rfl Try.func15 (by kernel_rfl) rfl #[.agg #[.bool ((bt t163 0) == 108), .slice Ao96 x167001_2.length co96, .slice Ao97 x167002_2.length co97, .slice Ao98 x167003_2.length co98]] rfl (by (try simp only [List.map_toArray, List.map_cons, List.map_nil]); first | done | rfl | (simp only [List.length_drop, List.length_take]; rfl)) ?_; (with_reducible refine (spec_NodeText.calls kj17 ((bt t163 0) == 108) _ _ x167001_2 _ _ x167002_2 _ _ x167003_2 t171 false _ ?side1 ?side2 ?side3 ?side4 ?side5 ?side6 A58.out).mono ?_); (case side1 => repeat (first | exact (Kd.R_reads' HO_167001.out).2.2 | (with_reducible refine Kd.C_alloc ?_ _) | (with_reducible refine Kd.C_drewN ?_ _) | (with_reducible refine Kd.C_drew ?_))); (case side2 => exact (Kd.R_reads' HO_167001.out).2.1); (case side3 => repeat (first | exact (Kd.R_reads' HO_167002.out).2.2 | (with_reducible refine Kd.C_alloc ?_ _) | (with_reducible refine Kd.C_drewN ?_ _) | (with_reducible refine Kd.C_drew ?_))); (case side4 => exact (Kd.R_reads' HO_167002.out).2.1); (case side5 => repeat (first | exact (Kd.R_reads' HO_167003.out).2.2 | (with_reducible refine Kd.C_alloc ?_ _) | (with_reducible refine Kd.C_drewN ?_ _) | (with_reducible refine Kd.C_drew ?_))); (case side6 => exact (Kd.R_reads' HO_167003.out).2.1); rintro e w99 ⟨rfl, hb⟩; refine ⟨_, rfl, ?_⟩; have n0_ := zj (zs (by (with_reducible repeat (first | apply zd | apply ze | apply zf)); exact HO_167001.out) hb); have n1_ := zj (zs (by (with_reducible repeat (first | apply zd | apply ze | apply zf)); exact HO_167002.out) hb); have n2_ := zj (zs (by (with_reducible repeat (first | apply zd | apply ze | apply zf)); exact HO_167003.out) hb); have n3_ := zj (zo (g := gb162) (o := .cells #[.bool false, .slice none 0 0, .slice none 0 0, .slice none 0 0] 29 (0, 0)) (by (with_reducible repeat (first | refine za ?_ _ | refine zb ?_ | refine zc ?_ _)); exact BK162.out) hb); have n4_ := zj (zo (g := gb166) (o := .cells #[.bool ((bt t163 0) == 108), .slice Ao96 x167001_2.length co96, .slice Ao97 x167002_2.length co97, .slice Ao98 x167003_2.length co98] 29 (0, 0)) (by (with_reducible repeat (first | refine za ?_ _ | refine zb ?_ | refine zc ?_ _)); exact BK166.out) hb); have n5_ := zj (IsS130.below (by repeat (first | (with_reducible first | exact HI165.out | apply IsS130.alloc | apply IsS130.drewN | apply IsS130.drew | apply IsS130.set_0 | apply IsS130.set_1 | apply IsS130.set_2 | apply IsS130.far (hne := NB165_162.out) | apply IsS130.far (hne := NB165_166.out)) | apply IsS130.far (hne := NB165_162.out) | apply IsS130.far (hne := NB165_166.out) | exact HI165.out)) hb); have n6_ := zj (zl (by repeat (first | (with_reducible first | exact HB.out | apply zg | apply zh | apply zi | refine zr ?_ (IsS130.ge HI165.out) | refine zr ?_ GE162.out | refine zr ?_ GE166.out) | exact HB.out)) hb); clear HO_167001; clear HO_167002; clear HO_167003; clear BK162; clear BK166; clear HI165; clear HB; have HO_167001 := n0_; have HO_167002 := n1_; have HO_167003 := n2_; have BK162 := n3_; have BK166 := n4_; have HI165 := n5_; have HB := n6_; clear n0_ n1_ n2_ n3_ n4_ n5_ n6_; (try clear hb); (try clear hb2); (try clear hk); (try clear hi); obtain ⟨HGz100, hgz100⟩ := HI165.out; have hcz100_0 := cellS130_0 HGz100; have hcz100_1 := cellS130_1 HGz100; have hcz100_2 := cellS130_2 HGz100; have hfz100_0 := zu HGz100 0; have hfz100_1 := zu HGz100 1; have hfz100_2 := zu HGz100 2; clear HGz100 hgz100; have hnb101 := NB162_165.out; have hnc101 := NB165_162.out; have hcz102_0 : w99.cell? ⟨gb162, 0, none⟩ = some (.bool false) := (zq BK162.out 0).trans rfl; have hcz102_1 : w99.cell? ⟨gb162, 1, none⟩ = some (.slice none 0 0) := (zq BK162.out 1).trans rfl; have hcz102_2 : w99.cell? ⟨gb162, 2, none⟩ = some (.slice none 0 0) := (zq BK162.out 2).trans rfl; have hcz102_3 : w99.cell? ⟨gb162, 3, none⟩ = some (.slice none 0 0) := (zq BK162.out 3).trans rfl; have hfz102_0 := zu BK162.out 0; have hfz102_1 := zu BK162.out 1; have hfz102_2 := zu BK162.out 2; have hfz102_3 := zu BK162.out 3))
            refine bodyPost_ret (results_ct rfl _ _ gb162 29 #[.bool false, .slice none 0 0, .slice none 0 0, .slice none 0 0] (0, 0) _ rfl (by (with_reducible repeat (first | refine za ?_ _ | refine zb ?_ | refine zc ?_ _)); refine zp (cs := #[.bool false, .slice none 0 0, .slice none 0 0, .slice none 0 0]) ?_ 3 _ rfl; (with_reducible repeat (first | refine za ?_ _ | refine zb ?_ | refine zc ?_ _)); refine zp (cs := #[.bool false, .slice none 0 0, .slice none 0 0, .slice none 0 0]) ?_ 2 _ rfl; (with_reducible repeat (first | refine za ?_ _ | refine zb ?_ | refine zc ?_ _)); refine zp (cs := #[.bool false, .slice none 0 0, .slice none 0 0, .slice none 0 0]) ?_ 1 _ rfl; (with_reducible repeat (first | refine za ?_ _ | refine zb ?_ | refine zc ?_ _)); refine zp (cs := #[.bool false, .slice none 0 0, .slice none 0 0, .slice none 0 0]) ?_ 0 _ rfl; (with_reducible repeat (first | refine za ?_ _ | refine zb ?_ | refine zc ?_ _)); exact BK162.out) Try.underlying29 rfl (by kernel_rfl)) rfl ?_
            exact ⟨_, _, _, by first | rfl | (simp [errW_none, errW_some] <;> rfl) | (simp [*, errW_none, errW_some] <;> rfl), by first | exact Kd.R_nil _ _ _ _ _ | exact Kd.N_nil _ _ _ _ _ | exact Kd.V_nil _ _ _ _ _ | exact Kd.Q_nil _ _ _ _ _ | exact Kd.S_nil _ _ _ _ _, by first | exact Kd.R_nil _ _ _ _ _ | exact Kd.N_nil _ _ _ _ _ | exact Kd.V_nil _ _ _ _ _ | exact Kd.Q_nil _ _ _ _ _ | exact Kd.S_nil _ _ _ _ _, by first | exact Kd.R_nil _ _ _ _ _ | exact Kd.N_nil _ _ _ _ _ | exact Kd.V_nil _ _ _ _ _ | exact Kd.Q_nil _ _ _ _ _ | exact Kd.S_nil _ _ _ _ _, by repeat (first | (with_reducible first | exact HB.out | apply zg | apply zh | apply zi | refine zr ?_ (IsS130.ge HI165.out) | refine zr ?_ GE162.out | refine zr ?_ GE166.out) | exact HB.out)⟩
    ·rw [if_neg c9] at H
     exact absurd H (by simp)

end Go.Proofs.Ytkobbccjjglfmaa.VFnExactReadNode
