-- Written by a program of this repo (wip/myprint.py), over the kit's print; functions that the print does not take stand in it by hand-proved contracts.
import Derived.Test.YtdgefpifohfcgaaVFnTurnedx0
import Derived.Test.YtdgefpifohfcgaaVFnTurnedx1
import Derived.Test.YtdgefpifohfcgaaVFnTurnedx2
namespace Go.Proofs.Ytdgefpifohfcgaa.VFnTurned
open Go.RowKit Go.Proofs.YtdgefpifohfcgaaW.PrintWords Go.Proofs.YtdgefpifohfcgaaW.PrintLast Go.Proofs.YtdgefpifohfcgaaW.PrintMore
attribute [local go_sem] max2_int min2_int max_two min_two max_three min_three max_four min_four   -- for this text's walks alone
attribute [local go_sem high] str_leq str_gtr str_geq str_lss
set_option linter.unusedVariables false
set_option linter.unusedSimpArgs false

/-! ### '[]byte(s)': a new row whose bytes are read, and may be written -/
/-- The bytes of a row that a conversion made. -/
def CB (w : World) (g : Nat) (y : List Int) : Prop := g < w.heap.size ∧ ∀ i, i < y.length → w.cell? ⟨g, i, none⟩ = some (.int .u8 (y.getD i 0)) ∧ w.frozen? ⟨g, i, none⟩ = false
def CC (w : World) (g : Nat) (y : List Int) : Prop := ∀ i, i < y.length → w.cell? ⟨g, i, none⟩ = some (.int .u8 (y.getD i 0))
theorem CB_drew {w : World} {g : Nat} {y : List Int} (h : CB w g y) : CB w.drew g y := h
theorem CB_new (W : World) (s : ByteArray) : CB (Lib.bytesWorld W 5 s) W.heap.size (bytesOf s) := by
  refine ⟨by rw [Lib.bytesWorld_size]; omega, fun i hi => ?_⟩
  rw [bytesOf_length] at hi
  constructor
  · rw [Lib.bytesWorld_cell W 5 s i hi]
    have h' : i < s.data.toList.length := by rw [data_length]; exact hi
    simp [bytesOf, List.getD_eq_getElem?_getD, List.getElem?_eq_getElem h']
  · have hz : s.size ≤ (Lib.bytesCells W 5 s).size := by
      unfold Lib.bytesCells
      rw [Array.size_append, Array.size_map]
      exact Nat.le_add_right _ _
    unfold World.frozen?
    rw [show (⟨W.heap.size, i, none⟩ : Addr).block = W.heap.size from rfl, Lib.bytesWorld_at_new]
    have : ¬ (Lib.bytesCells W 5 s).size ≤ i := by omega
    simp [this]
theorem CB_at {w : World} {g : Nat} {y : List Int} (h : CB w g y) (i : Int) (h0 : 0 ≤ i) (h1 : i < (y.length : Int)) : w.cell? ⟨g, i.toNat, none⟩ = some (.int .u8 (rd y i)) ∧ w.frozen? ⟨g, i.toNat, none⟩ = false := h.2 i.toNat (by omega)
theorem CB_put {w : World} {g : Nat} {y : List Int} (h : CB w g y) (i : Int) (h0 : 0 ≤ i) (h1 : i < (y.length : Int)) (v : Int) : CC (w.setCell ⟨g, i.toNat, none⟩ (.int .u8 v)) g (y.set i.toNat v) := by
  intro j hj
  rw [List.length_set] at hj
  by_cases c : j = i.toNat
  · subst c
    rw [World.cell?_setCell_same (h := (h.2 _ hj).1)]
    simp [List.getD_eq_getElem?_getD, hj]
  · rw [World.cell?_setCell_other (h := show (⟨g, i.toNat, none⟩ : Addr) ≠ ⟨g, j, none⟩ from by intro e; injection e with _ e2; exact c e2.symm), (h.2 j hj).1]
    simp [List.getD_eq_getElem?_getD, List.getElem?_set, Ne.symm c]
theorem CC_string {P : Program} {w : World} {g n cap : Nat} {y : List Int} {src dst e : TypeId} (hs : P.underlying src = some (.slice e)) (he : P.underlying e = some (.int .u8)) (hd : P.underlying dst = some .string) (hl : y.length = n) (h : CC w g y) :
    (convert src dst (.slice (some ⟨g, 0, none⟩) n cap)).run P w = .ok (.string (strOfNums y)) w :=
  run_convert_bytes_arg w src e hs he g 0 n cap y hl (fun i hi => by rw [Nat.zero_add]; exact h i (by omega)) dst hd
section
variable {P : Program} {ops : Array Oper} {rest : List Oper} {o : Oper} {a : Act} {Q : Exit → Act → World → Prop}
theorem conv_event {W : World} (hgd : o.guard = none) {N : Tmp} (hdst : o.dst = some N) (src dst : TypeId) (x : Operand) (ho : o.op = .convert src dst x) (s : ByteArray) (hx : a.eval x = .string s) (y : List Int) (hy : y = bytesOf s) {u : TypeDesc}
    (hs : P.underlying src = some u) (hd : P.underlying dst = some (.slice 5)) (he : P.underlying 5 = some (.int .u8))
    (h : ∀ cap g w1, g = W.heap.size → CB w1 g y → Below W.heap.size W w1 → wpList P ops Q rest (a.put o.dst (.slice (some ⟨g, 0, none⟩) y.length cap)) w1) : wpList P ops Q (o :: rest) a W := by
  have hr := Lib.run_convert_string_bytes (P := P) W src dst 5 s hs hd he
  have hrun : (execOp a.eval o).run P W = .ok (.value (.slice (some ⟨W.heap.size, 0, none⟩) s.size (grownCap W s.size 0 5))) (Lib.bytesWorld W 5 s) := by
    simp [execOp, ho, hx, hr]
  refine wpList_plain hgd fun K hK => ?_
  unfold Oper.wp
  rw [hrun]
  show K (a.put o.dst _) _
  have hb : Below W.heap.size W (Lib.bytesWorld W 5 s) := ⟨rfl, rfl, rfl, by rw [Lib.bytesWorld_size]; omega, fun i hi => Lib.bytesWorld_at_old W 5 s i hi⟩
  have := h (grownCap W s.size 0 5) W.heap.size _ rfl (by rw [hy]; exact CB_new W s) hb
  rw [hy, bytesOf_length] at this
  exact hK _ _ this
end

/-! ### laws_FnTurned: function 6 -/
def laws_FnTurned.j0 : Nat → ByteArray → List Int → ByteArray → Bool → Option (Bool)
  | 0, _, _, _, _ => none
  | k + 1, x3, x4, x5, x47 => if x47 = true then (none) else ((some (bytesOf x5 : List Int)).bind fun y172 => (if 0 < (x4.length : Int) then (if (y172.length : Int) = 0 then (none) else (if 0 ≤ (Int.tmod (rd x4 0) (y172.length : Int)) then (if (Int.tmod (rd x4 0) (y172.length : Int)) < (y172.length : Int) then (if 1 < (x4.length : Int) then ((impl_Unsealed.f k (strOfNums (y172.set ((Int.tmod (rd x4 0) (y172.length : Int)) : Int).toNat (Go.bits .xor .u8 (rd y172 (Int.tmod (rd x4 0) (y172.length : Int))) ((wrap64 (1 + (Int.tmod (rd x4 1) 255))) % 256))))).bind fun bt179 => (if bt179.2 = true then (none) else ((impl_SumOf.f k x3).bind fun t181 => ((impl_SumMore.f k t181 (⟨#[120]⟩ : ByteArray)).bind fun t182 => (if x3.size + 1 ≤ 9223372036854775807 then ((impl_SumOf.f k (x3 ++ (⟨#[120]⟩ : ByteArray))).bind fun t183 => (some (t182 == t183))) else (none)))))) else (none)) else (none)) else (none))) else (none)))
def laws_FnTurned.f (k : Nat) (l0 : List Int) : Option (Bool) := (laws_big.f l0).bind fun t163 => (if t163 = true then (some true) else ((spec_DrawSumOf.f k l0).bind fun t164 => ((spec_DrawPlaces.f k l0).bind fun t165 => ((impl_Sealed.f k t164).bind fun bt168 => ((impl_Unsealed.f k bt168.1).bind fun bt170 => (if bt168.2 = true then (if bt170.2 = true then (if bt170.1.toList = t164.toList then (laws_FnTurned.j0 k t164 t165 bt168.1 ((bt168.1.size : Int) != (wrap64 ((t164.size : Int) + 4)))) else (none)) else (none)) else (none)))))))
theorem laws_FnTurned.mono_l : ∀ k, (∀ y0 y1 y2 y3, LeO (laws_FnTurned.j0 k y0 y1 y2 y3) (laws_FnTurned.j0 (k + 1) y0 y1 y2 y3))
  | 0 => fun _ _ _ _ r h => by simp [laws_FnTurned.j0] at h
  | k + 1 => by
    have ih0 := laws_FnTurned.mono_l k
    · intro y0 y1 y2 y3
      unfold laws_FnTurned.j0
      repeat' first
      | (with_reducible exact ih0 _ _ _ _)
      | (with_reducible exact impl_Sealed.mono _ _)
      | (with_reducible exact impl_SumMore.mono _ _ _)
      | (with_reducible exact impl_SumOf.mono _ _)
      | (with_reducible exact impl_Unsealed.mono _ _)
      | (with_reducible exact spec_DrawPlaces.mono _ _)
      | (with_reducible exact spec_DrawSumOf.mono _ _)
      | (with_reducible exact LeO.refl _)
      | (with_reducible exact LeO.none _)
      | (with_reducible refine LeO.ite ?_ ?_)
      | (with_reducible refine LeO.bind ?_ (fun _ => ?_))
      | exact ih0 _ _ _ _
      | exact impl_Sealed.mono _ _
      | exact impl_SumMore.mono _ _ _
      | exact impl_SumOf.mono _ _
      | exact impl_Unsealed.mono _ _
      | exact spec_DrawPlaces.mono _ _
      | exact spec_DrawSumOf.mono _ _
      | exact LeO.none _
      | refine LeO.ite ?_ ?_
      | refine LeO.bind ?_ (fun _ => ?_)
theorem laws_FnTurned.mono : ∀ a0 k, LeO (laws_FnTurned.f k a0) (laws_FnTurned.f (k + 1) a0) := by
  intro a0 k
  have ih0 := laws_FnTurned.mono_l k
  unfold laws_FnTurned.f
  repeat' first
      | (with_reducible exact ih0 _ _ _ _)
      | (with_reducible exact impl_Sealed.mono _ _)
      | (with_reducible exact impl_SumMore.mono _ _ _)
      | (with_reducible exact impl_SumOf.mono _ _)
      | (with_reducible exact impl_Unsealed.mono _ _)
      | (with_reducible exact spec_DrawPlaces.mono _ _)
      | (with_reducible exact spec_DrawSumOf.mono _ _)
      | (with_reducible exact LeO.refl _)
      | (with_reducible exact LeO.none _)
      | (with_reducible refine LeO.ite ?_ ?_)
      | (with_reducible refine LeO.bind ?_ (fun _ => ?_))
      | exact ih0 _ _ _ _
      | exact impl_Sealed.mono _ _
      | exact impl_SumMore.mono _ _ _
      | exact impl_SumOf.mono _ _
      | exact impl_Unsealed.mono _ _
      | exact spec_DrawPlaces.mono _ _
      | exact spec_DrawSumOf.mono _ _
      | exact LeO.none _
      | refine LeO.ite ?_ ?_
      | refine LeO.bind ?_ (fun _ => ?_)
def laws_FnTurned.T11 : Bool × List (List Nat × List Nat) := (true, [([], []), ([], []), ([], []), ([], []), ([2, 3], [2, 3]), ([4], [4]), ([], []), ([6], [6]), ([7], [7]), ([8], [8]), ([9], [9]), ([10], [10]), ([5, 11], [5, 11]), ([0, 1, 0, 1, 2, 3, 4, 5, 6, 7, 8, 9, 10, 11, 12], [0, 1]), ([13, 12, 0, 1, 2, 3, 4, 5, 6, 7, 8, 9, 10, 11, 12], [12, 13])])
def laws_FnTurned.B11 : List Nat := [0, 0, 0, 0, 12, 28, 0, 64, 192, 448, 960, 1984, 4092, 8191, 16383]
theorem laws_FnTurned.tab11 : rtab .any (opsOf Try.f6 11) = laws_FnTurned.T11 := by kernel_rfl
theorem laws_FnTurned.bits11 : waitsOk laws_FnTurned.T11.2 laws_FnTurned.B11 = true := by kernel_rfl
set_option maxHeartbeats 8000000 in
set_option maxRecDepth 100000 in
theorem laws_FnTurned.calls (k : Nat) (A0 : Option Addr) (c0 : Nat) (l0 : List Int) (r : Bool) (w : World) (hr0 : Kd.C (Kd.int .u8) w A0 l0.length l0) (hc0 : l0.length ≤ c0) (h : laws_FnTurned.f k l0 = some r) :
    Calls Try.prog 6 #[.slice A0 l0.length c0] w fun e w' => e = .returned (.bool r) ∧ Below w.heap.size w w' := by
  have HR0 := Aside0.mk hr0
  have HC0 := Aside0.mk hc0
  clear hr0 hc0
  have HB := Aside0.mk (Below.refl w.heap.size w)
  have H : ((laws_big.f l0).bind fun t163 => (if t163 = true then (some true) else ((spec_DrawSumOf.f k l0).bind fun t164 => ((spec_DrawPlaces.f k l0).bind fun t165 => ((impl_Sealed.f k t164).bind fun bt168 => ((impl_Unsealed.f k bt168.1).bind fun bt170 => (if bt168.2 = true then (if bt170.2 = true then (if bt170.1.toList = t164.toList then (laws_FnTurned.j0 k t164 t165 bt168.1 ((bt168.1.size : Int) != (wrap64 ((t164.size : Int) + 4)))) else (none)) else (none)) else (none)))))))) = some r := h
  clear h
  replace H := Option.bind_eq_some_iff.mp H
  obtain ⟨t163, A20, H⟩ := H
  replace H : (if t163 = true then (some true) else ((spec_DrawSumOf.f k l0).bind fun t164 => ((spec_DrawPlaces.f k l0).bind fun t165 => ((impl_Sealed.f k t164).bind fun bt168 => ((impl_Unsealed.f k bt168.1).bind fun bt170 => (if bt168.2 = true then (if bt170.2 = true then (if bt170.1.toList = t164.toList then (laws_FnTurned.j0 k t164 t165 bt168.1 ((bt168.1.size : Int) != (wrap64 ((t164.size : Int) + 4)))) else (none)) else (none)) else (none))))))) = some r := H
  have A2 := Aside0.mk A20
  clear A20
  by_cases c3 : t163 = true
  · subst c3
    have H1 : (some true) = some r := by rw [if_pos rfl] at H; exact H
    clear H
    have H := H1
    clear H1
    obtain rfl := Option.some.inj H
    go_enter Try.func6, Try.ntmps6
    go_wp2_with (first | ((with_reducible refine gate_callee (f := 24) rfl ?_); refine goesL_ (some 14) rfl rfl Try.func24 (by kernel_rfl) rfl #[.slice A0 l0.length c0] rfl (by (try simp only [List.map_toArray, List.map_cons, List.map_nil]); first | done | rfl | (simp only [List.length_drop, List.length_take]; rfl)) ?_; (with_reducible refine (laws_big.calls _ _ l0 true _ ?side1 ?side2 A2.out).mono ?_); (case side1 => repeat (first | exact HR0.out | (with_reducible refine Kd.C_alloc ?_ _) | (with_reducible refine Kd.C_drewN ?_ _) | (with_reducible refine Kd.C_drew ?_))); (case side2 => exact HC0.out); rintro e w' ⟨rfl, ⟨nd, rfl⟩⟩; refine ⟨_, rfl, ?_⟩))
    go_ret
    exact ⟨by first | rfl | (simp [errW_none, errW_some] <;> rfl) | (simp [*, errW_none, errW_some] <;> rfl), by repeat (first | (with_reducible first | exact HB.out | apply below_alloc | apply pw_below_drewN | apply below_drew1) | exact HB.out)⟩
  · replace c3 := Bool.eq_false_iff.mpr c3
    subst c3
    have H1 : ((spec_DrawSumOf.f k l0).bind fun t164 => ((spec_DrawPlaces.f k l0).bind fun t165 => ((impl_Sealed.f k t164).bind fun bt168 => ((impl_Unsealed.f k bt168.1).bind fun bt170 => (if bt168.2 = true then (if bt170.2 = true then (if bt170.1.toList = t164.toList then (laws_FnTurned.j0 k t164 t165 bt168.1 ((bt168.1.size : Int) != (wrap64 ((t164.size : Int) + 4)))) else (none)) else (none)) else (none)))))) = some r := by rw [if_neg (show ¬ (false = true) by decide)] at H; exact H
    clear H
    have H := H1
    clear H1
    replace H := Option.bind_eq_some_iff.mp H
    obtain ⟨t164, A40, H⟩ := H
    replace H : ((spec_DrawPlaces.f k l0).bind fun t165 => ((impl_Sealed.f k t164).bind fun bt168 => ((impl_Unsealed.f k bt168.1).bind fun bt170 => (if bt168.2 = true then (if bt170.2 = true then (if bt170.1.toList = t164.toList then (laws_FnTurned.j0 k t164 t165 bt168.1 ((bt168.1.size : Int) != (wrap64 ((t164.size : Int) + 4)))) else (none)) else (none)) else (none))))) = some r := H
    have A4 := Aside0.mk A40
    clear A40
    replace H := Option.bind_eq_some_iff.mp H
    obtain ⟨t165, A50, H⟩ := H
    replace H : ((impl_Sealed.f k t164).bind fun bt168 => ((impl_Unsealed.f k bt168.1).bind fun bt170 => (if bt168.2 = true then (if bt170.2 = true then (if bt170.1.toList = t164.toList then (laws_FnTurned.j0 k t164 t165 bt168.1 ((bt168.1.size : Int) != (wrap64 ((t164.size : Int) + 4)))) else (none)) else (none)) else (none)))) = some r := H
    have A5 := Aside0.mk A50
    clear A50
    replace H := Option.bind_eq_some_iff.mp H
    obtain ⟨⟨t168, t169⟩, A60, H⟩ := H
    replace H : ((impl_Unsealed.f k t168).bind fun bt170 => (if t169 = true then (if bt170.2 = true then (if bt170.1.toList = t164.toList then (laws_FnTurned.j0 k t164 t165 t168 ((t168.size : Int) != (wrap64 ((t164.size : Int) + 4)))) else (none)) else (none)) else (none))) = some r := H
    have A6 := Aside0.mk A60
    clear A60
    replace H := Option.bind_eq_some_iff.mp H
    obtain ⟨⟨t170, t171⟩, A70, H⟩ := H
    replace H : (if t169 = true then (if t171 = true then (if t170.toList = t164.toList then (laws_FnTurned.j0 k t164 t165 t168 ((t168.size : Int) != (wrap64 ((t164.size : Int) + 4)))) else (none)) else (none)) else (none)) = some r := H
    have A7 := Aside0.mk A70
    clear A70
    have HC8 := Aside0.mk H
    clear H
    go_enter Try.func6, Try.ntmps6
    go_upto_region 7 with (first | ((with_reducible refine gate_callee (f := 24) rfl ?_); refine goesL_ (some 14) rfl rfl Try.func24 (by kernel_rfl) rfl #[.slice A0 l0.length c0] rfl (by (try simp only [List.map_toArray, List.map_cons, List.map_nil]); first | done | rfl | (simp only [List.length_drop, List.length_take]; rfl)) ?_; (with_reducible refine (laws_big.calls _ _ l0 false _ ?side1 ?side2 A2.out).mono ?_); (case side1 => repeat (first | exact HR0.out | (with_reducible refine Kd.C_alloc ?_ _) | (with_reducible refine Kd.C_drewN ?_ _) | (with_reducible refine Kd.C_drew ?_))); (case side2 => exact HC0.out); rintro e w' ⟨rfl, ⟨nd, rfl⟩⟩; refine ⟨_, rfl, ?_⟩) | ((with_reducible refine gate_callee (f := 25) rfl ?_); refine goesL_ (some 16) rfl rfl Try.func25 (by kernel_rfl) rfl #[.slice A0 l0.length c0] rfl (by (try simp only [List.map_toArray, List.map_cons, List.map_nil]); first | done | rfl | (simp only [List.length_drop, List.length_take]; rfl)) ?_; (with_reducible refine (spec_DrawSumOf.calls k _ _ l0 t164 _ ?side1 ?side2 A4.out).mono ?_); (case side1 => repeat (first | exact HR0.out | (with_reducible refine Kd.C_alloc ?_ _) | (with_reducible refine Kd.C_drewN ?_ _) | (with_reducible refine Kd.C_drew ?_))); (case side2 => exact HC0.out); rintro e w9 ⟨rfl, hb⟩; refine ⟨_, rfl, ?_⟩; have n0_ := Aside0.mk (below_step (by repeat (first | (with_reducible first | exact HB.out | apply below_alloc | apply pw_below_drewN | apply below_drew1) | exact HB.out)) hb); clear HB; have HB := n0_; clear n0_; (try clear hb); (try clear hb2); (try clear hk); (try clear hi)) | ((with_reducible refine gate_callee (f := 26) rfl ?_); refine goesL_ (some 18) rfl rfl Try.func26 (by kernel_rfl) rfl #[.slice A0 l0.length c0] rfl (by (try simp only [List.map_toArray, List.map_cons, List.map_nil]); first | done | rfl | (simp only [List.length_drop, List.length_take]; rfl)) ?_; (with_reducible refine (spec_DrawPlaces.calls k _ _ l0 t165 _ ?side1 ?side2 A5.out).mono ?_); (case side1 => repeat (first | exact (Kd.C_below HR0.out HB.out) | (with_reducible refine Kd.C_alloc ?_ _) | (with_reducible refine Kd.C_drewN ?_ _) | (with_reducible refine Kd.C_drew ?_))); (case side2 => exact HC0.out); rintro e w10 ⟨v166, rfl, ho0, hb⟩; refine ⟨_, rfl, ?_⟩; have n0_ := Aside0.mk (Kd.R_lower ho0 (below_size (by repeat (first | (with_reducible first | exact HB.out | apply below_alloc | apply pw_below_drewN | apply below_drew1) | exact HB.out)))); have n1_ := Aside0.mk (below_step (by repeat (first | (with_reducible first | exact HB.out | apply below_alloc | apply pw_below_drewN | apply below_drew1) | exact HB.out)) hb); clear HB; have HO167 := n0_; have HB := n1_; clear n0_ n1_; (try clear hb); (try clear hb2); (try clear hk); (try clear hi); (try clear ho0)) | ((with_reducible refine gate_callee (f := 27) rfl ?_); refine goesL_ (some 21) rfl rfl Try.func27 (by kernel_rfl) rfl #[.string t164] rfl (by (try simp only [List.map_toArray, List.map_cons, List.map_nil]); first | done | rfl | (simp only [List.length_drop, List.length_take]; rfl)) ?_; (with_reducible refine (impl_Sealed.calls k t164 t168 t169 _ A6.out).mono ?_); rintro e w11 ⟨rfl, hb⟩; refine ⟨_, rfl, ?_⟩; have n0_ := Aside0.mk (Kd.R_below (by (with_reducible repeat (first | apply Kd.R_alloc | apply Kd.R_drewN | apply Kd.R_drew)); exact HO167.out) hb); have n1_ := Aside0.mk (below_step (by repeat (first | (with_reducible first | exact HB.out | apply below_alloc | apply pw_below_drewN | apply below_drew1) | exact HB.out)) hb); clear HO167; clear HB; have HO167 := n0_; have HB := n1_; clear n0_ n1_; (try clear hb); (try clear hb2); (try clear hk); (try clear hi)) | ((with_reducible refine gate_callee (f := 16) rfl ?_); refine goesL_ (some 26) rfl rfl Try.func16 (by kernel_rfl) rfl #[.string t168] rfl (by (try simp only [List.map_toArray, List.map_cons, List.map_nil]); first | done | rfl | (simp only [List.length_drop, List.length_take]; rfl)) ?_; (with_reducible refine (impl_Unsealed.calls k t168 t170 t171 _ A7.out).mono ?_); rintro e w12 ⟨rfl, hb⟩; refine ⟨_, rfl, ?_⟩; have n0_ := Aside0.mk (Kd.R_below (by (with_reducible repeat (first | apply Kd.R_alloc | apply Kd.R_drewN | apply Kd.R_drew)); exact HO167.out) hb); have n1_ := Aside0.mk (below_step (by repeat (first | (with_reducible first | exact HB.out | apply below_alloc | apply pw_below_drewN | apply below_drew1) | exact HB.out)) hb); clear HO167; clear HB; have HO167 := n0_; have HB := n1_; clear n0_ n1_; (try clear hb); (try clear hb2); (try clear hk); (try clear hi)))
    (try simp only [Act.put, List.setIfInBounds_toArray, List.set_cons_zero, List.set_cons_succ])
    go_cut [47] (fun v47 wc => ∃ (kq : Nat) (x47_7 : Bool), v47 = .bool x47_7 ∧ Aside0 (laws_FnTurned.j0 kq t164 t165 t168 x47_7 = some r) ∧ Aside0 (kq ≤ k) ∧ Aside0 (Kd.R (Kd.int .i64) 3 wc w.heap.size (fun _ => True) v166 t165) ∧ Aside0 (Below w.heap.size w wc))
    case first =>
      have H := HC8.out
      clear HC8
      by_cases c13 : t169 = true
      · subst c13
        have H1 : (if t171 = true then (if t170.toList = t164.toList then (laws_FnTurned.j0 k t164 t165 t168 ((t168.size : Int) != (wrap64 ((t164.size : Int) + 4)))) else (none)) else (none)) = some r := by rw [if_pos rfl] at H; exact H
        clear H
        have H := H1
        clear H1
        by_cases c14 : t171 = true
        · subst c14
          have H1 : (if t170.toList = t164.toList then (laws_FnTurned.j0 k t164 t165 t168 ((t168.size : Int) != (wrap64 ((t164.size : Int) + 4)))) else (none)) = some r := by rw [if_pos rfl] at H; exact H
          clear H
          have H := H1
          clear H1
          by_cases c15 : t170.toList = t164.toList
          · rw [if_pos c15] at H
            have c15b0 : (t170.toList == t164.toList) = true := beq_iff_eq.mpr c15
            have c15b1 : (t170.toList != t164.toList) = false := bne_eq_false_iff_eq.mpr c15
            clear c15
            (first | rw [c15b0] | (simp only [i64_w, i32_w]; rw [c15b0]) | skip)
            have H' := Aside0.mk H
            clear H
            go_wp2
            go_meet
            case rel => exact ⟨_, (((t168.size : Int) != (wrap64 ((t164.size : Int) + 4)))), (by first | rfl | (simp; done) | (simp [*]; done)), H', ⟨by first | omega | exact Nat.le_refl _⟩, ⟨by (with_reducible repeat (first | apply Kd.R_alloc | apply Kd.R_drewN | apply Kd.R_drew)); exact HO167.out⟩, ⟨by repeat (first | (with_reducible first | exact HB.out | apply below_alloc | apply pw_below_drewN | apply below_drew1) | exact HB.out)⟩⟩
          · rw [if_neg c15] at H
            exact absurd H (by simp)
        · replace c14 := Bool.eq_false_iff.mpr c14
          subst c14
          have H1 : (none) = some r := by rw [if_neg (show ¬ (false = true) by decide)] at H; exact H
          clear H
          have H := H1
          clear H1
          exact absurd H (by simp)
      · replace c13 := Bool.eq_false_iff.mpr c13
        subst c13
        have H1 : (none) = some r := by rw [if_neg (show ¬ (false = true) by decide)] at H; exact H
        clear H
        have H := H1
        clear H1
        exact absurd H (by simp)
    case rest =>
      clear HC8
      try clear c1
      try clear c2
      try clear p2
      try clear c3
      try clear c6
      try clear p6
      try clear c13
      try clear c14
      try clear c15
      try clear c15b0
      try clear c15b1
      obtain ⟨kq, x47_7, rfl, HA, HJ7, HO_4, HB⟩ := hcut
      cases kq with
      | zero => exact absurd HA.out (by simp [laws_FnTurned.j0])
      | succ kj7 =>
        have H := HA.out
        clear HA
        simp only [laws_FnTurned.j0] at H
        by_cases c16 : x47_7 = true
        · subst c16
          have H1 : (none) = some r := by rw [if_pos rfl] at H; exact H
          clear H
          have H := H1
          clear H1
          exact absurd H (by simp)
        · replace c16 := Bool.eq_false_iff.mpr c16
          subst c16
          have H1 : ((some (bytesOf t168 : List Int)).bind fun y172 => (if 0 < (t165.length : Int) then (if (y172.length : Int) = 0 then (none) else (if 0 ≤ (Int.tmod (rd t165 0) (y172.length : Int)) then (if (Int.tmod (rd t165 0) (y172.length : Int)) < (y172.length : Int) then (if 1 < (t165.length : Int) then ((impl_Unsealed.f kj7 (strOfNums (y172.set ((Int.tmod (rd t165 0) (y172.length : Int)) : Int).toNat (Go.bits .xor .u8 (rd y172 (Int.tmod (rd t165 0) (y172.length : Int))) ((wrap64 (1 + (Int.tmod (rd t165 1) 255))) % 256))))).bind fun bt179 => (if bt179.2 = true then (none) else ((impl_SumOf.f kj7 t164).bind fun t181 => ((impl_SumMore.f kj7 t181 (⟨#[120]⟩ : ByteArray)).bind fun t182 => (if t164.size + 1 ≤ 9223372036854775807 then ((impl_SumOf.f kj7 (t164 ++ (⟨#[120]⟩ : ByteArray))).bind fun t183 => (some (t182 == t183))) else (none)))))) else (none)) else (none)) else (none))) else (none))) = some r := by rw [if_neg (show ¬ (false = true) by decide)] at H; exact H
          clear H
          have H := H1
          clear H1
          obtain ⟨y172, hy172⟩ : ∃ y_ : List Int, y_ = (bytesOf t168) := ⟨_, rfl⟩
          replace H : (if 0 < (t165.length : Int) then (if (y172.length : Int) = 0 then (none) else (if 0 ≤ (Int.tmod (rd t165 0) (y172.length : Int)) then (if (Int.tmod (rd t165 0) (y172.length : Int)) < (y172.length : Int) then (if 1 < (t165.length : Int) then ((impl_Unsealed.f kj7 (strOfNums (y172.set ((Int.tmod (rd t165 0) (y172.length : Int)) : Int).toNat (Go.bits .xor .u8 (rd y172 (Int.tmod (rd t165 0) (y172.length : Int))) ((wrap64 (1 + (Int.tmod (rd t165 1) 255))) % 256))))).bind fun bt179 => (if bt179.2 = true then (none) else ((impl_SumOf.f kj7 t164).bind fun t181 => ((impl_SumMore.f kj7 t181 (⟨#[120]⟩ : ByteArray)).bind fun t182 => (if t164.size + 1 ≤ 9223372036854775807 then ((impl_SumOf.f kj7 (t164 ++ (⟨#[120]⟩ : ByteArray))).bind fun t183 => (some (t182 == t183))) else (none)))))) else (none)) else (none)) else (none))) else (none)) = some r := by first | (rw [hy172]; with_reducible exact H) | (have H2_ := (Option.bind_some _ _).symm.trans H; rw [hy172]; with_reducible exact H2_) | (have H2_ := (Option.bind_some _ _).symm.trans H; with_reducible exact H2_) | with_reducible exact H | (rw [hy172]; exact H) | exact H
          have Ny172 := Aside0.mk hy172
          clear hy172
          by_cases c17 : 0 < (t165.length : Int)
          · rw [if_pos c17] at H
            have c17b0 : decide (0 < (t165.length : Int)) = true := decide_eq_true c17
            have c17b1 : decide (0 < t165.length) = true := decide_eq_true (by omega)
            clear c17
            by_cases c18 : (y172.length : Int) = 0
            · rw [if_pos c18] at H
              exact absurd H (by simp)
            · rw [if_neg c18] at H
              have c18b0 : ((y172.length : Int) == 0) = false := beq_eq_false_iff_ne.mpr c18
              have c18b1 : ((y172.length : Int) != 0) = true := bne_iff_ne.mpr c18
              have c18b2 : ¬ (y172 = []) := fun h_ => c18 (by rw [h_]; rfl)
              obtain ⟨ji19, hji19⟩ : ∃ j_ : Int, (Int.tmod (rd t165 0) (y172.length : Int)) = j_ := ⟨_, rfl⟩
              replace H : (if 0 ≤ (ji19) then (if (ji19) < (y172.length : Int) then (if 1 < (t165.length : Int) then ((impl_Unsealed.f kj7 (strOfNums (y172.set ((ji19) : Int).toNat (Go.bits .xor .u8 (rd y172 (ji19)) ((wrap64 (1 + (Int.tmod (rd t165 1) 255))) % 256))))).bind fun bt179 => (if bt179.2 = true then (none) else ((impl_SumOf.f kj7 t164).bind fun t181 => ((impl_SumMore.f kj7 t181 (⟨#[120]⟩ : ByteArray)).bind fun t182 => (if t164.size + 1 ≤ 9223372036854775807 then ((impl_SumOf.f kj7 (t164 ++ (⟨#[120]⟩ : ByteArray))).bind fun t183 => (some (t182 == t183))) else (none)))))) else (none)) else (none)) else (none)) = some r := by first | (rw [hji19] at H; exact H) | (simp only [hji19] at H ⊢; exact H)
              by_cases c20 : 0 ≤ (ji19)
              · rw [if_pos c20] at H
                have c20b0 : decide (0 ≤ (ji19)) = true := decide_eq_true c20
                clear c20
                by_cases c21 : (ji19) < (y172.length : Int)
                · rw [if_pos c21] at H
                  have c21b0 : decide ((ji19) < (y172.length : Int)) = true := decide_eq_true c21
                  clear c21
                  by_cases c22 : 1 < (t165.length : Int)
                  · rw [if_pos c22] at H
                    have c22b0 : decide (1 < (t165.length : Int)) = true := decide_eq_true c22
                    have c22b1 : decide (1 < t165.length) = true := decide_eq_true (by omega)
                    clear c22
                    obtain ⟨y178, hy178⟩ : ∃ y_ : List Int, y_ = (y172.set ((ji19) : Int).toNat (Go.bits .xor .u8 (rd y172 (ji19)) ((wrap64 (1 + (Int.tmod (rd t165 1) 255))) % 256))) := ⟨_, rfl⟩
                    replace H : ((impl_Unsealed.f kj7 (strOfNums y178)).bind fun bt179 => (if bt179.2 = true then (none) else ((impl_SumOf.f kj7 t164).bind fun t181 => ((impl_SumMore.f kj7 t181 (⟨#[120]⟩ : ByteArray)).bind fun t182 => (if t164.size + 1 ≤ 9223372036854775807 then ((impl_SumOf.f kj7 (t164 ++ (⟨#[120]⟩ : ByteArray))).bind fun t183 => (some (t182 == t183))) else (none)))))) = some r := by first | (rw [hy178]; with_reducible exact H) | (have H2_ := (Option.bind_some _ _).symm.trans H; rw [hy178]; with_reducible exact H2_) | (have H2_ := (Option.bind_some _ _).symm.trans H; with_reducible exact H2_) | with_reducible exact H | (rw [hy178]; exact H) | exact H
                    have Ny178 := Aside0.mk hy178
                    clear hy178
                    replace H := Option.bind_eq_some_iff.mp H
                    obtain ⟨⟨t179, t180⟩, A240, H⟩ := H
                    replace H : (if t180 = true then (none) else ((impl_SumOf.f kj7 t164).bind fun t181 => ((impl_SumMore.f kj7 t181 (⟨#[120]⟩ : ByteArray)).bind fun t182 => (if t164.size + 1 ≤ 9223372036854775807 then ((impl_SumOf.f kj7 (t164 ++ (⟨#[120]⟩ : ByteArray))).bind fun t183 => (some (t182 == t183))) else (none))))) = some r := H
                    have A24 := Aside0.mk A240
                    clear A240
                    by_cases c25 : t180 = true
                    · subst c25
                      have H1 : (none) = some r := by rw [if_pos rfl] at H; exact H
                      clear H
                      have H := H1
                      clear H1
                      exact absurd H (by simp)
                    · replace c25 := Bool.eq_false_iff.mpr c25
                      subst c25
                      have H1 : ((impl_SumOf.f kj7 t164).bind fun t181 => ((impl_SumMore.f kj7 t181 (⟨#[120]⟩ : ByteArray)).bind fun t182 => (if t164.size + 1 ≤ 9223372036854775807 then ((impl_SumOf.f kj7 (t164 ++ (⟨#[120]⟩ : ByteArray))).bind fun t183 => (some (t182 == t183))) else (none)))) = some r := by rw [if_neg (show ¬ (false = true) by decide)] at H; exact H
                      clear H
                      have H := H1
                      clear H1
                      replace H := Option.bind_eq_some_iff.mp H
                      obtain ⟨t181, A260, H⟩ := H
                      replace H : ((impl_SumMore.f kj7 t181 (⟨#[120]⟩ : ByteArray)).bind fun t182 => (if t164.size + 1 ≤ 9223372036854775807 then ((impl_SumOf.f kj7 (t164 ++ (⟨#[120]⟩ : ByteArray))).bind fun t183 => (some (t182 == t183))) else (none))) = some r := H
                      have A26 := Aside0.mk A260
                      clear A260
                      replace H := Option.bind_eq_some_iff.mp H
                      obtain ⟨t182, A270, H⟩ := H
                      replace H : (if t164.size + 1 ≤ 9223372036854775807 then ((impl_SumOf.f kj7 (t164 ++ (⟨#[120]⟩ : ByteArray))).bind fun t183 => (some (t182 == t183))) else (none)) = some r := H
                      have A27 := Aside0.mk A270
                      clear A270
                      by_cases c28 : t164.size + 1 ≤ 9223372036854775807
                      · rw [if_pos c28] at H
                        have c28b0 := eq_true c28
                        have c28b1 : decide (t164.size + 1 ≤ 9223372036854775807) = true := decide_eq_true c28
                        try have c28b2 : (9223372036854775807 < t164.size + 1) = False := eq_false (Nat.not_lt.2 c28)
                        replace H := Option.bind_eq_some_iff.mp H
                        obtain ⟨t183, A290, H⟩ := H
                        replace H : (some (t182 == t183)) = some r := H
                        have A29 := Aside0.mk A290
                        clear A290
                        obtain rfl := Option.some.inj H
                        try go_wp2_with (first | ((with_reducible refine gate_dst (N := 49) rfl ?_); (try (refine gate_guard (by rfl) ?_; dsimp only)); refine conv_event rfl (N := 49) rfl 9 35 _ rfl t168 rfl y172 Ny172.out Try.underlying9 Try.underlying35 Try.underlying5 ?_; intro co23 go23 w30 hg23 hcb hb; have n0_ := Aside0.mk (Kd.R_below (by (with_reducible repeat (first | apply Kd.R_alloc | apply Kd.R_drewN | apply Kd.R_drew)); exact HO_4.out) hb); have n1_ := Aside0.mk hcb; have n3_ := Aside0.mk ((by rw [hg23]; exact (below_size (by repeat (first | (with_reducible first | exact HB.out | apply below_alloc | apply pw_below_drewN | apply below_drew1) | exact HB.out))) : w.heap.size ≤ go23)); have n2_ := Aside0.mk (below_step (by repeat (first | (with_reducible first | exact HB.out | apply below_alloc | apply pw_below_drewN | apply below_drew1) | exact HB.out)) hb); clear HO_4; clear HB; have HO_4 := n0_; have HCB := n1_; have HB := n2_; have GB23 := n3_; clear n0_ n1_ n2_ n3_; clear hb hcb hg23; obtain ⟨Ao32, co32, eo32⟩ := Kd.R_slice HO_4.out; subst eo32; have p175 : 0 ≤ (0 : Int) := (by omega); have q175 : 0 < (t165.length : Int) := of_decide_eq_true (by first | (with_reducible assumption) | assumption); obtain ⟨ad175, e175, hx175_0⟩ := Kd.at_int (Kd.R_reads' HO_4.out).2.2 0 p175 q175; cases e175; have qi175 : (0 < t165.length) = True := eq_true (by omega); (try rw [show ((0 : Int)).toNat = 0 from rfl] at hx175_0); (try rw [Addr.add_zero'] at hx175_0); replace p175 := eq_true p175; replace q175 := eq_true q175))
                        have n0_ := Aside0.mk (Kd.R_drew HO_4.out)
                        have n1_ := Aside0.mk (CB_drew HCB.out)
                        have n2_ := Aside0.mk (below_drew1 HB.out)
                        clear HO_4
                        clear HCB
                        clear HB
                        have HO_4 := n0_
                        have HCB := n1_
                        have HB := n2_
                        clear n0_ n1_ n2_
                        have p176 : 0 ≤ ((ji19) : Int) := of_decide_eq_true (by first | (with_reducible assumption) | assumption)
                        have q176 : (ji19) < (y172.length : Int) := of_decide_eq_true (by first | (with_reducible assumption) | assumption)
                        have hx176_0 := (CB_at HCB.out (ji19) p176 q176).1
                        have HP35 := CB_put HCB.out (ji19) p176 q176 (Go.bits .xor .u8 (rd y172 (ji19)) ((wrap64 (1 + (Int.tmod (rd t165 1) 255))) % 256))
                        replace p176 := eq_true p176
                        replace q176 := eq_true q176
                        have p177 : 0 ≤ (1 : Int) := (by omega)
                        have q177 : 1 < (t165.length : Int) := of_decide_eq_true (by first | (with_reducible assumption) | assumption)
                        obtain ⟨ad177, e177, hx177_0⟩ := Kd.at_int (Kd.R_reads' HO_4.out).2.2 1 p177 q177
                        obtain rfl : ad175 = ad177 := (by injection e177)
                        (try simp only [show (1 : Int).toNat = 1 from rfl, Nat.reduceMul, Nat.reduceEqDiff, Go.Addr.add, ↓reduceIte] at hx177_0)
                        have qi177 : (1 < t165.length) = True := eq_true (by omega)
                        (try rw [show ((1 : Int)).toNat = 1 from rfl] at hx177_0)
                        replace p177 := eq_true p177
                        replace q177 := eq_true q177
                        have p23 : 0 ≤ ((ji19) : Int) := of_decide_eq_true (by first | (with_reducible assumption) | assumption)
                        have q23 : ((ji19) : Int) < ((y172.length : Int) : Int) := of_decide_eq_true (by first | (with_reducible assumption) | assumption)
                        (first | simp only [add_plain] at hx176_0 | skip)
                        obtain ⟨hx23_0, hf23_0⟩ := CB_at HCB.out (ji19) p23 q23
                        replace p23 := eq_true p23
                        replace q23 := eq_true q23
                        rw [← Ny178.out] at HP35
                        have HQ35 := Aside0.mk HP35
                        clear HP35
                        refine start_ (n := 15) (S := fun w' => w'.cell? ⟨go23, ((ji19)).toNat, none⟩ = some (.int .u8 (rd y172 (ji19))) ∧ w'.cell? ⟨ad175.block, ad175.off + 1, none⟩ = some (.int .i64 (rd t165 1))) (ds := [14]) #[false, false, false, false, false, false, false, false, false, false, false, false, false, false, false] (by kernel_rfl) rfl rfl ⟨hx176_0, hx177_0⟩ (fun hHeld => ?_); refine with_tabW laws_FnTurned.tab11 laws_FnTurned.bits11 (fun HT_ HW_ => ?_)
                        generalize w30.drew = w34 at HO_4 HCB HB HQ35 hf23_0 hx176_0 hx177_0 hx23_0 hHeld ⊢
                        refine pure_ (i := 0) (N := some 56) (v := ?_) (a' := ?_) #[true, false, false, false, false, false, false, false, false, false, false, false, false, false, false] rfl rfl (any_of HT_.out (by kernel_rfl)) (fun _ _ _ h => h) (Or.inl ⟨by rfl, ?_⟩) ?_ ?_
                        rotate_left
                        · intro w'
                          go_simp
                          with_reducible rfl
                        rotate_left
                        · simp only [Act.put, List.setIfInBounds_toArray, List.set_cons_zero, List.set_cons_succ, i64_w, i32_w]
                          rfl
                        refine pure_ (i := 1) (N := some 57) (v := ?_) (a' := ?_) #[true, true, false, false, false, false, false, false, false, false, false, false, false, false, false] rfl rfl (any_of HT_.out (by kernel_rfl)) (fun _ _ _ h => h) (Or.inl ⟨by rfl, ?_⟩) ?_ ?_
                        rotate_left
                        · intro w'
                          go_simp
                          with_reducible rfl
                        rotate_left
                        · simp only [Act.put, List.setIfInBounds_toArray, List.set_cons_zero, List.set_cons_succ, i64_w, i32_w]
                          rfl
                        refine pure_ (i := 2) (N := some 58) (v := ?_) (a' := ?_) #[true, true, true, false, false, false, false, false, false, false, false, false, false, false, false] rfl rfl (any_of HT_.out (by kernel_rfl)) (fun _ _ _ h => h) (Or.inl ⟨by rfl, ?_⟩) ?_ ?_
                        rotate_left
                        · intro w'
                          go_simp
                          with_reducible rfl
                        rotate_left
                        · simp only [Act.put, List.setIfInBounds_toArray, List.set_cons_zero, List.set_cons_succ, i64_w, i32_w]
                          rfl
                        refine pure_ (i := 3) (N := some 59) (v := ?_) (a' := ?_) #[true, true, true, true, false, false, false, false, false, false, false, false, false, false, false] rfl rfl (any_of HT_.out (by kernel_rfl)) (fun _ _ _ h => h) (Or.inl ⟨by rfl, ?_⟩) ?_ ?_
                        rotate_left
                        · intro w'
                          go_simp
                          with_reducible rfl
                        rotate_left
                        · simp only [Act.put, List.setIfInBounds_toArray, List.set_cons_zero, List.set_cons_succ, i64_w, i32_w]
                          rfl
                        refine pure_ (i := 4) (N := some 60) (v := ?_) (a' := ?_) #[true, true, true, true, true, false, false, false, false, false, false, false, false, false, false] rfl rfl (any_of HT_.out (by kernel_rfl)) (fun _ _ _ h => h) (Or.inl ⟨by rfl, ?_⟩) ?_ ?_
                        rotate_left
                        · intro w'
                          go_simp
                          with_reducible rfl
                        rotate_left
                        · simp only [Act.put, List.setIfInBounds_toArray, List.set_cons_zero, List.set_cons_succ, i64_w, i32_w]
                          rfl
                        refine pure_ (i := 6) (N := some 62) (v := ?_) (a' := ?_) #[true, true, true, true, true, false, true, false, false, false, false, false, false, false, false] rfl rfl (any_of HT_.out (by kernel_rfl)) (fun _ _ _ h => h) (Or.inl ⟨by rfl, ?_⟩) ?_ ?_
                        rotate_left
                        · intro w'
                          go_simp
                          with_reducible rfl
                        rotate_left
                        · simp only [Act.put, List.setIfInBounds_toArray, List.set_cons_zero, List.set_cons_succ, i64_w, i32_w]
                          rfl
                        refine pure_ (i := 7) (N := some 63) (v := ?_) (a' := ?_) #[true, true, true, true, true, false, true, true, false, false, false, false, false, false, false] rfl rfl (any_of HT_.out (by kernel_rfl)) (fun _ _ _ h => h) (Or.inl ⟨by rfl, ?_⟩) ?_ ?_
                        rotate_left
                        · intro w'
                          go_simp
                          with_reducible rfl
                        rotate_left
                        · simp only [Act.put, List.setIfInBounds_toArray, List.set_cons_zero, List.set_cons_succ, i64_w, i32_w]
                          rfl
                        refine take_ (i := 5) (N := some 61) (v := ?_) (a' := ?_) #[true, true, true, true, true, true, true, true, false, false, false, false, false, false, false] rfl rfl (take_ofW HT_.out HW_.out (by kernel_rfl)) (fun _ _ _ h => h) (Or.inl ⟨by rfl, ?_⟩) hHeld ?_ ?_
                        rotate_left
                        · rintro w' ⟨s0, s1⟩
                          go_simp
                          with_reducible rfl
                        rotate_left
                        · simp only [Act.put, List.setIfInBounds_toArray, List.set_cons_zero, List.set_cons_succ, i64_w, i32_w]
                          rfl
                        refine take_ (i := 8) (N := some 64) (v := ?_) (a' := ?_) #[true, true, true, true, true, true, true, true, true, false, false, false, false, false, false] rfl rfl (take_ofW HT_.out HW_.out (by kernel_rfl)) (fun _ _ _ h => h) (Or.inl ⟨by rfl, ?_⟩) hHeld ?_ ?_
                        rotate_left
                        · rintro w' ⟨s0, s1⟩
                          go_simp
                          with_reducible rfl
                        rotate_left
                        · simp only [Act.put, List.setIfInBounds_toArray, List.set_cons_zero, List.set_cons_succ, i64_w, i32_w]
                          rfl
                        refine pure_ (i := 9) (N := some 65) (v := ?_) (a' := ?_) #[true, true, true, true, true, true, true, true, true, true, false, false, false, false, false] rfl rfl (any_of HT_.out (by kernel_rfl)) (fun _ _ _ h => h) (Or.inl ⟨by rfl, ?_⟩) ?_ ?_
                        rotate_left
                        · intro w'
                          go_simp
                          with_reducible rfl
                        rotate_left
                        · simp only [Act.put, List.setIfInBounds_toArray, List.set_cons_zero, List.set_cons_succ, i64_w, i32_w]
                          rfl
                        refine pure_ (i := 10) (N := some 66) (v := ?_) (a' := ?_) #[true, true, true, true, true, true, true, true, true, true, true, false, false, false, false] rfl rfl (any_of HT_.out (by kernel_rfl)) (fun _ _ _ h => h) (Or.inl ⟨by rfl, ?_⟩) ?_ ?_
                        rotate_left
                        · intro w'
                          go_simp
                          with_reducible rfl
                        rotate_left
                        · simp only [Act.put, List.setIfInBounds_toArray, List.set_cons_zero, List.set_cons_succ, i64_w, i32_w]
                          rfl
                        refine pure_ (i := 11) (N := some 67) (v := ?_) (a' := ?_) #[true, true, true, true, true, true, true, true, true, true, true, true, false, false, false] rfl rfl (any_of HT_.out (by kernel_rfl)) (fun _ _ _ h => h) (Or.inl ⟨by rfl, ?_⟩) ?_ ?_
                        rotate_left
                        · intro w'
                          go_simp
                          with_reducible rfl
                        rotate_left
                        · simp only [Act.put, List.setIfInBounds_toArray, List.set_cons_zero, List.set_cons_succ, i64_w, i32_w]
                          rfl
                        refine pure_ (i := 12) (N := some 68) (v := ?_) (a' := ?_) #[true, true, true, true, true, true, true, true, true, true, true, true, true, false, false] rfl rfl (any_of HT_.out (by kernel_rfl)) (fun _ _ _ h => h) (Or.inl ⟨by rfl, ?_⟩) ?_ ?_
                        rotate_left
                        · intro w'
                          go_simp
                          with_reducible rfl
                        rotate_left
                        · simp only [Act.put, List.setIfInBounds_toArray, List.set_cons_zero, List.set_cons_succ, i64_w, i32_w]
                          rfl
                        refine pure_ (i := 13) (N := some 69) (v := ?_) (a' := ?_) #[true, true, true, true, true, true, true, true, true, true, true, true, true, true, false] rfl rfl (any_of HT_.out (by kernel_rfl)) (fun _ _ _ h => h) (Or.inl ⟨by rfl, ?_⟩) ?_ ?_
                        rotate_left
                        · intro w'
                          go_simp
                          with_reducible rfl
                        rotate_left
                        · simp only [Act.put, List.setIfInBounds_toArray, List.set_cons_zero, List.set_cons_succ, i64_w, i32_w]
                          rfl
                        refine last_ (i := 14) (N := none) #[true, true, true, true, true, true, true, true, true, true, true, true, true, true, true] rfl rfl (one_of HT_.out (by kernel_rfl)) (by decide) (fun K hK => ?_)
                        refine skip_ (w1 := ?_) (by rfl) rfl ?_ ?_
                        rotate_left
                        · go_simp
                          rfl
                        refine hK.out _ _ ?_
                        clear hK K
                        refine done_ (done_of HT_.out (by kernel_rfl)) ?_
                        have hcv36 := CC_string (P := Try.prog) (cap := co23) (n := y172.length) Try.underlying35 Try.underlying5 Try.underlying9 (by rw [Ny178.out, List.length_set]) HQ35.out
                        try go_wp2_with (first | ((with_reducible refine gate_callee (f := 16) rfl ?_); refine goesL_ (some 73) rfl rfl Try.func16 (by kernel_rfl) rfl #[.string (strOfNums y178)] rfl (by (try simp only [List.map_toArray, List.map_cons, List.map_nil]); first | done | rfl | (simp only [List.length_drop, List.length_take]; rfl)) ?_; (with_reducible refine (impl_Unsealed.calls kj7 (strOfNums y178) t179 false _ A24.out).mono ?_); rintro e w37 ⟨rfl, hb⟩; refine ⟨_, rfl, ?_⟩; have n2_ := Aside0.mk (below_step (by repeat (first | (with_reducible first | exact HB.out | apply below_alloc | apply pw_below_drewN | apply below_drew1 | refine below_set ?_ GB23.out) | exact HB.out)) hb); clear HB; have HB := n2_; clear n2_; (try clear hb); (try clear hb2); (try clear hk); (try clear hi)) | (go_at_call 29; (with_reducible refine (impl_SumOf.calls kj7 t164 t181 _ A26.out).mono ?_); rintro e w' ⟨rfl, ⟨nd, rfl⟩⟩) | (go_at_call 28; (with_reducible refine (impl_SumMore.calls kj7 t181 (⟨#[120]⟩ : ByteArray) t182 _ A27.out).mono ?_); rintro e w' ⟨rfl, ⟨nd, rfl⟩⟩) | (go_at_call 29; (with_reducible refine (impl_SumOf.calls kj7 (t164 ++ (⟨#[120]⟩ : ByteArray)) t183 _ A29.out).mono ?_); rintro e w' ⟨rfl, ⟨nd, rfl⟩⟩))
                        go_ret
                        exact ⟨by first | rfl | (simp [errW_none, errW_some] <;> rfl) | (simp only [← hji19]; first | rfl | (simp [errW_none, errW_some] <;> rfl)) | (simp [*, errW_none, errW_some] <;> rfl), by repeat (first | (with_reducible first | exact HB.out | apply below_alloc | apply pw_below_drewN | apply below_drew1) | exact HB.out)⟩
                      · rw [if_neg c28] at H
                        exact absurd H (by simp)
                  · rw [if_neg c22] at H
                    exact absurd H (by simp)
                · rw [if_neg c21] at H
                  exact absurd H (by simp)
              · rw [if_neg c20] at H
                exact absurd H (by simp)
          · rw [if_neg c17] at H
            exact absurd H (by simp)

/-- THE ONE PURE STATEMENT of laws_FnTurned: yours. -/
def laws_FnTurned.Pure : Prop := ∀ (l0 : List Int), l0.length ≤ maxLen → l0.length * 1 ≤ 140737488351232 → (∀ x ∈ l0, (Lit.int .u8 x).wf = true) → ∃ k, laws_FnTurned.f k l0 = some true
theorem laws_FnTurned.walk (P : laws_FnTurned.Pure) (a0 : Option Addr) (len0 cap0 : Nat) (z0 : List Int) (w : World) (w0 : (a0 = none ∧ len0 = 0 ∧ cap0 = 0 ∧ z0 = []) ∨ ∃ x, a0 = some x ∧ len0 ≤ cap0 ∧ cap0 ≤ maxLen ∧ z0.length = cap0 ∧ (∀ i, i < z0.length → w.cell? (x.add i) = some (.int .u8 (z0.getD i 0))) ∧ ∀ n ∈ z0, (Lit.int .u8 n).wf = true) (y0 : len0 * 1 ≤ 140737488351232) :
    Calls Try.prog 6 #[.slice a0 len0 cap0] w fun e w' => e = .returned (.bool true) ∧ Below w.heap.size w w' := by
  obtain ⟨l0, rfl, hr0, hm0, hw0, hc0⟩ := ReadsInt.ofRowC w0
  obtain ⟨k, h⟩ := P l0 hm0 y0 hw0
  refine (laws_FnTurned.calls k _ _ l0 true w (Kd.C_of_reads (d := (0 : Int)) (h1 := fun _ => rfl) hr0) hc0 h).mono ?_
  rintro e w' ⟨rfl, hd⟩
  exact ⟨rfl, hd⟩

end Go.Proofs.Ytdgefpifohfcgaa.VFnTurned
