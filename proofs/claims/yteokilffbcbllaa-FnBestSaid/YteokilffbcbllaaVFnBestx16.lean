-- Written by a program of this repo (wip/myprint.py), over the kit's print; functions that the print does not take stand in it by hand-proved contracts.
import Derived.Test.YteokilffbcbllaaVFnBestx0
namespace Go.Proofs.Yteokilffbcbllaa.VFnBest
open Go.RowKit Go.Proofs.YteokilffbcbllaaW.PrintWords Go.Proofs.YteokilffbcbllaaW.PrintLast Go.Proofs.YteokilffbcbllaaW.PrintMore
attribute [local go_sem] max2_int min2_int max_two min_two max_three min_three max_four min_four   -- for this text's walks alone
attribute [local go_sem high] str_leq str_gtr str_geq str_lss
set_option linter.unusedVariables false
set_option linter.unusedSimpArgs false

/-! ### spec_l03Copy: function 49 -/
def spec_l03Copy.f (l0_0 : List ByteArray) (l0_1 : List (S83)) : Option (List ByteArray × (List (S83))) := (some (([] : List ByteArray) : List ByteArray)).bind fun y366 => (if y366.length + l0_0.length < 8796093022208 then ((some (([] : List (S83)) : List (S83))).bind fun y372 => (if y372.length + l0_1.length < 5864062014805 then (some ((y366 ++ l0_0), (y372 ++ l0_1))) else (none))) else (none))
def spec_l03Copy.T1 : Bool × List (List Nat × List Nat) := (true, [([], []), ([], []), ([1], [1]), ([0, 2], [0, 2]), ([], []), ([], []), ([5], [5]), ([4, 6, 3], [4, 6]), ([3, 7], [3, 7]), ([8, 7, 0, 1, 2, 3, 4, 5, 6, 7, 8], [8])])
def spec_l03Copy.B1 : List Nat := [0, 0, 2, 7, 0, 0, 32, 127, 255, 511]
theorem spec_l03Copy.tab1 : rtab .any (opsOf Try.f49 1) = spec_l03Copy.T1 := by kernel_rfl
theorem spec_l03Copy.bits1 : waitsOk spec_l03Copy.T1.2 spec_l03Copy.B1 = true := by kernel_rfl
set_option maxHeartbeats 8000000 in
set_option maxRecDepth 100000 in
theorem spec_l03Copy.calls (A0_0 : Option Addr) (c0_0 : Nat) (l0_0 : List ByteArray) (A0_1 : Option Addr) (c0_1 : Nat) (l0_1 : List (S83)) (r1 : List ByteArray) (r2 : List (S83)) (w : World) (hr0_0 : Kd.C Kd.string w A0_0 l0_0.length l0_0) (hc0_0 : l0_0.length ≤ c0_0) (hr0_1 : Kd.C k83 w A0_1 l0_1.length l0_1) (hc0_1 : l0_1.length ≤ c0_1) (h : spec_l03Copy.f l0_0 l0_1 = some (r1, r2)) :
    Calls Try.prog 49 #[.agg #[.slice A0_0 l0_0.length c0_0, .slice A0_1 l0_1.length c0_1]] w fun e w' => ∃ v0_ v1_ : Value, e = .returned (.agg #[v0_, v1_]) ∧ Kd.R Kd.string 9 w' w.heap.size (fun _ => True) v0_ r1 ∧ Kd.R k83 83 w' w.heap.size (fun _ => True) v1_ r2 ∧ Below w.heap.size w w' := by
  have hu38 := Try.underlying38
  have HR0_0 := Aside0.mk hr0_0
  clear hr0_0 hc0_0
  have HR0_1 := Aside0.mk hr0_1
  clear hr0_1 hc0_1
  have HB := Aside0.mk (Below.refl w.heap.size w)
  unfold spec_l03Copy.f at h
  have H := h
  clear h
  obtain ⟨y366, hy366⟩ : ∃ y_ : List ByteArray, y_ = (([] : List ByteArray)) := ⟨_, rfl⟩
  replace H : (if y366.length + l0_0.length < 8796093022208 then ((some (([] : List (S83)) : List (S83))).bind fun y372 => (if y372.length + l0_1.length < 5864062014805 then (some ((y366 ++ l0_0), (y372 ++ l0_1))) else (none))) else (none)) = some (r1, r2) := by first | (rw [hy366]; with_reducible exact H) | (have H2_ := (Option.bind_some _ _).symm.trans H; rw [hy366]; with_reducible exact H2_) | (have H2_ := (Option.bind_some _ _).symm.trans H; with_reducible exact H2_) | with_reducible exact H | (rw [hy366]; exact H) | exact H
  have Ny366 := Aside0.mk hy366
  clear hy366
  by_cases c2 : y366.length + l0_0.length < 8796093022208
  case neg => exact qn c2 H
  rw [if_pos c2] at H
  have LMc2 := Aside0.mk c2
  clear c2
  obtain ⟨y369, hy369⟩ : ∃ y_ : List ByteArray, y_ = (y366 ++ l0_0) := ⟨_, rfl⟩
  replace H : ((some (([] : List (S83)) : List (S83))).bind fun y372 => (if y372.length + l0_1.length < 5864062014805 then (some (y369, (y372 ++ l0_1))) else (none))) = some (r1, r2) := by first | (rw [hy369]; with_reducible exact H) | (have H2_ := (Option.bind_some _ _).symm.trans H; rw [hy369]; with_reducible exact H2_) | (have H2_ := (Option.bind_some _ _).symm.trans H; with_reducible exact H2_) | with_reducible exact H | (rw [hy369]; exact H) | exact H
  have Ny369 := Aside0.mk hy369
  clear hy369
  obtain ⟨y372, hy372⟩ : ∃ y_ : List (S83), y_ = (([] : List (S83))) := ⟨_, rfl⟩
  replace H : (if y372.length + l0_1.length < 5864062014805 then (some (y369, (y372 ++ l0_1))) else (none)) = some (r1, r2) := by first | (rw [hy372]; with_reducible exact H) | (have H2_ := (Option.bind_some _ _).symm.trans H; rw [hy372]; with_reducible exact H2_) | (have H2_ := (Option.bind_some _ _).symm.trans H; with_reducible exact H2_) | with_reducible exact H | (rw [hy372]; exact H) | exact H
  have Ny372 := Aside0.mk hy372
  clear hy372
  by_cases c3 : y372.length + l0_1.length < 5864062014805
  case neg => exact qn c3 H
  rw [if_pos c3] at H
  have LMc3 := Aside0.mk c3
  clear c3
  obtain ⟨y375, hy375⟩ : ∃ y_ : List (S83), y_ = (y372 ++ l0_1) := ⟨_, rfl⟩
  replace H : (some (y369, y375)) = some (r1, r2) := by first | (rw [hy375]; with_reducible exact H) | (have H2_ := (Option.bind_some _ _).symm.trans H; rw [hy375]; with_reducible exact H2_) | (have H2_ := (Option.bind_some _ _).symm.trans H; with_reducible exact H2_) | with_reducible exact H | (rw [hy375]; exact H) | exact H
  have Ny375 := Aside0.mk hy375
  clear hy375
  simp only [Option.some.injEq, Prod.mk.injEq] at H
  obtain ⟨rfl, rfl⟩ := H
  go_enter Try.func49, Try.ntmps49
  try go_wp2_with (first | ((with_reducible refine gate_dst (N := 1) rfl ?_); refine qB 1 #[.slice A0_0 l0_0.length c0_0, .slice A0_1 l0_1.length c0_1] 38 ?_; intro gb364 hg w4 hbox hb; have BK364 := Aside0.mk (hbox); have GW364 := Aside0.mk ((zef : w.heap.size ≤ gb364)); have GE364 := GW364; replace HB := Aside0.mk (below_step za hb); clear hb hbox hg) | ((with_reducible refine gate_dst (N := 2) rfl ?_); refine qB 2 #[.slice none 0 0, .slice none 0 0] 38 ?_; intro gb365 hg w5 hbox hb; have BK365 := Aside0.mk (hbox); have GW365 := Aside0.mk ((by rw [hg]; exact (below_size (by repeat (first | (with_reducible first | exact HB.out | apply below_alloc | apply pw_below_drewN | apply below_drew1 | refine below_set ?_ GE364.out) | exact HB.out))) : w.heap.size ≤ gb365)); have GE365 := GW365; replace HB := Aside0.mk (below_step (by repeat (first | (with_reducible first | exact HB.out | apply below_alloc | apply pw_below_drewN | apply below_drew1 | refine below_set ?_ GE364.out) | exact HB.out)) hb); have NB364_365 := Aside0.mk ((by rw [hg]; exact Nat.ne_of_lt (bL BK364.out) : gb364 ≠ gb365)); have NB365_364 := Aside0.mk NB364_365.out.symm; replace BK364 := Aside0.mk (bB BK364.out hb); clear hb hbox hg))
  replace BK364 := Aside0.mk (blk_drew BK364.out)
  replace BK365 := Aside0.mk (blk_drew BK365.out)
  replace HB := Aside0.mk (below_drew1 HB.out)
  refine start_ (n := 10) (S := fun w' => w'.cell? ⟨gb364, 0, none⟩ = some (.slice A0_0 l0_0.length c0_0) ∧ w'.cell? ⟨gb364, 1, none⟩ = some (.slice A0_1 l0_1.length c0_1)) (ds := []) (bz 10 0) za5 rfl rfl ⟨qx BK364 0, qx BK364 1⟩ (fun hHeld => ?_); refine with_tabW spec_l03Copy.tab1 spec_l03Copy.bits1 (fun HT_ HW_ => ?_)
  generalize w5.drew = w6 at BK364 BK365 HB hHeld ⊢
  refine ql 1 (some 4) (bz 10 2) HT_ ?_
  refine ql 5 (some 8) (bz 10 34) HT_ ?_
  refine qt 2 (some 5) (bz 10 38) HT_ HW_ hHeld ?_
  refine qt 6 (some 9) (bz 10 102) HT_ HW_ hHeld ?_
  refine join_ (σ := Value × Value × Value) 3 (bz 10 127) (fun s_ => [(3, s_.1), (6, s_.2.1), (7, s_.2.2)]) (fun s_ w' => (w'.cell? ⟨gb364, 0, none⟩ = some (.slice A0_0 l0_0.length c0_0) ∧ w'.cell? ⟨gb364, 1, none⟩ = some (.slice A0_1 l0_1.length c0_1)) ∧ (Kd.R Kd.string 9 w' w.heap.size (fun _ => True) s_.2.1 y369) ∧ (Kd.R k83 83 w' w.heap.size (fun _ => True) s_.2.2 y372) ∧ (w'.heap[gb364]? = some (.cells #[.slice A0_0 l0_0.length c0_0, .slice A0_1 l0_1.length c0_1] 38 (0, 0))) ∧ (w'.heap[gb365]? = some (.cells #[.slice none 0 0, .slice none 0 0] 38 (0, 0))) ∧ (Below w.heap.size w w')) ?_ ?_
  rotate_left
  · intro hCont
    refine two_ (i := 0) (j := 4) (Ni := some 3) (Nj := some 7) (bz 10 103) (bz 10 118) rfl rfl rfl rfl (two_of HT_.out za5) zbf zbf (fun K hK => ?_) (fun K hK => ?_)
    · skip
      refine Kd.R_lit_step Kd.string _ 9 ?hg (N := 3) ?hd (xs := ([] : List ByteArray)) (inner := []) (ok := fun _ => True) (okp := fun _ => True) ?hr ?hp (fun _ hk => hk) trivial (Below.refl _ _) (Nat.le_refl _) zdw ?_; (case hd => rfl); (case hg => rfl); (case hr => first | (go_simp; done) | (go_simp; rfl)); (case hp => exact (Reps.none _ _))
      intro v367 w7 ho8 hb hg_ hnew_
      clear hg_ hnew_
      (first | rw [← Ny366.out] at ho8 | (simp only [Int.reduceToNat] at ho8; rw [← Ny366.out] at ho8))
      have HO368 := Aside0.mk (Kd.R_lower ho8 (below_size zo))
      replace BK364 := Aside0.mk (bB BK364.out hb)
      replace BK365 := Aside0.mk (bB BK365.out hb)
      replace HB := Aside0.mk (below_step zo hb)
      clear hb ho8
      refine hK.out _ _ ⟨qx BK364 0, qx BK364 1⟩ (fun hHeld => ?_)
      clear hK K
      refine qr (some 3) ?_
      refine two_ (i := 3) (j := 4) (Ni := some 6) (Nj := some 7) (bz 10 111) (bz 10 119) rfl rfl rfl rfl (two_of HT_.out za5) zbf zbf (fun K hK => ?_) (fun K hK => ?_)
      · skip
        refine Kd.R_append_rows_step Kd.string (w0 := w) w.heap.size zdy (.tmp 3) (.tmp 5) 30 9 (.string ⟨#[]⟩) 16 rfl Try.underlying30 info9 rfl zbf zd4 v367 y366 l0_0 _ _ _ (fun _ => True) (fun _ => False) rfl rfl ?aO ?aR (fun _ _ h => h) (fun _ h => h.elim) ?aF ?aB ?aS ?aL ?_
        (case aR => exact zao)
        (case aB => exact zo)
        (case aF => exact (fun _ _ => trivial))
        (case aO => exact zco)
        (case aS => exact (below_size zo))
        (case aL => have := LMc2.out; omega)
        intro v370 w9 ho hb hg hat
        rw [← Ny369.out] at ho
        replace BK364 := Aside0.mk (blk_grown (bP BK364.out) hg (Kd.R_ne HO368.out BK364.out zbf))
        replace BK365 := Aside0.mk (blk_grown (bP BK365.out) hg (Kd.R_ne HO368.out BK365.out zbf))
        replace HB := Aside0.mk (hb)
        have HO371 := Aside0.mk (ho)
        clear HO368
        clear ho hb hg hat
        refine hK.out _ _ ⟨qx BK364 0, qx BK364 1⟩ (fun hHeld => ?_)
        clear hK K
        refine qr (some 6) ?_
        refine qs 4 (some 7) (bz 10 127) HT_ rfl rfl (fun K hK => ?_)
        refine Kd.R_lit_step k83 _ 83 ?hg (N := 7) ?hd (xs := ([] : List (S83))) (inner := []) (ok := fun _ => True) (okp := fun _ => True) ?hr ?hp (fun _ hk => hk) trivial (Below.refl _ _) (Nat.le_refl _) zdw ?_; (case hd => rfl); (case hg => rfl); (case hr => first | (go_simp; done) | (go_simp; rfl)); (case hp => exact (Reps.none _ _))
        intro v373 w10 ho11 hb hg_ hnew_
        clear hg_ hnew_
        (first | rw [← Ny372.out] at ho11 | (simp only [Int.reduceToNat] at ho11; rw [← Ny372.out] at ho11))
        replace HO371 := Aside0.mk (Kd.R_below zc3 hb)
        have HO374 := Aside0.mk (Kd.R_lower ho11 (below_size zo))
        replace BK364 := Aside0.mk (bB BK364.out hb)
        replace BK365 := Aside0.mk (bB BK365.out hb)
        replace HB := Aside0.mk (below_step zo hb)
        clear hb ho11
        refine hK.out _ _ ⟨qx BK364 0, qx BK364 1⟩ (fun hHeld => ?_)
        clear hK K
        refine qr (some 7) ?_
        exact norm_ zeh (hCont (v367, v370, v373) _ ⟨hHeld, zc3, zb4, (bP BK364.out), (bP BK365.out), zo⟩)
      · skip
        refine Kd.R_lit_step k83 _ 83 ?hg (N := 7) ?hd (xs := ([] : List (S83))) (inner := []) (ok := fun _ => True) (okp := fun _ => True) ?hr ?hp (fun _ hk => hk) trivial (Below.refl _ _) (Nat.le_refl _) zdw ?_; (case hd => rfl); (case hg => rfl); (case hr => first | (go_simp; done) | (go_simp; rfl)); (case hp => exact (Reps.none _ _))
        intro v373 w9 ho10 hb hg_ hnew_
        clear hg_ hnew_
        (first | rw [← Ny372.out] at ho10 | (simp only [Int.reduceToNat] at ho10; rw [← Ny372.out] at ho10))
        replace HO368 := Aside0.mk (Kd.R_below zco hb)
        have HO374 := Aside0.mk (Kd.R_lower ho10 (below_size zo))
        replace BK364 := Aside0.mk (bB BK364.out hb)
        replace BK365 := Aside0.mk (bB BK365.out hb)
        replace HB := Aside0.mk (below_step zo hb)
        clear hb ho10
        refine hK.out _ _ ⟨qx BK364 0, qx BK364 1⟩ (fun hHeld => ?_)
        clear hK K
        refine qr (some 7) ?_
        refine qs 3 (some 6) (bz 10 127) HT_ rfl rfl (fun K hK => ?_)
        refine Kd.R_append_rows_step Kd.string (w0 := w) w.heap.size zdy (.tmp 3) (.tmp 5) 30 9 (.string ⟨#[]⟩) 16 rfl Try.underlying30 info9 rfl zbf zd4 v367 y366 l0_0 _ _ _ (fun _ => True) (fun _ => False) rfl rfl ?aO ?aR (fun _ _ h => h) (fun _ h => h.elim) ?aF ?aB ?aS ?aL ?_
        (case aR => exact zao)
        (case aB => exact zo)
        (case aF => exact (fun _ _ => trivial))
        (case aO => exact zco)
        (case aS => exact (below_size zo))
        (case aL => have := LMc2.out; omega)
        intro v370 w11 ho hb hg hat
        rw [← Ny369.out] at ho
        replace BK364 := Aside0.mk (blk_grown (bP BK364.out) hg (Kd.R_ne HO368.out BK364.out zbf))
        replace BK365 := Aside0.mk (blk_grown (bP BK365.out) hg (Kd.R_ne HO368.out BK365.out zbf))
        replace HO374 := Aside0.mk (Kd.R_over' zb4 (Kd.R_typed zco) zbf hg)
        replace HB := Aside0.mk (hb)
        have HO371 := Aside0.mk (ho)
        clear HO368
        clear ho hb hg hat
        refine hK.out _ _ ⟨qx BK364 0, qx BK364 1⟩ (fun hHeld => ?_)
        clear hK K
        refine qr (some 6) ?_
        exact norm_ zeh (hCont (v367, v370, v373) _ ⟨hHeld, zc3, zb4, (bP BK364.out), (bP BK365.out), zo⟩)
    · skip
      refine Kd.R_lit_step k83 _ 83 ?hg (N := 7) ?hd (xs := ([] : List (S83))) (inner := []) (ok := fun _ => True) (okp := fun _ => True) ?hr ?hp (fun _ hk => hk) trivial (Below.refl _ _) (Nat.le_refl _) zdw ?_; (case hd => rfl); (case hg => rfl); (case hr => first | (go_simp; done) | (go_simp; rfl)); (case hp => exact (Reps.none _ _))
      intro v373 w7 ho8 hb hg_ hnew_
      clear hg_ hnew_
      (first | rw [← Ny372.out] at ho8 | (simp only [Int.reduceToNat] at ho8; rw [← Ny372.out] at ho8))
      have HO374 := Aside0.mk (Kd.R_lower ho8 (below_size zo))
      replace BK364 := Aside0.mk (bB BK364.out hb)
      replace BK365 := Aside0.mk (bB BK365.out hb)
      replace HB := Aside0.mk (below_step zo hb)
      clear hb ho8
      refine hK.out _ _ ⟨qx BK364 0, qx BK364 1⟩ (fun hHeld => ?_)
      clear hK K
      refine qr (some 7) ?_
      refine qs 0 (some 3) (bz 10 119) HT_ rfl rfl (fun K hK => ?_)
      refine Kd.R_lit_step Kd.string _ 9 ?hg (N := 3) ?hd (xs := ([] : List ByteArray)) (inner := []) (ok := fun _ => True) (okp := fun _ => True) ?hr ?hp (fun _ hk => hk) trivial (Below.refl _ _) (Nat.le_refl _) zdw ?_; (case hd => rfl); (case hg => rfl); (case hr => first | (go_simp; done) | (go_simp; rfl)); (case hp => exact (Reps.none _ _))
      intro v367 w9 ho10 hb hg_ hnew_
      clear hg_ hnew_
      (first | rw [← Ny366.out] at ho10 | (simp only [Int.reduceToNat] at ho10; rw [← Ny366.out] at ho10))
      replace HO374 := Aside0.mk (Kd.R_below zb4 hb)
      have HO368 := Aside0.mk (Kd.R_lower ho10 (below_size zo))
      replace BK364 := Aside0.mk (bB BK364.out hb)
      replace BK365 := Aside0.mk (bB BK365.out hb)
      replace HB := Aside0.mk (below_step zo hb)
      clear hb ho10
      refine hK.out _ _ ⟨qx BK364 0, qx BK364 1⟩ (fun hHeld => ?_)
      clear hK K
      refine qr (some 3) ?_
      refine qs 3 (some 6) (bz 10 127) HT_ rfl rfl (fun K hK => ?_)
      refine Kd.R_append_rows_step Kd.string (w0 := w) w.heap.size zdy (.tmp 3) (.tmp 5) 30 9 (.string ⟨#[]⟩) 16 rfl Try.underlying30 info9 rfl zbf zd4 v367 y366 l0_0 _ _ _ (fun _ => True) (fun _ => False) rfl rfl ?aO ?aR (fun _ _ h => h) (fun _ h => h.elim) ?aF ?aB ?aS ?aL ?_
      (case aR => exact zao)
      (case aB => exact zo)
      (case aF => exact (fun _ _ => trivial))
      (case aO => exact zco)
      (case aS => exact (below_size zo))
      (case aL => have := LMc2.out; omega)
      intro v370 w11 ho hb hg hat
      rw [← Ny369.out] at ho
      replace BK364 := Aside0.mk (blk_grown (bP BK364.out) hg (Kd.R_ne HO368.out BK364.out zbf))
      replace BK365 := Aside0.mk (blk_grown (bP BK365.out) hg (Kd.R_ne HO368.out BK365.out zbf))
      replace HO374 := Aside0.mk (Kd.R_over' zb4 (Kd.R_typed zco) zbf hg)
      replace HB := Aside0.mk (hb)
      have HO371 := Aside0.mk (ho)
      clear HO368
      clear ho hb hg hat
      refine hK.out _ _ ⟨qx BK364 0, qx BK364 1⟩ (fun hHeld => ?_)
      clear hK K
      refine qr (some 6) ?_
      exact norm_ zeh (hCont (v367, v370, v373) _ ⟨hHeld, zc3, zb4, (bP BK364.out), (bP BK365.out), zo⟩)
  rintro ⟨v367, v370, v373⟩ w12 ⟨hS_, h0_, h1_, h2_, h3_, h4_⟩
  have n0_ : Aside0 (Kd.R Kd.string 9 w12 w.heap.size (fun _ => True) v370 y369) := ⟨h0_⟩
  have n1_ : Aside0 (Kd.R k83 83 w12 w.heap.size (fun _ => True) v373 y372) := ⟨h1_⟩
  have n2_ : Aside0 (w12.heap[gb364]? = some (.cells #[.slice A0_0 l0_0.length c0_0, .slice A0_1 l0_1.length c0_1] 38 (0, 0))) := ⟨h2_⟩
  have n3_ : Aside0 (w12.heap[gb365]? = some (.cells #[.slice none 0 0, .slice none 0 0] 38 (0, 0))) := ⟨h3_⟩
  have n4_ : Aside0 (Below w.heap.size w w12) := ⟨h4_⟩
  clear BK364
  clear BK365
  clear HB
  clear h0_ h1_ h2_ h3_ h4_
  have HO371 := n0_
  have HO374 := n1_
  have BK364 := n2_
  have BK365 := n3_
  have HB := n4_
  clear n0_ n1_ n2_ n3_ n4_
  have hHeld : w12.cell? ⟨gb364, 0, none⟩ = some (.slice A0_0 l0_0.length c0_0) ∧ w12.cell? ⟨gb364, 1, none⟩ = some (.slice A0_1 l0_1.length c0_1) := hS_
  refine norm_ (a' := ?_) ?_ ?_; rotate_left
  · simp only [putAll, Act.put, qa, qb, qc]
    rfl
  refine qs 7 (some 10) (bz 10 255) HT_ rfl rfl (fun K hK => ?_)
  refine Kd.R_append_rows_step k83 (w0 := w) w.heap.size zdy (.tmp 7) (.tmp 9) 36 83 (.agg #[(.int .i64 0), (.string ⟨#[]⟩)]) 24 rfl Try.underlying36 info83 rfl zbf zd4 v373 y372 l0_1 _ _ _ (fun _ => True) (fun _ => False) rfl rfl ?aO ?aR (fun _ _ h => h) (fun _ h => h.elim) ?aF ?aB ?aS ?aL ?_
  (case aR => exact zba)
  (case aB => exact zo)
  (case aF => exact (fun _ _ => trivial))
  (case aO => exact zb4)
  (case aS => exact (below_size zo))
  (case aL => have := LMc3.out; omega)
  intro v376 w13 ho hb hg hat
  rw [← Ny375.out] at ho
  replace BK364 := Aside0.mk (blk_grown (bP BK364.out) hg (Kd.R_ne HO374.out BK364.out zbf))
  replace BK365 := Aside0.mk (blk_grown (bP BK365.out) hg (Kd.R_ne HO374.out BK365.out zbf))
  replace HO371 := Aside0.mk (Kd.R_over' zc3 (Kd.R_typed zb4) zbf hg)
  replace HB := Aside0.mk (hb)
  have HO377 := Aside0.mk (ho)
  clear HO374
  clear ho hb hg hat
  obtain ⟨Ao14, co14, eo14⟩ := Kd.R_slice HO377.out
  (first | subst eo14 | (injection eo14 with f1_ f2_ f3_; have f4_ := f1_.symm; have f5_ := f3_.symm; clear f1_ f2_ f3_; subst f4_; subst f5_))
  obtain ⟨Ao15, co15, eo15⟩ := Kd.R_slice HO371.out
  (first | subst eo15 | (injection eo15 with f1_ f2_ f3_; have f4_ := f1_.symm; have f5_ := f3_.symm; clear f1_ f2_ f3_; subst f4_; subst f5_))
  refine hK.out _ _ ⟨qx BK364 0, qx BK364 1⟩ (fun hHeld => ?_)
  clear hK K
  refine qr (some 10) ?_
  refine ql 8 (some 11) (bz 10 511) HT_ ?_
  refine qs 9 (none) (bz 10 1023) HT_ rfl rfl (fun K hK => ?_)
  have hs16 : w13.cell? ⟨gb365, 0, none⟩ = some (.slice none 0 0) := qx BK365 0
  have hfs16 := blk_frozen BK365.out 0
  have hns16_0 := NB364_365.out
  have hms16_0 := NB365_364.out
  have hs17 : w13.cell? ⟨gb365, 1, none⟩ = some (.slice none 0 0) := qx BK365 1
  have hfs17 := blk_frozen BK365.out 1
  have hns17_0 := NB364_365.out
  have hms17_0 := NB365_364.out
  refine skip_ (w1 := ?_) zdy rfl ?_ ?_
  rotate_left
  · go_simp
    rfl
  refine hK.out _ _ ⟨((cell_far (p := ⟨gb365, _, none⟩) NB364_365.out _).trans (((cell_far (p := ⟨gb365, _, none⟩) NB364_365.out _).trans (hHeld.1)))), ((cell_far (p := ⟨gb365, _, none⟩) NB364_365.out _).trans (((cell_far (p := ⟨gb365, _, none⟩) NB364_365.out _).trans (hHeld.2))))⟩ (fun hHeld => ?_)
  clear hK K
  refine qu HT_ ?_
  try go_wp2
  refine bodyPost_ret (results_cell_row rfl _ _ gb365 38 #[.slice Ao15 y369.length co15, .slice Ao14 y375.length co14] (0, 0) _ rfl (p2 BK365.out) Try.underlying38 rfl za5) rfl ?_
  exact ⟨_, _, zc, Kd.R_mono (rK HO371.out BK365.out) (fun _ _ => trivial), Kd.R_mono (rK HO377.out BK365.out) (fun _ _ => trivial), zo⟩
end Go.Proofs.Yteokilffbcbllaa.VFnBest
