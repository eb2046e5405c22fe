-- Written by a program of this repo (wip/myprint.py), over the kit's print; functions that the print does not take stand in it by hand-proved contracts.
import Derived.Test.YteokilffbcbllaaVFnBestx0
import Derived.Test.YteokilffbcbllaaVFnBestx1
namespace Go.Proofs.Yteokilffbcbllaa.VFnBest
open Go.RowKit Go.Proofs.YteokilffbcbllaaW.PrintWords Go.Proofs.YteokilffbcbllaaW.PrintLast Go.Proofs.YteokilffbcbllaaW.PrintMore
attribute [local go_sem] max2_int min2_int max_two min_two max_three min_three max_four min_four   -- for this text's walks alone
attribute [local go_sem high] str_leq str_gtr str_geq str_lss
set_option linter.unusedVariables false
set_option linter.unusedSimpArgs false

/-- A state of type 102 at block g of W; what its slices lead to came in by w0. -/
def IsS102 (w0 W : World) (g : Nat) (f0 : List Int) (f1 : Int) (f2 : Int) : Prop := ∃ A0 c0, W.heap[g]? = some (.cells #[.slice A0 f0.length c0, .int .i64 f1, .int .i64 f2] 102 (0, 0)) ∧ w0.heap.size ≤ g ∧ Kd.C (Kd.int .u8) w0 A0 f0.length f0
theorem IsS102.grown {w0 W : World} {g : Nat} {f0 : List Int} {f1 : Int} {f2 : Int} {W1 : World} {row : Option Nat} (h : IsS102 w0 W g f0 f1 f2) (hw : W.grownBy W1 row) (hne : some g ≠ row) : IsS102 w0 W1 g f0 f1 f2 := by
  obtain ⟨A0, c0, hb, hg, hr0⟩ := h
  exact ⟨A0, c0, blk_grown hb hw hne, hg, hr0⟩
theorem IsS102.own_neN {w0 W : World} {g : Nat} {f0 : List Int} {f1 : Int} {f2 : Int} {α : Type} {d : Kd α} {e : Nat} {base : Nat} {ok : Nat → Prop} {v : Value} {xs : List α} (h : IsS102 w0 W g f0 f1 f2) (ho : Kd.N d e W base ok v xs) (ht : e ≠ 102) : some g ≠ v.ownBlock := by
  obtain ⟨A0, c0, hb, hg, hr0⟩ := h
  exact Kd.N_ne ho hb ht
theorem IsS102.fresh {w0 W : World} {g : Nat} {f0 : List Int} {f1 : Int} {f2 : Int} (h : IsS102 w0 W g f0 f1 f2) : ∀ k, W.heap.size ≤ k → k ≠ g := by
  obtain ⟨A0, c0, hb, hg, hr0⟩ := h
  exact Kd.freshB hb
theorem IsS102.kept {w0 W : World} {g : Nat} {f0 : List Int} {f1 : Int} {f2 : Int} {W1 : World} {S : Nat → Prop} (h : IsS102 w0 W g f0 f1 f2) (hk : Kept W W1 S) (hne : ¬ S g) : IsS102 w0 W1 g f0 f1 f2 := by
  obtain ⟨A0, c0, hb, hg, hr0⟩ := h
  exact ⟨A0, c0, blk_kept hb hk hne, hg, hr0⟩
theorem IsS102.below {w0 W : World} {g : Nat} {f0 : List Int} {f1 : Int} {f2 : Int} {W1 : World} (h : IsS102 w0 W g f0 f1 f2) (hw : Below W.heap.size W W1) : IsS102 w0 W1 g f0 f1 f2 := h.grown (grown_of_below hw none) zdw
theorem IsS102.alloc {w0 W : World} {g : Nat} {f0 : List Int} {f1 : Int} {f2 : Int} (h : IsS102 w0 W g f0 f1 f2) (o : Obj) : IsS102 w0 (W.alloc o) g f0 f1 f2 := h.below (below_alloc (Below.refl _ _) o)
theorem IsS102.drewN {w0 W : World} {g : Nat} {f0 : List Int} {f1 : Int} {f2 : Int} (h : IsS102 w0 W g f0 f1 f2) (m : Nat) : IsS102 w0 (W.drewN m) g f0 f1 f2 := h
theorem IsS102.drew {w0 W : World} {g : Nat} {f0 : List Int} {f1 : Int} {f2 : Int} (h : IsS102 w0 W g f0 f1 f2) : IsS102 w0 W.drew g f0 f1 f2 := h
theorem IsS102.at_ {w0 W : World} {g : Nat} {f0 : List Int} {f1 : Int} {f2 : Int} {w' : World} {m : Nat} (hq : W.drewN m = w') (h : IsS102 w0 W g f0 f1 f2) : IsS102 w0 w' g f0 f1 f2 := by subst hq; exact IsS102.drewN h m
theorem IsS102.apart {w0 W : World} {g : Nat} {f0 : List Int} {f1 : Int} {f2 : Int} {α : Type} {d : Kd α} {e : Nat} {base : Nat} {ok : Nat → Prop} {v : Value} {xs : List α} (h : IsS102 w0 W g f0 f1 f2) (ho : d.R e W base ok v xs) (ht : ∀ q, q ∈ e :: d.E → q ≠ 102) : d.R e W base (fun k => ok k ∧ k ≠ g) v xs := by
  obtain ⟨A0, c0, hb, hg, hr0⟩ := h
  exact Kd.R_types ho hb ht
theorem IsS102.own_ne {w0 W : World} {g : Nat} {f0 : List Int} {f1 : Int} {f2 : Int} {α : Type} {d : Kd α} {e : Nat} {base : Nat} {ok : Nat → Prop} {v : Value} {xs : List α} (h : IsS102 w0 W g f0 f1 f2) (ho : d.R e W base ok v xs) (ht : e ≠ 102) : some g ≠ v.ownBlock := by
  obtain ⟨A0, c0, hb, hg, hr0⟩ := h
  exact Kd.R_ne ho hb ht
theorem IsS102.apartQ {w0 W : World} {g : Nat} {f0 : List Int} {f1 : Int} {f2 : Int} {α : Type} {d : Kd α} {e : Nat} {base : Nat} {ok : Nat → Prop} {v : Value} {xs : List α} (h : IsS102 w0 W g f0 f1 f2) (ho : d.Q e W base ok v xs) (ht : ∀ q, q ∈ e :: d.E → q ≠ 102) : d.Q e W base (fun k => ok k ∧ k ≠ g) v xs := by
  obtain ⟨A0, c0, hb, hg, hr0⟩ := h
  exact Kd.Q_types ho hb ht
theorem IsS102.own_neQ {w0 W : World} {g : Nat} {f0 : List Int} {f1 : Int} {f2 : Int} {α : Type} {d : Kd α} {e : Nat} {base : Nat} {ok : Nat → Prop} {v : Value} {xs : List α} (h : IsS102 w0 W g f0 f1 f2) (ho : d.Q e W base ok v xs) (ht : e ≠ 102) : some g ≠ v.ownBlock := by
  obtain ⟨A0, c0, hb, hg, hr0⟩ := h
  exact Kd.Q_ne ho hb ht
theorem IsS102.apartS {w0 W : World} {g : Nat} {f0 : List Int} {f1 : Int} {f2 : Int} {α : Type} {d : Kd α} {e : Nat} {base : Nat} {ok : Nat → Prop} {v : Value} {xs : List α} (h : IsS102 w0 W g f0 f1 f2) (ho : d.S e W base ok v xs) (ht : ∀ q, q ∈ e :: d.E → q ≠ 102) : d.S e W base (fun k => ok k ∧ k ≠ g) v xs := by
  obtain ⟨A0, c0, hb, hg, hr0⟩ := h
  exact Kd.S_types ho hb ht
theorem IsS102.own_neS {w0 W : World} {g : Nat} {f0 : List Int} {f1 : Int} {f2 : Int} {α : Type} {d : Kd α} {e : Nat} {base : Nat} {ok : Nat → Prop} {v : Value} {xs : List α} (h : IsS102 w0 W g f0 f1 f2) (ho : d.S e W base ok v xs) (ht : e ≠ 102) : some g ≠ v.ownBlock := by
  obtain ⟨A0, c0, hb, hg, hr0⟩ := h
  exact Kd.S_ne ho hb ht
theorem IsS102.lt {w0 W : World} {g : Nat} {f0 : List Int} {f1 : Int} {f2 : Int} (h : IsS102 w0 W g f0 f1 f2) : g < W.heap.size := by
  obtain ⟨A0, c0, hb, hg, hr0⟩ := h
  exact blk_lt hb
theorem IsS102.ge {w0 W : World} {g : Nat} {f0 : List Int} {f1 : Int} {f2 : Int} (h : IsS102 w0 W g f0 f1 f2) : w0.heap.size ≤ g := by
  obtain ⟨A0, c0, hb, hg, hr0⟩ := h
  exact hg
theorem IsS102.ne_blk {w0 W : World} {g : Nat} {f0 : List Int} {f1 : Int} {f2 : Int} {a : Nat} {cs : Array Value} {t : TypeId} {fr : Nat × Nat} (h : IsS102 w0 W g f0 f1 f2) (hb2 : W.heap[a]? = some (.cells cs t fr)) (ht : t ≠ 102) : g ≠ a := by
  obtain ⟨A0, c0, hb, hg, hr0⟩ := h
  rintro rfl
  rw [hb] at hb2
  injection hb2 with hb2
  injection hb2 with _ ht2
  exact ht ht2.symm
theorem IsS102.far {w0 W : World} {g : Nat} {f0 : List Int} {f1 : Int} {f2 : Int} {p : Addr} (h : IsS102 w0 W g f0 f1 f2) (hne : g ≠ p.block) (u : Value) : IsS102 w0 (W.setCell p u) g f0 f1 f2 := by
  obtain ⟨A0, c0, hb, hg, hr0⟩ := h
  exact ⟨A0, c0, blk_far hb hne u, hg, hr0⟩
theorem cellS102_0 {W : World} {g : Nat} {A0 : Option Addr} {c0 : Nat} {f0 : List Int} {f1 : Int} {f2 : Int} (h : W.heap[g]? = some (.cells #[.slice A0 f0.length c0, .int .i64 f1, .int .i64 f2] 102 (0, 0))) : W.cell? ⟨g, 0, none⟩ = some (.slice A0 f0.length c0) := (blk_cell h 0).trans rfl
theorem cellS102_1 {W : World} {g : Nat} {A0 : Option Addr} {c0 : Nat} {f0 : List Int} {f1 : Int} {f2 : Int} (h : W.heap[g]? = some (.cells #[.slice A0 f0.length c0, .int .i64 f1, .int .i64 f2] 102 (0, 0))) : W.cell? ⟨g, 1, none⟩ = some (.int .i64 f1) := (blk_cell h 1).trans rfl
theorem IsS102.set_1 {w0 W : World} {g : Nat} {f0 : List Int} {f1 : Int} {f2 : Int} (h : IsS102 w0 W g f0 f1 f2) (x : Int) : IsS102 w0 (W.setCell ⟨g, 1, none⟩ (.int .i64 x)) g f0 x f2 := by
  obtain ⟨A0, c0, hb, hg, hr0⟩ := h
  exact ⟨A0, c0, by simpa using blk_set hb 1 (.int .i64 x), hg, hr0⟩
theorem cellS102_2 {W : World} {g : Nat} {A0 : Option Addr} {c0 : Nat} {f0 : List Int} {f1 : Int} {f2 : Int} (h : W.heap[g]? = some (.cells #[.slice A0 f0.length c0, .int .i64 f1, .int .i64 f2] 102 (0, 0))) : W.cell? ⟨g, 2, none⟩ = some (.int .i64 f2) := (blk_cell h 2).trans rfl
theorem IsS102.set_2 {w0 W : World} {g : Nat} {f0 : List Int} {f1 : Int} {f2 : Int} (h : IsS102 w0 W g f0 f1 f2) (x : Int) : IsS102 w0 (W.setCell ⟨g, 2, none⟩ (.int .i64 x)) g f0 f1 x := by
  obtain ⟨A0, c0, hb, hg, hr0⟩ := h
  exact ⟨A0, c0, by simpa using blk_set hb 2 (.int .i64 x), hg, hr0⟩
theorem IsS102.new (w0 W : World) (A0 : Option Addr) (c0 : Nat) (f0 : List Int) (f1 : Int) (f2 : Int) (hB : Below w0.heap.size w0 W) (hr0 : Kd.C (Kd.int .u8) w0 A0 f0.length f0) : IsS102 w0 (W.alloc (.cells #[.slice A0 f0.length c0, .int .i64 f1, .int .i64 f2] 102)) W.heap.size f0 f1 f2 := ⟨A0, c0, by simpa using heap_alloc_new W _, hB.size, hr0⟩

/-! ### spec_l01Byte: function 74 -/
def spec_l01Byte.f (s0_0 : List Int) (s0_1 : Int) (s0_2 : Int) : Option (Int × Int × Int) := if s0_1 < (s0_0.length : Int) then (if 0 ≤ s0_1 then (some (Go.bits .and .i64 (wrap64 ((Go.bits .and .i64 (Go.bits .xor .i64 ((wrap64 ((wrap64 (s0_2 * 6364136223846793005)) + 1442695040888963407)) / 8589934592) ((wrap64 ((wrap64 (s0_2 * 6364136223846793005)) + 1442695040888963407)) / 35184372088832)) 255) + (wrap64 (rd s0_0 s0_1)))) 255, wrap64 (s0_1 + 1), wrap64 ((wrap64 (s0_2 * 6364136223846793005)) + 1442695040888963407))) else (none)) else (some (Go.bits .and .i64 (Go.bits .xor .i64 ((wrap64 ((wrap64 (s0_2 * 6364136223846793005)) + 1442695040888963407)) / 8589934592) ((wrap64 ((wrap64 (s0_2 * 6364136223846793005)) + 1442695040888963407)) / 35184372088832)) 255, s0_1, wrap64 ((wrap64 (s0_2 * 6364136223846793005)) + 1442695040888963407)))
set_option maxHeartbeats 8000000 in
set_option maxRecDepth 100000 in
theorem spec_l01Byte.calls (g : Nat) (s0_0 : List Int) (s0_1 : Int) (s0_2 : Int) (r1 : Int) (r2 : Int) (r3 : Int) (w0 w : World) (hI : IsS102 w0 w g s0_0 s0_1 s0_2) (hB : Below w0.heap.size w0 w) (h : spec_l01Byte.f s0_0 s0_1 s0_2 = some (r1, r2, r3)) :
    Calls Try.prog 74 #[.pointer (some ⟨g, 0, none⟩)] w fun e w' => e = .returned (.int .i64 r1) ∧ IsS102 w0 w' g s0_0 r2 r3 ∧ Below w0.heap.size w0 w' ∧ KeepBut w w' g none := by
  have HI0 := Aside0.mk hI
  have HK := Aside0.mk (KeepBut.refl w g none)
  clear hI
  have HB := Aside0.mk hB
  clear hB
  unfold spec_l01Byte.f at h
  have H := h
  clear h
  by_cases c2 : s0_1 < (s0_0.length : Int)
  case neg =>
    rw [if_neg c2] at H
    have c2b0 := decide_eq_false c2
    clear c2
    simp only [Option.some.injEq, Prod.mk.injEq] at H
    obtain ⟨rfl, rfl, rfl⟩ := H
    obtain ⟨ASz5_0, cSz5_0, HGz5, hgz5, HSz5_0⟩ := HI0.out
    have hcz5_0 := cellS102_0 HGz5
    have hcz5_1 := cellS102_1 HGz5
    have hcz5_2 := cellS102_2 HGz5
    have hfz5_1 := blk_frozen HGz5 1
    have hfz5_2 := blk_frozen HGz5 2
    clear HGz5 hgz5
    go_enter Try.func74, Try.ntmps74
    go_wp2
    repeat (go_quiet (fail); try go_wp2)
    go_ret
    exact ⟨zc, z2, z3, zn⟩

  rw [if_pos c2] at H
  have c2b0 := decide_eq_true c2
  clear c2
  by_cases c3 : 0 ≤ s0_1
  case neg => exact qn c3 H
  rw [if_pos c3] at H
  have c3b0 := decide_eq_true c3
  clear c3
  simp only [Option.some.injEq, Prod.mk.injEq] at H
  obtain ⟨rfl, rfl, rfl⟩ := H
  obtain ⟨ASz4_0, cSz4_0, HGz4, hgz4, HSz4_0⟩ := HI0.out
  have hcz4_0 := cellS102_0 HGz4
  have hcz4_1 := cellS102_1 HGz4
  have hcz4_2 := cellS102_2 HGz4
  have hfz4_1 := blk_frozen HGz4 1
  have hfz4_2 := blk_frozen HGz4 2
  clear HGz4 hgz4
  have p299 : 0 ≤ (s0_1 : Int) := of_decide_eq_true zb
  have q299 : s0_1 < (s0_0.length : Int) := of_decide_eq_true zb
  obtain ⟨ad299, e299, hx299_0⟩ := Kd.at_int HSz4_0 s0_1 p299 q299
  cases e299
  have hn299_0 : ad299.block ≠ g := Nat.ne_of_lt (Nat.lt_of_lt_of_le (by have := World.block_lt_of_cell? _ _ hx299_0; first | rwa [add_block] at this | exact this) (IsS102.ge HI0.out))
  replace hx299_0 := pw_cell_below HB.out hx299_0
  replace hx299_0 := (cell_far (p := ⟨g, 2, none⟩) (by first | (rw [add_block]; exact hn299_0) | (show (Addr.add _ _).block ≠ _; rw [add_block]; exact hn299_0) | exact hn299_0) (.int .i64 (wrap64 ((wrap64 (s0_2 * 6364136223846793005)) + 1442695040888963407)))).trans hx299_0
  (try have hy299_0 := fun (n_ : Nat) => (show (((w.drewN n_).setCell ⟨g, 2, none⟩ (.int .i64 (wrap64 ((wrap64 (s0_2 * 6364136223846793005)) + 1442695040888963407))))).cell? _ = some _ from hx299_0))
  clear hn299_0
  replace p299 := eq_true p299
  replace q299 := eq_true q299
  go_enter Try.func74, Try.ntmps74
  go_wp2
  repeat (go_quiet (fail); try go_wp2)
  go_ret
  exact ⟨zc, z2, z3, zn⟩
/-! ### spec_l01Below: function 53 -/
def spec_l01Below.f (s0_0 : List Int) (s0_1 : Int) (s0_2 : Int) (a1 : Int) : Option (Int × Int × Int) := if a1 ≤ 0 then (some (0, s0_1, s0_2)) else (if a1 ≤ 256 then ((spec_l01Byte.f s0_0 s0_1 s0_2).bind fun bt300 => (if a1 = 0 then (none) else (some (Int.tmod bt300.1 a1, bt300.2.1, bt300.2.2)))) else ((spec_l01Byte.f s0_0 s0_1 s0_2).bind fun bt303 => ((spec_l01Byte.f s0_0 bt303.2.1 bt303.2.2).bind fun bt306 => ((spec_l01Byte.f s0_0 bt306.2.1 bt306.2.2).bind fun bt309 => ((spec_l01Byte.f s0_0 bt309.2.1 bt309.2.2).bind fun bt312 => (if a1 = 0 then (none) else (some (Int.tmod (wrap64 ((wrap64 ((wrap64 ((wrap64 (bt303.1 * 16777216)) + (wrap64 (bt306.1 * 65536)))) + (wrap64 (bt309.1 * 256)))) + bt312.1)) a1, bt312.2.1, bt312.2.2))))))))
set_option maxHeartbeats 8000000 in
set_option maxRecDepth 100000 in
theorem spec_l01Below.calls (g : Nat) (s0_0 : List Int) (s0_1 : Int) (s0_2 : Int) (a1 : Int) (r1 : Int) (r2 : Int) (r3 : Int) (w0 w : World) (hI : IsS102 w0 w g s0_0 s0_1 s0_2) (hB : Below w0.heap.size w0 w) (h : spec_l01Below.f s0_0 s0_1 s0_2 a1 = some (r1, r2, r3)) :
    Calls Try.prog 53 #[.pointer (some ⟨g, 0, none⟩), .int .i64 a1] w fun e w' => e = .returned (.int .i64 r1) ∧ IsS102 w0 w' g s0_0 r2 r3 ∧ Below w0.heap.size w0 w' ∧ KeepBut w w' g none := by
  have HI0 := Aside0.mk hI
  have HK := Aside0.mk (KeepBut.refl w g none)
  clear hI
  have HB := Aside0.mk hB
  clear hB
  unfold spec_l01Below.f at h
  have H := h
  clear h
  by_cases c3 : a1 ≤ 0
  case pos =>
    rw [if_pos c3] at H
    have c3b0 := decide_eq_true c3
    clear c3
    simp only [Option.some.injEq, Prod.mk.injEq] at H
    obtain ⟨rfl, rfl, rfl⟩ := H
    go_enter Try.func53, Try.ntmps53
    go_wp2
    go_ret
    exact ⟨zc, z2, z3, zn⟩
  rw [if_neg c3] at H
  have c3b0 := decide_eq_false c3
  clear c3
  by_cases c4 : a1 ≤ 256
  case pos =>
    rw [if_pos c4] at H
    have c4b0 := decide_eq_true c4
    clear c4
    replace H := qi H
    obtain ⟨⟨t300, t301, t302⟩, A5, H⟩ := H
    dsimp only at H
    by_cases c6 : a1 = 0
    case pos => rw [if_pos c6] at H; exact absurd H zdw
    rw [if_neg c6] at H
    have c6b0 : (a1 == 0) = false := beq_eq_false_iff_ne.mpr c6
    have c6b1 : (a1 != 0) = true := bne_iff_ne.mpr c6
    simp only [Option.some.injEq, Prod.mk.injEq] at H
    obtain ⟨rfl, rfl, rfl⟩ := H
    go_enter Try.func53, Try.ntmps53
    go_wp2_with (first | ((with_reducible refine gate_callee (f := 74) rfl ?_); refine qG (some 14) Try.func74 #[.pointer (some ⟨g, 0, none⟩)] ?_; (with_reducible refine (spec_l01Byte.calls g s0_0 s0_1 s0_2 t300 t301 t302 w0 _ ?side1 ?side2 A5.out).mono ?_); (case side1 => exact z2); (case side2 => exact z3); rintro e w7 ⟨rfl, hi, hb, hk⟩; refine ⟨_, rfl, ?_⟩; replace HK := Aside0.mk (KeepBut.trans zn hk (.inl rfl)); replace HB := Aside0.mk (hb); replace HI0 := Aside0.mk (hi); try clear hb hk hi))
    go_ret
    exact ⟨zc, z2, z3, zn⟩
  rw [if_neg c4] at H
  have c4b0 := decide_eq_false c4
  clear c4
  replace H := qi H
  obtain ⟨⟨t303, t304, t305⟩, A8, H⟩ := H
  dsimp only at H
  replace H := qi H
  obtain ⟨⟨t306, t307, t308⟩, A9, H⟩ := H
  dsimp only at H
  replace H := qi H
  obtain ⟨⟨t309, t310, t311⟩, A10, H⟩ := H
  dsimp only at H
  replace H := qi H
  obtain ⟨⟨t312, t313, t314⟩, A11, H⟩ := H
  dsimp only at H
  by_cases c12 : a1 = 0
  case pos => rw [if_pos c12] at H; exact absurd H zdw
  rw [if_neg c12] at H
  have c12b0 : (a1 == 0) = false := beq_eq_false_iff_ne.mpr c12
  have c12b1 : (a1 != 0) = true := bne_iff_ne.mpr c12
  simp only [Option.some.injEq, Prod.mk.injEq] at H
  obtain ⟨rfl, rfl, rfl⟩ := H
  go_enter Try.func53, Try.ntmps53
  go_wp2_with (first | ((with_reducible refine gate_callee (f := 74) rfl ?_); refine qG (some 18) Try.func74 #[.pointer (some ⟨g, 0, none⟩)] ?_; (with_reducible refine (spec_l01Byte.calls g s0_0 s0_1 s0_2 t303 t304 t305 w0 _ ?side1 ?side2 A8.out).mono ?_); (case side1 => exact z2); (case side2 => exact z3); rintro e w13 ⟨rfl, hi, hb, hk⟩; refine ⟨_, rfl, ?_⟩; replace HK := Aside0.mk (KeepBut.trans zn hk (.inl rfl)); replace HB := Aside0.mk (hb); replace HI0 := Aside0.mk (hi); try clear hb hk hi) | ((with_reducible refine gate_callee (f := 74) rfl ?_); refine qG (some 20) Try.func74 #[.pointer (some ⟨g, 0, none⟩)] ?_; (with_reducible refine (spec_l01Byte.calls g s0_0 t304 t305 t306 t307 t308 w0 _ ?side1 ?side2 A9.out).mono ?_); (case side1 => exact z2); (case side2 => exact z3); rintro e w14 ⟨rfl, hi, hb, hk⟩; refine ⟨_, rfl, ?_⟩; replace HK := Aside0.mk (KeepBut.trans zn hk (.inl rfl)); replace HB := Aside0.mk (hb); replace HI0 := Aside0.mk (hi); try clear hb hk hi) | ((with_reducible refine gate_callee (f := 74) rfl ?_); refine qG (some 22) Try.func74 #[.pointer (some ⟨g, 0, none⟩)] ?_; (with_reducible refine (spec_l01Byte.calls g s0_0 t307 t308 t309 t310 t311 w0 _ ?side1 ?side2 A10.out).mono ?_); (case side1 => exact z2); (case side2 => exact z3); rintro e w15 ⟨rfl, hi, hb, hk⟩; refine ⟨_, rfl, ?_⟩; replace HK := Aside0.mk (KeepBut.trans zn hk (.inl rfl)); replace HB := Aside0.mk (hb); replace HI0 := Aside0.mk (hi); try clear hb hk hi) | ((with_reducible refine gate_callee (f := 74) rfl ?_); refine qG (some 24) Try.func74 #[.pointer (some ⟨g, 0, none⟩)] ?_; (with_reducible refine (spec_l01Byte.calls g s0_0 t310 t311 t312 t313 t314 w0 _ ?side1 ?side2 A11.out).mono ?_); (case side1 => exact z2); (case side2 => exact z3); rintro e w16 ⟨rfl, hi, hb, hk⟩; refine ⟨_, rfl, ?_⟩; replace HK := Aside0.mk (KeepBut.trans zn hk (.inl rfl)); replace HB := Aside0.mk (hb); replace HI0 := Aside0.mk (hi); try clear hb hk hi))
  go_ret
  exact ⟨zc, z2, z3, zn⟩

/-! ### spec_l01PickInt: function 71 -/
def spec_l01PickInt.f (s0_0 : List Int) (s0_1 : Int) (s0_2 : Int) (l1 : List Int) : Option (Int × Int × Int) := (spec_l01Below.f s0_0 s0_1 s0_2 (l1.length : Int)).bind fun bt315 => (if 0 ≤ bt315.1 then (if bt315.1 < (l1.length : Int) then (some (rd l1 bt315.1, bt315.2.1, bt315.2.2)) else (none)) else (none))
set_option maxHeartbeats 8000000 in
set_option maxRecDepth 100000 in
theorem spec_l01PickInt.calls (g : Nat) (s0_0 : List Int) (s0_1 : Int) (s0_2 : Int) (A1 : Option Addr) (c1 : Nat) (l1 : List Int) (r1 : Int) (r2 : Int) (r3 : Int) (w0 w : World) (hI : IsS102 w0 w g s0_0 s0_1 s0_2) (hB : Below w0.heap.size w0 w) (hr1 : Kd.C (Kd.int .i64) w A1 l1.length l1) (hc1 : l1.length ≤ c1) (hf1 : ∀ ad, A1 = some ad → 0 < l1.length → ad.block ≠ g) (h : spec_l01PickInt.f s0_0 s0_1 s0_2 l1 = some (r1, r2, r3)) :
    Calls Try.prog 71 #[.pointer (some ⟨g, 0, none⟩), .slice A1 l1.length c1] w fun e w' => e = .returned (.int .i64 r1) ∧ IsS102 w0 w' g s0_0 r2 r3 ∧ Below w0.heap.size w0 w' ∧ KeepBut w w' g none := by
  have HR1 := Aside0.mk hr1
  clear hr1 hc1
  have HI0 := Aside0.mk hI
  have HK := Aside0.mk (KeepBut.refl w g none)
  clear hI
  have HB := Aside0.mk hB
  clear hB
  unfold spec_l01PickInt.f at h
  have H := h
  clear h
  replace H := qi H
  obtain ⟨⟨t315, t316, t317⟩, A3, H⟩ := H
  dsimp only at H
  by_cases c4 : 0 ≤ t315
  case neg => exact qn c4 H
  rw [if_pos c4] at H
  have c4b0 := decide_eq_true c4
  clear c4
  by_cases c5 : t315 < (l1.length : Int)
  case neg => exact qn c5 H
  rw [if_pos c5] at H
  have c5b0 := decide_eq_true c5
  clear c5
  simp only [Option.some.injEq, Prod.mk.injEq] at H
  obtain ⟨rfl, rfl, rfl⟩ := H
  go_enter Try.func71, Try.ntmps71
  go_wp2_with (first | ((with_reducible refine gate_callee (f := 53) rfl ?_); refine qG (some 9) Try.func53 #[.pointer (some ⟨g, 0, none⟩), .int .i64 (l1.length : Int)] ?_; (with_reducible refine (spec_l01Below.calls g s0_0 s0_1 s0_2 (l1.length : Int) t315 t316 t317 w0 _ ?side1 ?side2 A3.out).mono ?_); (case side1 => exact z2); (case side2 => exact z3); rintro e w6 ⟨rfl, hi, hb, hk⟩; refine ⟨_, rfl, ?_⟩; replace HK := Aside0.mk (KeepBut.trans zn hk (.inl rfl)); replace HB := Aside0.mk (hb); replace HI0 := Aside0.mk (hi); try clear hb hk hi; have p318 : 0 ≤ (t315 : Int) := of_decide_eq_true zb; have q318 : t315 < (l1.length : Int) := of_decide_eq_true zb; obtain ⟨ad318, e318, hx318_0⟩ := Kd.at_int HR1.out t315 p318 q318; cases e318; replace hx318_0 := keep_cell HK.out hx318_0 (by first | (rw [add_block]; exact hf1 _ rfl zd4) | exact hf1 _ rfl zd4 | exact hf1 ad318 rfl zd4); replace p318 := eq_true p318; replace q318 := eq_true q318))
  go_ret
  exact ⟨zc, z2, z3, zn⟩
/-! ### spec_l06Meta: function 43 -/
mutual
def spec_l06Meta.l0 : Nat → Int → Int → List Int → Int → Int → Int → Int → Int → List (S60) → Option (Int × Int × Int × (List (S60)) × Int × Int)
  | 0, _, _, _, _, _, _, _, _, _ => none
  | k + 1, x4, x5, x1000, x1001, x1002, x327000, x327001, x327002, x327003 => if x5 < 3 then (spec_l06Meta.l1 k x4 x5 0 x1000 x1001 x1002 x327000 x327001 x327002 x327003 x5 ([] : List Int)) else (some (x327000, x327001, x327002, x327003, x1001, x1002))
def spec_l06Meta.l1 : Nat → Int → Int → Int → List Int → Int → Int → Int → Int → Int → List (S60) → Int → List Int → Option (Int × Int × Int × (List (S60)) × Int × Int)
  | 0, _, _, _, _, _, _, _, _, _, _, _, _ => none
  | k + 1, x4, x5, x7, x1000, x1001, x1002, x327000, x327001, x327002, x327003, x334000, x334001 => (spec_l01Below.f x1000 x1001 x1002 3).bind fun bt334 => (if x7 < bt334.1 then (if x334001.length < 17592186044416 then (spec_l06Meta.l1 k (wrap64 (x4 + 1)) x5 (wrap64 (x7 + 1)) x1000 bt334.2.1 bt334.2.2 x327000 x327001 x327002 x327003 x334000 (x334001 ++ [x4])) else (none)) else (if (x334001.length : Int) > 0 then (if x327003.length < 4398046511104 then (spec_l06Meta.l0 k x4 (wrap64 (x5 + 1)) x1000 bt334.2.1 bt334.2.2 x327000 x327001 x327002 (x327003 ++ [(⟨x334000, x334001⟩ : S60)])) else (none)) else (spec_l06Meta.l0 k x4 (wrap64 (x5 + 1)) x1000 bt334.2.1 bt334.2.2 x327000 x327001 x327002 x327003)))
end
def spec_l06Meta.f (k : Nat) (s0_0 : List Int) (s0_1 : Int) (s0_2 : Int) : Option (Int × Int × Int × (List (S60)) × Int × Int) := (spec_l01Below.f s0_0 s0_1 s0_2 5).bind fun bt320 => ((spec_l01Below.f s0_0 bt320.2.1 bt320.2.2 20).bind fun bt323 => ((spec_l01PickInt.f s0_0 bt323.2.1 bt323.2.2 (([0, 2, 3] : List Int))).bind fun bt330 => (spec_l06Meta.l0 k 4 1 s0_0 bt330.2.1 bt330.2.2 (wrap64 (3 + bt320.1)) bt330.1 (wrap64 (8 + bt323.1)) ([] : List (S60)))))
theorem spec_l06Meta.mono_l : ∀ k, (∀ y0 y1 y2 y3 y4 y5 y6 y7 y8, LeO (spec_l06Meta.l0 k y0 y1 y2 y3 y4 y5 y6 y7 y8) (spec_l06Meta.l0 (k + 1) y0 y1 y2 y3 y4 y5 y6 y7 y8)) ∧ (∀ y0 y1 y2 y3 y4 y5 y6 y7 y8 y9 y10 y11, LeO (spec_l06Meta.l1 k y0 y1 y2 y3 y4 y5 y6 y7 y8 y9 y10 y11) (spec_l06Meta.l1 (k + 1) y0 y1 y2 y3 y4 y5 y6 y7 y8 y9 y10 y11))
  | 0 => ⟨fun _ _ _ _ _ _ _ _ _ r h => by simp [spec_l06Meta.l0] at h, fun _ _ _ _ _ _ _ _ _ _ _ _ r h => by simp [spec_l06Meta.l1] at h⟩
  | k + 1 => by
    obtain ⟨ih0, ih1⟩ := spec_l06Meta.mono_l k
    refine ⟨?_, ?_⟩
    · intro y0 y1 y2 y3 y4 y5 y6 y7 y8
      unfold spec_l06Meta.l0
      exact qv
    · intro y0 y1 y2 y3 y4 y5 y6 y7 y8 y9 y10 y11
      unfold spec_l06Meta.l1
      exact qv
theorem spec_l06Meta.mono : ∀ a0 a1 a2 k, LeO (spec_l06Meta.f k a0 a1 a2) (spec_l06Meta.f (k + 1) a0 a1 a2) := by
  intro a0 a1 a2 k
  obtain ⟨ih0, ih1⟩ := spec_l06Meta.mono_l k
  unfold spec_l06Meta.f
  exact qv
set_option maxHeartbeats 8000000 in
set_option maxRecDepth 100000 in
theorem spec_l06Meta.calls (k : Nat) (g : Nat) (s0_0 : List Int) (s0_1 : Int) (s0_2 : Int) (r1 : Int) (r2 : Int) (r3 : Int) (r4 : List (S60)) (r5 : Int) (r6 : Int) (w0 w : World) (hI : IsS102 w0 w g s0_0 s0_1 s0_2) (hB : Below w0.heap.size w0 w) (h : spec_l06Meta.f k s0_0 s0_1 s0_2 = some (r1, r2, r3, r4, r5, r6)) :
    Calls Try.prog 43 #[.pointer (some ⟨g, 0, none⟩)] w fun e w' => ∃ v3_ : Value, e = .returned (.agg #[.int .i64 r1, .int .i64 r2, .int .i64 r3, v3_]) ∧ Kd.S k60 60 w' w.heap.size (fun _ => True) v3_ r4 ∧ IsS102 w0 w' g s0_0 r5 r6 ∧ Below w0.heap.size w0 w' ∧ KeepBut w w' g none := by
  have hu24 := Try.underlying24
  have hu60 := Try.underlying60
  have HI0 := Aside0.mk hI
  have HK := Aside0.mk (KeepBut.refl w g none)
  have HL := Aside0.mk hB.size
  clear hI
  have HW0 := Aside0.mk hB.size
  have HB := Aside0.mk hB
  clear hB
  unfold spec_l06Meta.f at h
  have H := h
  clear h
  replace H := qi H
  obtain ⟨⟨t320, t321, t322⟩, A2, H⟩ := H
  dsimp only at H
  replace H := qi H
  obtain ⟨⟨t323, t324, t325⟩, A3, H⟩ := H
  dsimp only at H
  obtain ⟨y327, hy327⟩ : ∃ y_ : List Int, y_ = (([0, 2, 3] : List Int)) := ⟨_, rfl⟩
  replace H : ((spec_l01PickInt.f s0_0 t324 t325 y327).bind fun bt330 => (spec_l06Meta.l0 k 4 1 s0_0 bt330.2.1 bt330.2.2 (wrap64 (3 + t320)) bt330.1 (wrap64 (8 + t323)) ([] : List (S60)))) = some (r1, r2, r3, r4, r5, r6) := by first | (rw [hy327]; with_reducible exact H) | (have H2_ := (Option.bind_some _ _).symm.trans H; rw [hy327]; with_reducible exact H2_) | (have H2_ := (Option.bind_some _ _).symm.trans H; with_reducible exact H2_) | with_reducible exact H | (rw [hy327]; exact H) | exact H
  have Ny327 := Aside0.mk hy327
  clear hy327
  replace H := qi H
  obtain ⟨⟨t330, t331, t332⟩, A4, H⟩ := H
  dsimp only at H
  have H' := Aside0.mk H
  clear H
  go_enter Try.func43, Try.ntmps43
  go_wp2_with (first | ((with_reducible refine gate_dst (N := 2) rfl ?_); refine qB 2 #[.int .i64 0, .int .i64 0, .int .i64 0, .slice none 0 0] 24 ?_; intro gb319 hg w5 hbox hb; replace HB := Aside0.mk (below_step z3 hb); have BK319 := Aside0.mk (hbox); have GW319 := Aside0.mk ((zeg : w.heap.size ≤ gb319)); have GE319 := Aside0.mk ((Nat.le_trans HW0.out (zeg : w.heap.size ≤ gb319) : w0.heap.size ≤ gb319)); replace HK := Aside0.mk (KeepBut.trans zn (KeepBut.of_below hb g none) (.inl rfl)); have NB0_319 := Aside0.mk ((by rw [hg]; exact Nat.ne_of_lt (IsS102.lt (show IsS102 w0 _ g s0_0 s0_1 s0_2 from by repeat (first | (with_reducible first | exact HI0.out | apply IsS102.alloc | apply IsS102.drewN | apply IsS102.drew | apply IsS102.set_1 | apply IsS102.set_2) | exact HI0.out))) : g ≠ gb319)); have NB319_0 := Aside0.mk NB0_319.out.symm; replace HI0 := Aside0.mk (IsS102.below z2 hb); clear hb hbox hg) | ((with_reducible refine gate_callee (f := 53) rfl ?_); refine qG (some 9) Try.func53 #[.pointer (some ⟨g, 0, none⟩), .int .i64 5] ?_; (with_reducible refine (spec_l01Below.calls g s0_0 s0_1 s0_2 5 t320 t321 t322 w0 _ ?side1 ?side2 A2.out).mono ?_); (case side1 => exact zb8); (case side2 => exact zcr); rintro e w6 ⟨rfl, hi, hb, hk⟩; refine ⟨_, rfl, ?_⟩; replace BK319 := Aside0.mk (KeepBut.blk hk (bP BK319.out) NB319_0.out zdw); replace HK := Aside0.mk (KeepBut.trans zb0 hk (.inl rfl)); replace HB := Aside0.mk (hb); replace HI0 := Aside0.mk (hi); try clear hb hk hi) | ((with_reducible refine gate_callee (f := 53) rfl ?_); refine qG (some 12) Try.func53 #[.pointer (some ⟨g, 0, none⟩), .int .i64 20] ?_; (with_reducible refine (spec_l01Below.calls g s0_0 t321 t322 20 t323 t324 t325 w0 _ ?side1 ?side2 A3.out).mono ?_); (case side1 => exact zb8); (case side2 => exact zcr); rintro e w7 ⟨rfl, hi, hb, hk⟩; refine ⟨_, rfl, ?_⟩; replace BK319 := Aside0.mk (KeepBut.blk hk (bP BK319.out) NB319_0.out zdw); replace HK := Aside0.mk (KeepBut.trans zb0 hk (.inl rfl)); replace HB := Aside0.mk (hb); replace HI0 := Aside0.mk (hi); try clear hb hk hi) | ((with_reducible refine gate_dst (N := 3) rfl ?_); refine qB 3 #[.int .i64 0, .int .i64 0, .int .i64 0, .slice none 0 0] 24 ?_; intro gb326 hg w8 hbox hb; replace HB := Aside0.mk (below_step zcr hb); have BK326 := Aside0.mk (hbox); have GW326 := Aside0.mk ((by rw [hg]; exact (keep_size (w := w) (g := g) (row := none) zb0) : w.heap.size ≤ gb326)); have GE326 := Aside0.mk ((Nat.le_trans HW0.out (by rw [hg]; exact (keep_size (w := w) (g := g) (row := none) zb0) : w.heap.size ≤ gb326) : w0.heap.size ≤ gb326)); replace HK := Aside0.mk (KeepBut.trans zb0 (KeepBut.of_below hb g none) (.inl rfl)); have NB319_326 := Aside0.mk ((by rw [hg]; exact Nat.ne_of_lt (bL BK319.out) : gb319 ≠ gb326)); have NB326_319 := Aside0.mk NB319_326.out.symm; replace BK319 := Aside0.mk (bB BK319.out hb); have NB0_326 := Aside0.mk ((by rw [hg]; exact Nat.ne_of_lt (IsS102.lt (show IsS102 w0 _ g s0_0 t324 t325 from by repeat (first | (with_reducible first | exact HI0.out | apply IsS102.alloc | apply IsS102.drewN | apply IsS102.drew | apply IsS102.set_1 | apply IsS102.set_2 | apply IsS102.far (hne := NB0_319.out)) | apply IsS102.far (hne := NB0_319.out) | exact HI0.out))) : g ≠ gb326)); have NB326_0 := Aside0.mk NB0_326.out.symm; replace HI0 := Aside0.mk (IsS102.below zb8 hb); clear hb hbox hg; have hnb9 := NB326_319.out; have hnc9 := NB319_326.out; have hnb10 := NB326_0.out; have hnc10 := NB0_326.out; obtain ⟨hcz11_0, hcz11_1, hcz11_2, hcz11_3, hfz11_0, hfz11_1, hfz11_2, hfz11_3⟩ := qk4 BK326.out) | ((with_reducible refine gate_dst (N := 16) rfl ?_); refine Kd.R_lit (Kd.int .i64) _ 3 ?hg (N := 16) ?hd (xs := ([0, 2, 3] : List Int)) (inner := [.int .i64 0, .int .i64 2, .int .i64 3]) (ok := fun _ => True) (okp := fun _ => True) ?hr ?hp (fun _ hk => hk) trivial (Below.refl _ _) (Nat.le_refl _) zdw ?_; (case hd => rfl); (case hg => rfl); (case hr => first | (go_simp; done) | (go_simp; rfl)); (case hp => exact (Reps.one (show Kd.M (Kd.int .i64) _ _ _ 0 [.int .i64 0] from rfl) (Reps.one (show Kd.M (Kd.int .i64) _ _ _ 2 [.int .i64 2] from rfl) (Reps.one (show Kd.M (Kd.int .i64) _ _ _ 3 [.int .i64 3] from rfl) (Reps.none _ _))))); intro v328 w12 ho13 hb hg_ hnew_; clear hg_ hnew_; (first | rw [← Ny327.out] at ho13 | (simp only [Int.reduceToNat] at ho13; rw [← Ny327.out] at ho13)); have HO329 := Aside0.mk (Kd.R_lower ho13 (keep_size (w := w) (g := g) (row := none) zap)); replace BK319 := Aside0.mk (blk_below (bK BK319.out NB319_326.out) hb); replace BK326 := Aside0.mk (blk_below (g := gb326) (o := .cells #[.int .i64 (wrap64 (3 + t320)), .int .i64 0, .int .i64 (wrap64 (8 + t323)), .slice none 0 0] 24 (0, 0)) (p4 BK326.out) hb); replace HK := Aside0.mk (KeepBut.trans zap (KeepBut.of_below hb g none) (.inl rfl)); replace HB := Aside0.mk (below_step zbg hb); replace HI0 := Aside0.mk (IsS102.below (show IsS102 w0 ((((w8.setCell ⟨gb326, 0, none⟩ (.int .i64 (wrap64 (3 + t320)))).setCell ⟨gb326, 1, none⟩ (.int .i64 0)).setCell ⟨gb326, 2, none⟩ (.int .i64 (wrap64 (8 + t323)))).setCell ⟨gb326, 3, none⟩ (.slice none 0 0)) g s0_0 t324 t325 from by repeat (first | (with_reducible first | exact HI0.out | apply IsS102.alloc | apply IsS102.drewN | apply IsS102.drew | apply IsS102.set_1 | apply IsS102.set_2 | apply IsS102.far (hne := NB0_319.out) | apply IsS102.far (hne := NB0_326.out)) | apply IsS102.far (hne := NB0_319.out) | apply IsS102.far (hne := NB0_326.out) | exact HI0.out)) hb); clear hb ho13; obtain ⟨Ao14, co14, eo14⟩ := Kd.R_slice HO329.out; subst eo14) | ((with_reducible refine gate_callee (f := 71) rfl ?_); refine qG (some 17) Try.func71 #[.pointer (some ⟨g, 0, none⟩), .slice Ao14 y327.length co14] ?_; (with_reducible refine (spec_l01PickInt.calls g s0_0 t324 t325 _ _ y327 t330 t331 t332 w0 _ ?side1 ?side2 ?side3 ?side4 ?side5 A4.out).mono ?_); (case side1 => exact zbc); (case side2 => exact zbg); (case side3 => exact (by repeat (first | exact (Kd.R_reads' HO329.out).2.2 | (with_reducible refine Kd.C_alloc ?_ _) | (with_reducible refine Kd.C_drewN ?_ _) | (with_reducible refine Kd.C_drew ?_)))); (case side4 => exact (Kd.R_reads' HO329.out).2.1); (case side5 => exact far_slice (IsS102.own_ne HI0.out HO329.out zbf)); rintro e w15 ⟨rfl, hi, hb, hk⟩; refine ⟨_, rfl, ?_⟩; replace BK319 := Aside0.mk (KeepBut.blk hk (bP BK319.out) NB319_0.out zdw); replace BK326 := Aside0.mk (KeepBut.blk hk (bP BK326.out) NB326_0.out zdw); replace HK := Aside0.mk (KeepBut.trans zap hk (.inl rfl)); replace HB := Aside0.mk (hb); replace HI0 := Aside0.mk (hi); try clear hb hk hi; obtain ⟨hcz16_0, hcz16_1, hcz16_2, hcz16_3, hfz16_0, hfz16_1, hfz16_2, hfz16_3⟩ := qk4 BK326.out))
  go_loopg [4, 5] k (fun kq v4 v5 w' => ∃ (x4_1 : Int) (x5_1 : Int) (x1001_1 : Int) (x1002_1 : Int) (x327003_1 : List (S60)) (u327003 : Value), v4 = .int .i64 x4_1 ∧ v5 = .int .i64 x5_1 ∧ Aside0 (spec_l06Meta.l0 kq x4_1 x5_1 s0_0 x1001_1 x1002_1 (wrap64 (3 + t320)) t330 (wrap64 (8 + t323)) x327003_1 = some (r1, r2, r3, r4, r5, r6)) ∧ Aside0 (kq ≤ k) ∧ Aside0 (Kd.S k60 60 w' w.heap.size (fun _ => True) u327003 x327003_1) ∧ Aside0 (w'.heap[gb319]? = some (.cells #[.int .i64 0, .int .i64 0, .int .i64 0, (.slice none 0 0)] 24 (0, 0))) ∧ Aside0 (w'.heap[gb326]? = some (.cells #[.int .i64 (wrap64 (3 + t320)), .int .i64 t330, .int .i64 (wrap64 (8 + t323)), u327003] 24 (0, 0))) ∧ Aside0 (IsS102 w0 w' g s0_0 x1001_1 x1002_1) ∧ Aside0 (KeepBut w w' g none) ∧ Aside0 (Below w0.heap.size w0 w'))
  case atStart => exact ⟨(4), (1), (t331), (t332), (([] : List (S60))), (.slice none 0 0), zd, zd, H', ⟨Nat.le_refl _⟩, ⟨za9⟩, ⟨by (with_reducible repeat (first | refine blk_drewN ?_ _ | refine blk_drew ?_ | refine blk_alloc ?_ _)); refine blk_far ?_ NB319_326.out _; (with_reducible repeat (first | refine blk_drewN ?_ _ | refine blk_drew ?_ | refine blk_alloc ?_ _)); exact BK319.out⟩, ⟨by (with_reducible repeat (first | refine blk_drewN ?_ _ | refine blk_drew ?_ | refine blk_alloc ?_ _)); refine blk_put (cs := #[.int .i64 (wrap64 (3 + t320)), .int .i64 0, .int .i64 (wrap64 (8 + t323)), .slice none 0 0]) ?_ 1 _ rfl; (with_reducible repeat (first | refine blk_drewN ?_ _ | refine blk_drew ?_ | refine blk_alloc ?_ _)); exact BK326.out⟩, ⟨zbc⟩, ⟨zap⟩, ⟨zbg⟩⟩
  case round =>
    clear H'
    (try clear hcz11_0 hcz11_1 hcz11_2 hcz11_3 hfz11_0 hfz11_1 hfz11_2 hfz11_3); (try clear hcz16_0 hcz16_1 hcz16_2 hcz16_3 hfz16_0 hfz16_1 hfz16_2 hfz16_3)
    try clear BK319 BK326 HI0 HK HB
    obtain ⟨x4_1, x5_1, x1001_1, x1002_1, x327003_1, u327003, rfl, rfl, HA, HK1, HO_327003, BK319, BK326, HI0, HK, HB⟩ := hrel
    cases gk with
    | zero => exact absurd HA.out (by simp [spec_l06Meta.l0])
    | succ k1 =>
      have H := HA.out
      clear HA
      simp only [spec_l06Meta.l0] at H
      by_cases c17 : x5_1 < 3
      case neg =>
        rw [if_neg c17] at H
        have c17b0 := decide_eq_false c17
        clear c17
        simp only [Option.some.injEq, Prod.mk.injEq] at H
        obtain ⟨rfl, rfl, rfl, rfl, rfl, rfl⟩ := H
        have hnb54 := NB326_319.out
        have hnc54 := NB319_326.out
        have hnb55 := NB326_0.out
        have hnc55 := NB0_326.out
        obtain ⟨_, _, _, _, _, _, _, _⟩ := qk4 BK326.out
        have hnb57 := NB319_0.out
        have hnc57 := NB0_319.out
        obtain ⟨_, _, _, _, _, _, _, _⟩ := qk4 BK319.out
        obtain ⟨Ao59, co59, eo59⟩ := Kd.S_slice HO_327003.out
        subst eo59
        go_wp2
        refine bodyPost_ret (results_cell_row rfl _ _ gb319 24 #[.int .i64 (wrap64 (3 + t320)), .int .i64 t330, .int .i64 (wrap64 (8 + t323)), .slice Ao59 x327003_1.length co59] (0, 0) _ rfl (p4 BK319.out) Try.underlying24 rfl za5) rfl ?_
        exact ⟨_, zc, Kd.S_mono (sK HO_327003.out BK319.out) (fun _ _ => trivial), zbc, zbg, zap⟩

      rw [if_pos c17] at H
      have c17b0 := decide_eq_true c17
      clear c17
      have H' := Aside0.mk H
      clear H
      go_wp2_with (first | ((with_reducible refine gate_dst (N := 6) rfl ?_); refine qB 6 #[.int .i64 0, .slice none 0 0] 60 ?_; intro gb333 hg w18 hbox hb; replace HO_327003 := Aside0.mk (Kd.S_below (Kd.S_elderB zdq gb333 (Nat.le_of_eq hg.symm)) hb); replace HB := Aside0.mk (below_step zbg hb); have BK333 := Aside0.mk (hbox); have GW333 := Aside0.mk ((by rw [hg]; exact (keep_size (w := w) (g := g) (row := none) zap) : w.heap.size ≤ gb333)); have GE333 := Aside0.mk ((Nat.le_trans HW0.out (by rw [hg]; exact (keep_size (w := w) (g := g) (row := none) zap) : w.heap.size ≤ gb333) : w0.heap.size ≤ gb333)); replace HK := Aside0.mk (KeepBut.trans zap (KeepBut.of_below hb g none) (.inl rfl)); have NB319_333 := Aside0.mk ((by rw [hg]; exact Nat.ne_of_lt (bL BK319.out) : gb319 ≠ gb333)); have NB333_319 := Aside0.mk NB319_333.out.symm; replace BK319 := Aside0.mk (bB BK319.out hb); have NB326_333 := Aside0.mk ((by rw [hg]; exact Nat.ne_of_lt (bL BK326.out) : gb326 ≠ gb333)); have NB333_326 := Aside0.mk NB326_333.out.symm; replace BK326 := Aside0.mk (bB BK326.out hb); have NB0_333 := Aside0.mk ((by rw [hg]; exact Nat.ne_of_lt (IsS102.lt (show IsS102 w0 _ g s0_0 x1001_1 x1002_1 from by repeat (first | (with_reducible first | exact HI0.out | apply IsS102.alloc | apply IsS102.drewN | apply IsS102.drew | apply IsS102.set_1 | apply IsS102.set_2 | apply IsS102.far (hne := NB0_319.out) | apply IsS102.far (hne := NB0_326.out)) | apply IsS102.far (hne := NB0_319.out) | apply IsS102.far (hne := NB0_326.out) | exact HI0.out))) : g ≠ gb333)); have NB333_0 := Aside0.mk NB0_333.out.symm; replace HI0 := Aside0.mk (IsS102.below zbc hb); clear hb hbox hg; have hnb19 := NB333_319.out; have hnc19 := NB319_333.out; have hnb20 := NB333_326.out; have hnc20 := NB326_333.out; have hnb21 := NB333_0.out; have hnc21 := NB0_333.out; obtain ⟨hcz22_0, hcz22_1, hfz22_0, hfz22_1⟩ := qk2 BK333.out))
      go_loopg [4, 7] k1 (fun kq v4 v7 w' => ∃ (x4_2 : Int) (x7_2 : Int) (x1001_2 : Int) (x1002_2 : Int) (x334001_2 : List Int) (u334001 : Value), v4 = .int .i64 x4_2 ∧ v7 = .int .i64 x7_2 ∧ Aside0 (spec_l06Meta.l1 kq x4_2 x5_1 x7_2 s0_0 x1001_2 x1002_2 (wrap64 (3 + t320)) t330 (wrap64 (8 + t323)) x327003_1 x5_1 x334001_2 = some (r1, r2, r3, r4, r5, r6)) ∧ Aside0 (kq ≤ k1) ∧ Aside0 (Kd.S k60 60 w' w.heap.size (fun k_ => some k_ ≠ (u334001 : Value).ownBlock ∧ k_ ≠ gb333) u327003 x327003_1) ∧ Aside0 (Kd.R (Kd.int .i64) 3 w' w.heap.size (fun _ => True) u334001 x334001_2) ∧ Aside0 (w'.heap[gb319]? = some (.cells #[.int .i64 0, .int .i64 0, .int .i64 0, (.slice none 0 0)] 24 (0, 0))) ∧ Aside0 (w'.heap[gb326]? = some (.cells #[.int .i64 (wrap64 (3 + t320)), .int .i64 t330, .int .i64 (wrap64 (8 + t323)), u327003] 24 (0, 0))) ∧ Aside0 (w'.heap[gb333]? = some (.cells #[.int .i64 x5_1, u334001] 60 (0, 0))) ∧ Aside0 (IsS102 w0 w' g s0_0 x1001_2 x1002_2) ∧ Aside0 (KeepBut w w' g none) ∧ Aside0 (Below w0.heap.size w0 w'))
      case atStart => exact ⟨(x4_1), (0), (x1001_1), (x1002_1), (([] : List Int)), (.slice none 0 0), zd, zd, H', ⟨Nat.le_refl _⟩, ⟨by (with_reducible repeat (first | apply Kd.S_alloc | apply Kd.S_drewN | apply Kd.S_drew)); exact Kd.S_mono (Kd.S_far (p := ⟨gb333, 1, none⟩) (Kd.S_far (p := ⟨gb333, 0, none⟩) (Kd.S_mono HO_327003.out (fun k_ hk => (⟨hk, hk.2⟩ : _ ∧ k_ ≠ gb333))) (fun _ hk => hk.2) (.int .i64 x5_1)) (fun _ hk => hk.2) (.slice none 0 0)) (fun _ hk => ⟨(by simp [Value.ownBlock]), hk.1.2⟩)⟩, ⟨zb3⟩, ⟨by (with_reducible repeat (first | refine blk_drewN ?_ _ | refine blk_drew ?_ | refine blk_alloc ?_ _)); refine blk_far ?_ NB319_333.out _; (with_reducible repeat (first | refine blk_drewN ?_ _ | refine blk_drew ?_ | refine blk_alloc ?_ _)); refine blk_far ?_ NB319_333.out _; (with_reducible repeat (first | refine blk_drewN ?_ _ | refine blk_drew ?_ | refine blk_alloc ?_ _)); exact BK319.out⟩, ⟨by (with_reducible repeat (first | refine blk_drewN ?_ _ | refine blk_drew ?_ | refine blk_alloc ?_ _)); refine blk_far ?_ NB326_333.out _; (with_reducible repeat (first | refine blk_drewN ?_ _ | refine blk_drew ?_ | refine blk_alloc ?_ _)); refine blk_far ?_ NB326_333.out _; (with_reducible repeat (first | refine blk_drewN ?_ _ | refine blk_drew ?_ | refine blk_alloc ?_ _)); exact BK326.out⟩, ⟨by (with_reducible repeat (first | refine blk_drewN ?_ _ | refine blk_drew ?_ | refine blk_alloc ?_ _)); refine blk_put (cs := #[.int .i64 x5_1, .slice none 0 0]) ?_ 1 _ rfl; (with_reducible repeat (first | refine blk_drewN ?_ _ | refine blk_drew ?_ | refine blk_alloc ?_ _)); refine blk_put (cs := #[.int .i64 0, .slice none 0 0]) ?_ 0 _ rfl; (with_reducible repeat (first | refine blk_drewN ?_ _ | refine blk_drew ?_ | refine blk_alloc ?_ _)); exact BK333.out⟩, ⟨zu⟩, ⟨z4⟩, ⟨z8⟩⟩
      case round =>
        clear H'
        (try clear c17); (try clear c17b0); (try clear hcz11_0 hcz11_1 hcz11_2 hcz11_3 hfz11_0 hfz11_1 hfz11_2 hfz11_3); (try clear hcz16_0 hcz16_1 hcz16_2 hcz16_3 hfz16_0 hfz16_1 hfz16_2 hfz16_3); (try clear hcz22_0 hcz22_1 hfz22_0 hfz22_1)
        try clear HO_327003 BK319 BK326 BK333 HI0 HK HB
        obtain ⟨x4_2, x7_2, x1001_2, x1002_2, x334001_2, u334001, rfl, rfl, HA, HK2, HO_327003, HO_334001, BK319, BK326, BK333, HI0, HK, HB⟩ := hrel
        cases gk with
        | zero => exact absurd HA.out (by simp [spec_l06Meta.l1])
        | succ k2 =>
          have H := HA.out
          clear HA
          simp only [spec_l06Meta.l1] at H
          replace H := qi H
          obtain ⟨⟨t334, t335, t336⟩, A23, H⟩ := H
          dsimp only at H
          by_cases c24 : x7_2 < t334
          case pos =>
            rw [if_pos c24] at H
            have c24b0 := decide_eq_true c24
            clear c24
            by_cases c25 : x334001_2.length < 17592186044416
            case neg => exact qn c25 H
            rw [if_pos c25] at H
            have LMc25 := Aside0.mk c25
            clear c25
            obtain ⟨y337, hy337⟩ : ∃ y_ : List Int, y_ = (x334001_2 ++ [x4_2]) := ⟨_, rfl⟩
            replace H : (spec_l06Meta.l1 k2 (wrap64 (x4_2 + 1)) x5_1 (wrap64 (x7_2 + 1)) s0_0 t335 t336 (wrap64 (3 + t320)) t330 (wrap64 (8 + t323)) x327003_1 x5_1 y337) = some (r1, r2, r3, r4, r5, r6) := by first | (rw [hy337]; with_reducible exact H) | (have H2_ := (Option.bind_some _ _).symm.trans H; rw [hy337]; with_reducible exact H2_) | (have H2_ := (Option.bind_some _ _).symm.trans H; with_reducible exact H2_) | with_reducible exact H | (rw [hy337]; exact H) | exact H
            have Ny337 := Aside0.mk hy337
            clear hy337
            have H' := Aside0.mk H
            clear H
            go_wp2_with (first | ((with_reducible refine gate_callee (f := 53) rfl ?_); refine qG (some 27) Try.func53 #[.pointer (some ⟨g, 0, none⟩), .int .i64 3] ?_; (with_reducible refine (spec_l01Below.calls g s0_0 x1001_2 x1002_2 3 t334 t335 t336 w0 _ ?side1 ?side2 A23.out).mono ?_); (case side1 => exact zu); (case side2 => exact z8); rintro e w26 ⟨rfl, hi, hb, hk⟩; refine ⟨_, rfl, ?_⟩; replace HO_327003 := Aside0.mk (Kd.S_mono (Kd.S_keep (IsS102.apartS (show IsS102 w0 _ g s0_0 x1001_2 x1002_2 from by repeat (first | (with_reducible first | exact HI0.out | apply IsS102.alloc | apply IsS102.drewN | apply IsS102.drew | apply IsS102.set_1 | apply IsS102.set_2 | apply IsS102.far (hne := NB0_319.out) | apply IsS102.far (hne := NB0_326.out) | apply IsS102.far (hne := NB0_333.out)) | apply IsS102.far (hne := NB0_319.out) | apply IsS102.far (hne := NB0_326.out) | apply IsS102.far (hne := NB0_333.out) | exact HI0.out)) zdq zbf) hk (fun _ h => h.2)) (fun _ h => h.1)); replace HO_334001 := Aside0.mk (Kd.R_mono (Kd.R_keep (IsS102.apart (show IsS102 w0 _ g s0_0 x1001_2 x1002_2 from by repeat (first | (with_reducible first | exact HI0.out | apply IsS102.alloc | apply IsS102.drewN | apply IsS102.drew | apply IsS102.set_1 | apply IsS102.set_2 | apply IsS102.far (hne := NB0_319.out) | apply IsS102.far (hne := NB0_326.out) | apply IsS102.far (hne := NB0_333.out)) | apply IsS102.far (hne := NB0_319.out) | apply IsS102.far (hne := NB0_326.out) | apply IsS102.far (hne := NB0_333.out) | exact HI0.out)) zdr zbf) hk (fun _ h => h.2)) (fun _ h => h.1)); replace BK319 := Aside0.mk (KeepBut.blk hk (bP BK319.out) NB319_0.out zdw); replace BK326 := Aside0.mk (KeepBut.blk hk (bP BK326.out) NB326_0.out zdw); replace BK333 := Aside0.mk (KeepBut.blk hk (bP BK333.out) NB333_0.out zdw); replace HK := Aside0.mk (KeepBut.trans z4 hk (.inl rfl)); replace HB := Aside0.mk (hb); replace HI0 := Aside0.mk (hi); try clear hb hk hi; have hnb27 := NB333_319.out; have hnc27 := NB319_333.out; have hnb28 := NB333_326.out; have hnc28 := NB326_333.out; have hnb29 := NB333_0.out; have hnc29 := NB0_333.out; obtain ⟨_, _, _, _⟩ := qk2 BK333.out) | ((with_reducible refine gate_builtin (b := .append) (xs := #[.tmp 32, .tmp 34]) rfl ?_); at_builtin; refine Kd.R_append (Kd.int .i64) w.heap.size rfl (.tmp 32) (.tmp 34) 58 3 (.int .i64 0) 8 rfl Try.underlying58 info3 rfl zbf zd4 u334001 x334001_2 x4_2 [.int .i64 x4_2] (fun _ => True) (fun _ => False) rfl rfl ?aP (fun _ hk => hk.elim) ?aF ?aO (Below.refl _ _) ?aS ?aL ?_; (case aP => exact rfl); (case aF => exact (fun _ _ => trivial)); (case aO => exact zdr); (case aS => exact (keep_size (w := w) (g := g) (row := none) z4)); (case aL => have := LMc25.out; omega); intro v338 w31 ho hb hg hat; rw [← Ny337.out] at ho; replace HO_327003 := Aside0.mk (Kd.S_after (ok := (fun k_ => k_ ≠ gb333)) (by (with_reducible repeat (first | apply Kd.S_alloc | apply Kd.S_drewN | apply Kd.S_drew)); exact Kd.S_mono HO_327003.out (fun _ hk => ⟨hk.2, hk.1⟩)) hg hat); replace BK319 := Aside0.mk (blk_grown (bP BK319.out) hg (Kd.R_ne HO_334001.out BK319.out zbf)); replace BK326 := Aside0.mk (blk_grown (bP BK326.out) hg (Kd.R_ne HO_334001.out BK326.out zbf)); replace BK333 := Aside0.mk (blk_grown (bP BK333.out) hg (Kd.R_ne HO_334001.out BK333.out zbf)); replace HB := Aside0.mk (below_weaken z8 HL.out hb); replace HI0 := Aside0.mk (IsS102.grown zu hg (IsS102.own_ne HI0.out HO_334001.out zbf)); replace HK := Aside0.mk (KeepBut.trans z4 (KeepBut.of_grown hg g) (Kd.R_base2 HO_334001.out)); have HO339 := Aside0.mk (ho); clear HO_334001; clear ho hb hg hat; obtain ⟨Ao32, co32, eo32⟩ := Kd.R_slice HO339.out; subst eo32; obtain ⟨_, _, _, _⟩ := qk2 BK333.out))
            go_roundg k2
            case measure => have := HK1.out; have := HK2.out; omega
            case rel => exact ⟨(wrap64 (x4_2 + 1)), (wrap64 (x7_2 + 1)), (t335), (t336), (y337), (.slice Ao32 y337.length co32), zd, zd, H', ⟨zcm⟩, ⟨by (with_reducible repeat (first | apply Kd.S_alloc | apply Kd.S_drewN | apply Kd.S_drew)); exact Kd.S_mono (Kd.S_far (p := ⟨gb333, 1, none⟩) (Kd.S_mono HO_327003.out (fun k_ hk => (⟨hk, hk.1⟩ : _ ∧ k_ ≠ gb333))) (fun _ hk => hk.2) (.slice Ao32 y337.length co32)) (fun _ hk => ⟨hk.1.2, hk.1.1⟩)⟩, ⟨Kd.R_mono (rK HO339.out BK333.out) (fun _ _ => trivial)⟩, ⟨by (with_reducible repeat (first | refine blk_drewN ?_ _ | refine blk_drew ?_ | refine blk_alloc ?_ _)); refine blk_far ?_ NB319_333.out _; (with_reducible repeat (first | refine blk_drewN ?_ _ | refine blk_drew ?_ | refine blk_alloc ?_ _)); exact BK319.out⟩, ⟨by (with_reducible repeat (first | refine blk_drewN ?_ _ | refine blk_drew ?_ | refine blk_alloc ?_ _)); refine blk_far ?_ NB326_333.out _; (with_reducible repeat (first | refine blk_drewN ?_ _ | refine blk_drew ?_ | refine blk_alloc ?_ _)); exact BK326.out⟩, ⟨by (with_reducible repeat (first | refine blk_drewN ?_ _ | refine blk_drew ?_ | refine blk_alloc ?_ _)); refine blk_put (cs := #[.int .i64 x5_1, u334001]) ?_ 1 _ rfl; (with_reducible repeat (first | refine blk_drewN ?_ _ | refine blk_drew ?_ | refine blk_alloc ?_ _)); exact BK333.out⟩, ⟨zu⟩, ⟨z4⟩, ⟨z8⟩⟩
          rw [if_neg c24] at H
          have c24b0 := decide_eq_false c24
          clear c24
          by_cases c34 : (x334001_2.length : Int) > 0
          case neg =>
            rw [if_neg c34] at H
            have c34b0 : decide (0 < (x334001_2.length : Int)) = false := decide_eq_false c34
            have c34b1 : decide (0 < x334001_2.length) = false := decide_eq_false zd4
            clear c34
            have H' := Aside0.mk H
            clear H
            go_wp2_with (first | ((with_reducible refine gate_callee (f := 53) rfl ?_); refine qG (some 27) Try.func53 #[.pointer (some ⟨g, 0, none⟩), .int .i64 3] ?_; (with_reducible refine (spec_l01Below.calls g s0_0 x1001_2 x1002_2 3 t334 t335 t336 w0 _ ?side1 ?side2 A23.out).mono ?_); (case side1 => exact zu); (case side2 => exact z8); rintro e w48 ⟨rfl, hi, hb, hk⟩; refine ⟨_, rfl, ?_⟩; replace HO_327003 := Aside0.mk (Kd.S_mono (Kd.S_keep (IsS102.apartS (show IsS102 w0 _ g s0_0 x1001_2 x1002_2 from by repeat (first | (with_reducible first | exact HI0.out | apply IsS102.alloc | apply IsS102.drewN | apply IsS102.drew | apply IsS102.set_1 | apply IsS102.set_2 | apply IsS102.far (hne := NB0_319.out) | apply IsS102.far (hne := NB0_326.out) | apply IsS102.far (hne := NB0_333.out)) | apply IsS102.far (hne := NB0_319.out) | apply IsS102.far (hne := NB0_326.out) | apply IsS102.far (hne := NB0_333.out) | exact HI0.out)) zdq zbf) hk (fun _ h => h.2)) (fun _ h => h.1)); replace HO_334001 := Aside0.mk (Kd.R_mono (Kd.R_keep (IsS102.apart (show IsS102 w0 _ g s0_0 x1001_2 x1002_2 from by repeat (first | (with_reducible first | exact HI0.out | apply IsS102.alloc | apply IsS102.drewN | apply IsS102.drew | apply IsS102.set_1 | apply IsS102.set_2 | apply IsS102.far (hne := NB0_319.out) | apply IsS102.far (hne := NB0_326.out) | apply IsS102.far (hne := NB0_333.out)) | apply IsS102.far (hne := NB0_319.out) | apply IsS102.far (hne := NB0_326.out) | apply IsS102.far (hne := NB0_333.out) | exact HI0.out)) zdr zbf) hk (fun _ h => h.2)) (fun _ h => h.1)); replace BK319 := Aside0.mk (KeepBut.blk hk (bP BK319.out) NB319_0.out zdw); replace BK326 := Aside0.mk (KeepBut.blk hk (bP BK326.out) NB326_0.out zdw); replace BK333 := Aside0.mk (KeepBut.blk hk (bP BK333.out) NB333_0.out zdw); replace HK := Aside0.mk (KeepBut.trans z4 hk (.inl rfl)); replace HB := Aside0.mk (hb); replace HI0 := Aside0.mk (hi); try clear hb hk hi; have hnb49 := NB333_319.out; have hnc49 := NB319_333.out; have hnb50 := NB333_326.out; have hnc50 := NB326_333.out; have hnb51 := NB333_0.out; have hnc51 := NB0_333.out; obtain ⟨_, _, _, _⟩ := qk2 BK333.out; obtain ⟨Ao53, co53, eo53⟩ := Kd.R_slice HO_334001.out; subst eo53))
            go_roundg k2
            case measure => have := HK1.out; have := HK2.out; omega
            case rel => exact ⟨(x4_2), (wrap64 (x5_1 + 1)), (t335), (t336), (x327003_1), (u327003), zd, zd, H', ⟨zcm⟩, ⟨by (with_reducible repeat (first | apply Kd.S_alloc | apply Kd.S_drewN | apply Kd.S_drew)); exact Kd.S_mono HO_327003.out (fun _ hk => trivial)⟩, ⟨by (with_reducible repeat (first | refine blk_drewN ?_ _ | refine blk_drew ?_ | refine blk_alloc ?_ _)); exact BK319.out⟩, ⟨by (with_reducible repeat (first | refine blk_drewN ?_ _ | refine blk_drew ?_ | refine blk_alloc ?_ _)); exact BK326.out⟩, ⟨zu⟩, ⟨z4⟩, ⟨z8⟩⟩
          rw [if_pos c34] at H
          have c34b0 : decide (0 < (x334001_2.length : Int)) = true := decide_eq_true c34
          have c34b1 : decide (0 < x334001_2.length) = true := decide_eq_true zd4
          clear c34
          by_cases c35 : x327003_1.length < 4398046511104
          case neg => exact qn c35 H
          rw [if_pos c35] at H
          have LMc35 := Aside0.mk c35
          clear c35
          obtain ⟨y340, hy340⟩ : ∃ y_ : List (S60), y_ = (x327003_1 ++ [(⟨x5_1, x334001_2⟩ : S60)]) := ⟨_, rfl⟩
          replace H : (spec_l06Meta.l0 k2 x4_2 (wrap64 (x5_1 + 1)) s0_0 t335 t336 (wrap64 (3 + t320)) t330 (wrap64 (8 + t323)) y340) = some (r1, r2, r3, r4, r5, r6) := by first | (rw [hy340]; with_reducible exact H) | (have H2_ := (Option.bind_some _ _).symm.trans H; rw [hy340]; with_reducible exact H2_) | (have H2_ := (Option.bind_some _ _).symm.trans H; with_reducible exact H2_) | with_reducible exact H | (rw [hy340]; exact H) | exact H
          have Ny340 := Aside0.mk hy340
          clear hy340
          have H' := Aside0.mk H
          clear H
          go_wp2_with (first | ((with_reducible refine gate_callee (f := 53) rfl ?_); refine qG (some 27) Try.func53 #[.pointer (some ⟨g, 0, none⟩), .int .i64 3] ?_; (with_reducible refine (spec_l01Below.calls g s0_0 x1001_2 x1002_2 3 t334 t335 t336 w0 _ ?side1 ?side2 A23.out).mono ?_); (case side1 => exact zu); (case side2 => exact z8); rintro e w36 ⟨rfl, hi, hb, hk⟩; refine ⟨_, rfl, ?_⟩; replace HO_327003 := Aside0.mk (Kd.S_mono (Kd.S_keep (IsS102.apartS (show IsS102 w0 _ g s0_0 x1001_2 x1002_2 from by repeat (first | (with_reducible first | exact HI0.out | apply IsS102.alloc | apply IsS102.drewN | apply IsS102.drew | apply IsS102.set_1 | apply IsS102.set_2 | apply IsS102.far (hne := NB0_319.out) | apply IsS102.far (hne := NB0_326.out) | apply IsS102.far (hne := NB0_333.out)) | apply IsS102.far (hne := NB0_319.out) | apply IsS102.far (hne := NB0_326.out) | apply IsS102.far (hne := NB0_333.out) | exact HI0.out)) zdq zbf) hk (fun _ h => h.2)) (fun _ h => h.1)); replace HO_334001 := Aside0.mk (Kd.R_mono (Kd.R_keep (IsS102.apart (show IsS102 w0 _ g s0_0 x1001_2 x1002_2 from by repeat (first | (with_reducible first | exact HI0.out | apply IsS102.alloc | apply IsS102.drewN | apply IsS102.drew | apply IsS102.set_1 | apply IsS102.set_2 | apply IsS102.far (hne := NB0_319.out) | apply IsS102.far (hne := NB0_326.out) | apply IsS102.far (hne := NB0_333.out)) | apply IsS102.far (hne := NB0_319.out) | apply IsS102.far (hne := NB0_326.out) | apply IsS102.far (hne := NB0_333.out) | exact HI0.out)) zdr zbf) hk (fun _ h => h.2)) (fun _ h => h.1)); replace BK319 := Aside0.mk (KeepBut.blk hk (bP BK319.out) NB319_0.out zdw); replace BK326 := Aside0.mk (KeepBut.blk hk (bP BK326.out) NB326_0.out zdw); replace BK333 := Aside0.mk (KeepBut.blk hk (bP BK333.out) NB333_0.out zdw); replace HK := Aside0.mk (KeepBut.trans z4 hk (.inl rfl)); replace HB := Aside0.mk (hb); replace HI0 := Aside0.mk (hi); try clear hb hk hi; have hnb37 := NB333_319.out; have hnc37 := NB319_333.out; have hnb38 := NB333_326.out; have hnc38 := NB326_333.out; have hnb39 := NB333_0.out; have hnc39 := NB0_333.out; obtain ⟨_, _, _, _⟩ := qk2 BK333.out; obtain ⟨Ao41, co41, eo41⟩ := Kd.R_slice HO_334001.out; subst eo41; have hnb42 := NB326_319.out; have hnc42 := NB319_326.out; have hnb43 := NB326_0.out; have hnc43 := NB0_326.out; obtain ⟨_, _, _, _, _, _, _, _⟩ := qk4 BK326.out) | ((with_reducible refine gate_builtin (b := .append) (xs := #[.tmp 44, .tmp 46]) rfl ?_); at_builtin; refine Kd.S_append k60 w.heap.size rfl (.tmp 44) (.tmp 46) 22 60 (.agg #[(.int .i64 0), (.slice none 0 0)]) 32 rfl Try.underlying22 info60 rfl zbf zd4 u327003 x327003_1 (⟨x5_1, x334001_2⟩ : S60) [.int .i64 x5_1, .slice Ao41 x334001_2.length co41] (fun k_ => k_ ≠ gb333) (fun k_ => some k_ = (.slice Ao41 x334001_2.length co41 : Value).ownBlock) rfl rfl ?aP (fun k_ hk_ => ((Kd.R_mono (ok' := fun k_ => ((fun k_ => k_ ≠ gb333)) k_ ∧ some k_ ≠ (u327003 : Value).ownBlock) (Kd.R_types (Kd.R_apart' (HO_334001.out) (Kd.S_typed HO_327003.out) zbf) BK333.out zbf) (fun k_ hk => ⟨hk.2, hk.1.2⟩))).1 k_ hk_.symm) ?aF ?aO (Below.refl _ _) ?aS ?aL ?_; (case aP => exact k60_mkM _ _ _ (⟨x5_1, x334001_2⟩ : S60) (Kd.R_mono (Kd.R_tight rfl (Kd.R_mono (ok' := fun k_ => ((fun k_ => k_ ≠ gb333)) k_ ∧ some k_ ≠ (u327003 : Value).ownBlock) (Kd.R_types (Kd.R_apart' (HO_334001.out) (Kd.S_typed HO_327003.out) zbf) BK333.out zbf) (fun k_ hk => ⟨hk.2, hk.1.2⟩))) (fun _ h_ => h_))); (case aF => exact (fun k_ hk => Kd.freshB (bP BK333.out) k_ hk)); (case aO => exact (by (with_reducible repeat (first | apply Kd.S_alloc | apply Kd.S_drewN | apply Kd.S_drew)); exact Kd.S_mono HO_327003.out (fun k_ hk => ⟨hk.2, fun e_ => hk.1 e_⟩))); (case aS => exact (keep_size (w := w) (g := g) (row := none) z4)); (case aL => have := LMc35.out; omega); intro v341 w45 ho hb hg hat; rw [← Ny340.out] at ho; replace BK319 := Aside0.mk (blk_grown (bP BK319.out) hg (Kd.S_ne HO_327003.out BK319.out zbf)); replace BK326 := Aside0.mk (blk_grown (bP BK326.out) hg (Kd.S_ne HO_327003.out BK326.out zbf)); replace BK333 := Aside0.mk (blk_grown (bP BK333.out) hg (Kd.S_away HO_327003.out (fun _ hk => hk.2))); replace HB := Aside0.mk (below_weaken z8 HL.out hb); replace HI0 := Aside0.mk (IsS102.grown zu hg (IsS102.own_neS HI0.out HO_327003.out zbf)); replace HK := Aside0.mk (KeepBut.trans z4 (KeepBut.of_grown hg g) (Kd.S_base2 HO_327003.out)); have HO342 := Aside0.mk (ho); clear HO_327003 HO_334001; clear ho hb hg hat; obtain ⟨Ao46, co46, eo46⟩ := Kd.S_slice HO342.out; subst eo46; obtain ⟨_, _, _, _, _, _, _, _⟩ := qk4 BK326.out))
          go_roundg k2
          case measure => have := HK1.out; have := HK2.out; omega
          case rel => exact ⟨(x4_2), (wrap64 (x5_1 + 1)), (t335), (t336), (y340), (.slice Ao46 y340.length co46), zd, zd, H', ⟨zcm⟩, ⟨Kd.S_mono (sK HO342.out BK326.out) (fun _ _ => trivial)⟩, ⟨by (with_reducible repeat (first | refine blk_drewN ?_ _ | refine blk_drew ?_ | refine blk_alloc ?_ _)); refine blk_far ?_ NB319_326.out _; (with_reducible repeat (first | refine blk_drewN ?_ _ | refine blk_drew ?_ | refine blk_alloc ?_ _)); exact BK319.out⟩, ⟨by (with_reducible repeat (first | refine blk_drewN ?_ _ | refine blk_drew ?_ | refine blk_alloc ?_ _)); refine blk_put (cs := #[.int .i64 (wrap64 (3 + t320)), .int .i64 t330, .int .i64 (wrap64 (8 + t323)), u327003]) ?_ 3 _ rfl; (with_reducible repeat (first | refine blk_drewN ?_ _ | refine blk_drew ?_ | refine blk_alloc ?_ _)); exact BK326.out⟩, ⟨zu⟩, ⟨z4⟩, ⟨z8⟩⟩
/-! ### spec_l01New: function 44 -/
def spec_l01New.l0 : Nat → List Int → Int → Int → Option (List Int × Int × Int)
  | 0, _, _, _ => none
  | k + 1, x0, x3, x4 => if x4 < (x0.length : Int) then (if x4 < 4000 then (if 0 ≤ x4 then (spec_l01New.l0 k x0 (Go.bits .and .i64 (wrap64 ((wrap64 ((wrap64 (x3 * 131)) + (wrap64 (rd x0 x4)))) + 7)) 1073741823) (wrap64 (x4 + 1))) else (none)) else (some (x0, 0, x3))) else (some (x0, 0, x3))
def spec_l01New.f (k : Nat) (l0 : List Int) : Option (List Int × Int × Int) := spec_l01New.l0 k l0 (wrap64 (38301 + (l0.length : Int))) 0
theorem spec_l01New.mono_l : ∀ k, (∀ y0 y1 y2, LeO (spec_l01New.l0 k y0 y1 y2) (spec_l01New.l0 (k + 1) y0 y1 y2))
  | 0 => fun _ _ _ r h => by simp [spec_l01New.l0] at h
  | k + 1 => by
    have ih0 := spec_l01New.mono_l k
    · intro y0 y1 y2
      unfold spec_l01New.l0
      exact qv
theorem spec_l01New.mono : ∀ a0 k, LeO (spec_l01New.f k a0) (spec_l01New.f (k + 1) a0) := by
  intro a0 k
  have ih0 := spec_l01New.mono_l k
  unfold spec_l01New.f
  exact qv
set_option maxHeartbeats 8000000 in
set_option maxRecDepth 100000 in
theorem spec_l01New.calls (k : Nat) (A0 : Option Addr) (c0 : Nat) (l0 : List Int) (r1 : List Int) (r2 : Int) (r3 : Int) (w0 w : World) (hB : Below w0.heap.size w0 w) (hr0 : Kd.C (Kd.int .u8) w0 A0 l0.length l0) (hc0 : l0.length ≤ c0) (h : spec_l01New.f k l0 = some (r1, r2, r3)) :
    Calls Try.prog 44 #[.slice A0 l0.length c0] w fun e w' => ∃ g_ : Nat, e = .returned (.pointer (some ⟨g_, 0, none⟩)) ∧ IsS102 w0 w' g_ r1 r2 r3 ∧ Below w0.heap.size w0 w' ∧ Below w.heap.size w w' := by
  have hu102 := Try.underlying102
  have HR0 := Aside0.mk hr0
  clear hr0 hc0
  have HBW := Aside0.mk (Below.refl w.heap.size w)
  have HW0 := Aside0.mk hB.size
  have HB := Aside0.mk hB
  clear hB
  unfold spec_l01New.f at h
  have H := h
  clear h
  have H' := Aside0.mk H
  clear H
  go_enter Try.func44, Try.ntmps44
  go_wp2
  go_loopg [3, 4] k (fun kq v3 v4 w' => ∃ (x3_1 : Int) (x4_1 : Int), v3 = .int .i64 x3_1 ∧ v4 = .int .i64 x4_1 ∧ Aside0 (spec_l01New.l0 kq l0 x3_1 x4_1 = some (r1, r2, r3)) ∧ Aside0 (kq ≤ k) ∧ Aside0 (Below w.heap.size w w') ∧ Aside0 (Below w0.heap.size w0 w'))
  case atStart => exact ⟨(wrap64 (38301 + (l0.length : Int))), (0), zd, zd, H', ⟨Nat.le_refl _⟩, ⟨zb7⟩, ⟨za⟩⟩
  case round =>
    clear H'
    try clear HBW HB
    obtain ⟨x3_1, x4_1, rfl, rfl, HA, HK1, HBW, HB⟩ := hrel
    cases gk with
    | zero => exact absurd HA.out (by simp [spec_l01New.l0])
    | succ k1 =>
      have H := HA.out
      clear HA
      simp only [spec_l01New.l0] at H
      by_cases c2 : x4_1 < (l0.length : Int)
      case neg =>
        rw [if_neg c2] at H
        have c2b0 := decide_eq_false c2
        clear c2
        simp only [Option.some.injEq, Prod.mk.injEq] at H
        obtain ⟨rfl, rfl, rfl⟩ := H
        go_wp2_with (first | ((with_reducible refine gate_dst (N := 31) rfl ?_); refine qB 31 #[.slice A0 l0.length c0, .int .i64 0, .int .i64 x3_1] 102 ?_; intro gb345 hg w6 hbox hb; replace HB := Aside0.mk (below_step za hb); have BK345 := Aside0.mk (hbox); have GW345 := Aside0.mk ((zen : w.heap.size ≤ gb345)); have GE345 := Aside0.mk ((Nat.le_trans HW0.out (zen : w.heap.size ≤ gb345) : w0.heap.size ≤ gb345)); replace HBW := Aside0.mk (below_step HBW.out hb); clear hb hbox hg))
        go_ret
        exact ⟨_, rfl, (show IsS102 w0 _ gb345 l0 0 x3_1 from ⟨_, _, by (with_reducible repeat (first | refine blk_drewN ?_ _ | refine blk_drew ?_ | refine blk_alloc ?_ _)); exact BK345.out, GE345.out, HR0.out⟩), by repeat (first | (with_reducible first | exact HB.out | apply below_alloc | apply pw_below_drewN | apply below_drew1 | refine below_set ?_ GE345.out) | exact HB.out), by repeat (first | (with_reducible first | exact HBW.out | apply below_alloc | apply pw_below_drewN | apply below_drew1 | refine below_set ?_ GW345.out) | exact HBW.out)⟩

      rw [if_pos c2] at H
      have c2b0 := decide_eq_true c2
      clear c2
      by_cases c3 : x4_1 < 4000
      case pos =>
        rw [if_pos c3] at H
        have c3b0 := decide_eq_true c3
        clear c3
        by_cases c4 : 0 ≤ x4_1
        case neg => exact qn c4 H
        rw [if_pos c4] at H
        have c4b0 := decide_eq_true c4
        clear c4
        have H' := Aside0.mk H
        clear H
        have p343 : 0 ≤ (x4_1 : Int) := of_decide_eq_true zb
        have q343 : x4_1 < (l0.length : Int) := of_decide_eq_true zb
        obtain ⟨ad343, e343, hx343_0⟩ := Kd.at_int HR0.out x4_1 p343 q343
        cases e343
        replace hx343_0 := pw_cell_below HB.out hx343_0
        replace p343 := eq_true p343
        replace q343 := eq_true q343
        go_wp2
        go_roundg k1
        case measure => have := HK1.out; omega
        case rel => exact ⟨(Go.bits .and .i64 (wrap64 ((wrap64 ((wrap64 (x3_1 * 131)) + (wrap64 (rd l0 x4_1)))) + 7)) 1073741823), (wrap64 (x4_1 + 1)), zd, zd, H', ⟨zd3⟩, ⟨zb7⟩, ⟨za⟩⟩
      rw [if_neg c3] at H
      have c3b0 := decide_eq_false c3
      clear c3
      simp only [Option.some.injEq, Prod.mk.injEq] at H
      obtain ⟨rfl, rfl, rfl⟩ := H
      go_wp2_with (first | ((with_reducible refine gate_dst (N := 31) rfl ?_); refine qB 31 #[.slice A0 l0.length c0, .int .i64 0, .int .i64 x3_1] 102 ?_; intro gb344 hg w5 hbox hb; replace HB := Aside0.mk (below_step za hb); have BK344 := Aside0.mk (hbox); have GW344 := Aside0.mk ((zen : w.heap.size ≤ gb344)); have GE344 := Aside0.mk ((Nat.le_trans HW0.out (zen : w.heap.size ≤ gb344) : w0.heap.size ≤ gb344)); replace HBW := Aside0.mk (below_step HBW.out hb); clear hb hbox hg))
      go_ret
      exact ⟨_, rfl, (show IsS102 w0 _ gb344 l0 0 x3_1 from ⟨_, _, by (with_reducible repeat (first | refine blk_drewN ?_ _ | refine blk_drew ?_ | refine blk_alloc ?_ _)); exact BK344.out, GE344.out, HR0.out⟩), by repeat (first | (with_reducible first | exact HB.out | apply below_alloc | apply pw_below_drewN | apply below_drew1 | refine below_set ?_ GE344.out) | exact HB.out), by repeat (first | (with_reducible first | exact HBW.out | apply below_alloc | apply pw_below_drewN | apply below_drew1 | refine below_set ?_ GW344.out) | exact HBW.out)⟩
/-! ### spec_DrawMeta: function 18 -/
def spec_DrawMeta.f (k : Nat) (l0 : List Int) : Option (Int × Int × Int × (List (S60))) := (spec_l01New.f k l0).bind fun bt347 => ((spec_l06Meta.f k bt347.1 bt347.2.1 bt347.2.2).bind fun bt351 => (some (bt351.1, bt351.2.1, bt351.2.2.1, bt351.2.2.2.1)))
theorem spec_DrawMeta.mono : ∀ a0 k, LeO (spec_DrawMeta.f k a0) (spec_DrawMeta.f (k + 1) a0) := by
  intro a0 k
  unfold spec_DrawMeta.f
  exact qv
set_option maxHeartbeats 8000000 in
set_option maxRecDepth 100000 in
theorem spec_DrawMeta.calls (k : Nat) (A0 : Option Addr) (c0 : Nat) (l0 : List Int) (r1 : Int) (r2 : Int) (r3 : Int) (r4 : List (S60)) (w : World) (hr0 : Kd.C (Kd.int .u8) w A0 l0.length l0) (hc0 : l0.length ≤ c0) (h : spec_DrawMeta.f k l0 = some (r1, r2, r3, r4)) :
    Calls Try.prog 18 #[.slice A0 l0.length c0] w fun e w' => ∃ v3_ : Value, e = .returned (.agg #[.int .i64 r1, .int .i64 r2, .int .i64 r3, v3_]) ∧ Kd.S k60 60 w' w.heap.size (fun _ => True) v3_ r4 ∧ Below w.heap.size w w' := by
  have hu24 := Try.underlying24
  have HR0 := Aside0.mk hr0
  have HC0 := Aside0.mk hc0
  clear hr0 hc0
  have HB := Aside0.mk (Below.refl w.heap.size w)
  unfold spec_DrawMeta.f at h
  have H := h
  clear h
  replace H := qi H
  obtain ⟨⟨t347, t348, t349⟩, A2, H⟩ := H
  dsimp only at H
  replace H := qi H
  obtain ⟨⟨t351, t352, t353, t354, t357, t358⟩, A3, H⟩ := H
  dsimp only at H
  simp only [Option.some.injEq, Prod.mk.injEq] at H
  obtain ⟨rfl, rfl, rfl, rfl⟩ := H
  go_enter Try.func18, Try.ntmps18
  go_wp2_with (first | ((with_reducible refine gate_dst (N := 2) rfl ?_); refine qB 2 #[.int .i64 0, .int .i64 0, .int .i64 0, .slice none 0 0] 24 ?_; intro gb346 hg w4 hbox hb; have BK346 := Aside0.mk (hbox); have GW346 := Aside0.mk ((zef : w.heap.size ≤ gb346)); have GE346 := GW346; replace HB := Aside0.mk (below_step za hb); clear hb hbox hg) | ((with_reducible refine gate_callee (f := 44) rfl ?_); refine qG (some 4) Try.func44 #[.slice A0 l0.length c0] ?_; (with_reducible refine (spec_l01New.calls k _ _ l0 t347 t348 t349 w _ ?side1 ?side2 ?side3 A2.out).mono ?_); (case side1 => exact (by repeat (first | (with_reducible first | exact HB.out | apply below_alloc | apply pw_below_drewN | apply below_drew1 | refine below_set ?_ GE346.out) | exact HB.out))); (case side2 => exact HR0.out); (case side3 => exact HC0.out); rintro e w5 ⟨g350, rfl, hi, hb, hb2⟩; refine ⟨_, rfl, ?_⟩; replace HB := Aside0.mk (hb); have HI350 := Aside0.mk (hi); have NB350_346 := Aside0.mk (IsS102.ne_blk hi (bB BK346.out hb2) zbf); have NB346_350 := Aside0.mk (Ne.symm (IsS102.ne_blk hi (bB BK346.out hb2) zbf)); replace BK346 := Aside0.mk (bB BK346.out hb2); try clear hb hb2 hi) | ((with_reducible refine gate_callee (f := 43) rfl ?_); refine qG (some 5) Try.func43 #[.pointer (some ⟨g350, 0, none⟩)] ?_; (with_reducible refine (spec_l06Meta.calls k g350 t347 t348 t349 t351 t352 t353 t354 t357 t358 w _ ?side1 ?side2 A3.out).mono ?_); (case side1 => exact (by repeat (first | (with_reducible first | exact HI350.out | apply IsS102.alloc | apply IsS102.drewN | apply IsS102.drew | apply IsS102.set_1 | apply IsS102.set_2 | apply IsS102.far (hne := NB350_346.out)) | apply IsS102.far (hne := NB350_346.out) | exact HI350.out))); (case side2 => exact zcn); rintro e w6 ⟨v355, rfl, ho0, hi, hb, hk⟩; refine ⟨_, rfl, ?_⟩; replace BK346 := Aside0.mk (KeepBut.blk hk (bP BK346.out) NB346_350.out zdw); have HO356 := Aside0.mk (Kd.S_lower ho0 (below_size zcn)); replace HB := Aside0.mk (hb); replace HI350 := Aside0.mk (hi); try clear hb hk hi ho0; have hnb7 := NB346_350.out; have hnc7 := NB350_346.out; obtain ⟨_, _, _, _, _, _, _, _⟩ := qk4 BK346.out; obtain ⟨Ao9, co9, eo9⟩ := Kd.S_slice HO356.out; subst eo9))
  refine bodyPost_ret (results_cell_row rfl _ _ gb346 24 #[.int .i64 t351, .int .i64 t352, .int .i64 t353, .slice Ao9 t354.length co9] (0, 0) _ rfl (p4 BK346.out) Try.underlying24 rfl za5) rfl ?_
  exact ⟨_, zc, Kd.S_mono (sK HO356.out BK346.out) (fun _ _ => trivial), zcn⟩

/-! ### spec_DiskNew: function 19 -/
def spec_DiskNew.f (a0 : Int) : Option (List ByteArray × (List (S83)) × Bool) := (spec_l01In.f a0 4 40).bind fun t360 => (if t360 = true then (if 0 ≤ a0 then (if (a0 : Int).toNat ≤ 17592186044416 then (some ((List.replicate (a0 : Int).toNat (⟨#[]⟩ : ByteArray)), ([] : List (S83)), true)) else (none)) else (none)) else (some (([] : List ByteArray), ([] : List (S83)), false)))
set_option maxHeartbeats 8000000 in
set_option maxRecDepth 100000 in
theorem spec_DiskNew.calls (a0 : Int) (r1 : List ByteArray) (r2 : List (S83)) (r3 : Bool) (w : World) (h : spec_DiskNew.f a0 = some (r1, r2, r3)) :
    Calls Try.prog 19 #[.int .i64 a0] w fun e w' => ∃ v0_ v1_ : Value, e = .returned (.tuple #[.agg #[v0_, v1_], .bool r3]) ∧ Kd.R Kd.string 9 w' w.heap.size (fun _ => True) v0_ r1 ∧ Kd.R k83 83 w' w.heap.size (fun _ => True) v1_ r2 ∧ Below w.heap.size w w' := by
  have hu38 := Try.underlying38
  have HB := Aside0.mk (Below.refl w.heap.size w)
  unfold spec_DiskNew.f at h
  have H := h
  clear h
  replace H := qi H
  obtain ⟨t360, A2, H⟩ := H
  by_cases c3 : t360 = true
  case neg =>
    replace c3 := Bool.eq_false_iff.mpr c3
    subst c3
    rw [if_neg (qj)] at H
    simp only [Option.some.injEq, Prod.mk.injEq] at H
    obtain ⟨rfl, rfl, rfl⟩ := H
    go_enter Try.func19, Try.ntmps19
    go_wp2_with (first | ((with_reducible refine gate_dst (N := 2) rfl ?_); refine qB 2 #[.slice none 0 0, .slice none 0 0] 38 ?_; intro gb359 hg w11 hbox hb; have BK359 := Aside0.mk (hbox); have GW359 := Aside0.mk ((zef : w.heap.size ≤ gb359)); have GE359 := GW359; replace HB := Aside0.mk (below_step za hb); clear hb hbox hg) | ((with_reducible refine gate_callee (f := 45) rfl ?_); refine qG (some 5) Try.func45 #[.int .i64 a0, .int .i64 4, .int .i64 40] ?_; (with_reducible refine (spec_l01In.calls a0 4 40 false _ A2.out).mono ?_); rintro e w' ⟨rfl, ⟨nd, rfl⟩⟩; refine ⟨_, rfl, ?_⟩; (try (rw [drewN_self w11]; generalize hq_ : World.drewN w11 _ = w11; have n0_ : Aside0 (w11.heap[gb359]? = some (.cells #[.slice none 0 0, .slice none 0 0] 38 (0, 0))) := ⟨by rw [← hq_]; exact (bP BK359.out)⟩; have n1_ : Aside0 (Below w.heap.size w w11) := ⟨by rw [← hq_]; exact zbw⟩; clear BK359 HB hq_; have BK359 := n0_; have HB := n1_; clear n0_ n1_)); (try have hcr359_0 : w11.cell? ⟨gb359, 0, none⟩ = some (.slice none 0 0) := qx BK359 0); (try have hfr359_0 := blk_frozen BK359.out 0); (try have hcr359_1 : w11.cell? ⟨gb359, 1, none⟩ = some (.slice none 0 0) := qx BK359 1); (try have hfr359_1 := blk_frozen BK359.out 1); obtain ⟨_, _, _, _⟩ := qk2 BK359.out))
    refine bodyPost_ret (results_ct rfl _ _ gb359 38 #[.slice none 0 0, .slice none 0 0] (0, 0) _ rfl (p2 BK359.out) Try.underlying38 rfl za5) rfl ?_
    exact ⟨_, _, zc, zb3, zb3, zbw⟩

  subst c3
  rw [if_pos rfl] at H
  by_cases c4 : 0 ≤ a0
  case neg => exact qn c4 H
  rw [if_pos c4] at H
  have c4b0 := eq_true c4
  have c4b1 := decide_eq_true c4
  clear c4
  by_cases c5 : (a0 : Int).toNat ≤ 17592186044416
  case neg => exact qn c5 H
  rw [if_pos c5] at H
  have c5b0 := eq_true c5
  have c5b1 := decide_eq_true c5
  clear c5
  obtain ⟨y361, hy361⟩ : ∃ y_ : List ByteArray, y_ = (List.replicate (a0 : Int).toNat (⟨#[]⟩ : ByteArray)) := ⟨_, rfl⟩
  replace H : (some (y361, ([] : List (S83)), true)) = some (r1, r2, r3) := by first | (rw [hy361]; with_reducible exact H) | (have H2_ := (Option.bind_some _ _).symm.trans H; rw [hy361]; with_reducible exact H2_) | (have H2_ := (Option.bind_some _ _).symm.trans H; with_reducible exact H2_) | with_reducible exact H | (rw [hy361]; exact H) | exact H
  have Ny361 := Aside0.mk hy361
  clear hy361
  simp only [Option.some.injEq, Prod.mk.injEq] at H
  obtain ⟨rfl, rfl, rfl⟩ := H
  go_enter Try.func19, Try.ntmps19
  go_wp2_with (first | ((with_reducible refine gate_dst (N := 2) rfl ?_); refine qB 2 #[.slice none 0 0, .slice none 0 0] 38 ?_; intro gb359 hg w6 hbox hb; have BK359 := Aside0.mk (hbox); have GW359 := Aside0.mk ((zef : w.heap.size ≤ gb359)); have GE359 := GW359; replace HB := Aside0.mk (below_step za hb); clear hb hbox hg) | ((with_reducible refine gate_callee (f := 45) rfl ?_); refine qG (some 5) Try.func45 #[.int .i64 a0, .int .i64 4, .int .i64 40] ?_; (with_reducible refine (spec_l01In.calls a0 4 40 true _ A2.out).mono ?_); rintro e w' ⟨rfl, ⟨nd, rfl⟩⟩; refine ⟨_, rfl, ?_⟩; (try (rw [drewN_self w6]; generalize hq_ : World.drewN w6 _ = w6; have n0_ : Aside0 (w6.heap[gb359]? = some (.cells #[.slice none 0 0, .slice none 0 0] 38 (0, 0))) := ⟨by rw [← hq_]; exact (bP BK359.out)⟩; have n1_ : Aside0 (Below w.heap.size w w6) := ⟨by rw [← hq_]; exact zbw⟩; clear BK359 HB hq_; have BK359 := n0_; have HB := n1_; clear n0_ n1_)); (try have hcr359_0 : w6.cell? ⟨gb359, 0, none⟩ = some (.slice none 0 0) := qx BK359 0); (try have hfr359_0 := blk_frozen BK359.out 0); (try have hcr359_1 : w6.cell? ⟨gb359, 1, none⟩ = some (.slice none 0 0) := qx BK359 1); (try have hfr359_1 := blk_frozen BK359.out 1)) | ((with_reducible refine gate_dst (N := 9) rfl ?_); refine Kd.R_make Kd.string _ 9 rfl (N := 9) rfl 30 _ _ rfl a0 rfl rfl Try.underlying30 (.string ⟨#[]⟩) 16 info9 rfl zbf zd4 (⟨#[]⟩ : ByteArray) (ok := fun _ => True) (okp := fun _ => True) rfl (fun _ hk => hk) trivial (of_decide_eq_true zb) (Nat.le_trans (Nat.mul_le_mul_right _ (of_decide_eq_true zb : a0.toNat ≤ 17592186044416)) zd4) (Below.refl _ _) (Nat.le_refl _) ?_; intro v362 w7 ho8 hb hg_ hnew_; clear hg_ hnew_; (first | rw [← Ny361.out] at ho8 | (simp only [Int.reduceToNat] at ho8; rw [← Ny361.out] at ho8)); have HO363 := Aside0.mk (Kd.R_lower ho8 (below_size zbw)); replace BK359 := Aside0.mk (bB BK359.out hb); replace HB := Aside0.mk (below_step zbw hb); clear hb ho8; obtain ⟨Ao9, co9, eo9⟩ := Kd.R_slice HO363.out; subst eo9; obtain ⟨_, _, _, _⟩ := qk2 BK359.out))
  refine bodyPost_ret (results_ct rfl _ _ gb359 38 #[.slice Ao9 y361.length co9, .slice none 0 0] (0, 0) _ rfl (p2 BK359.out) Try.underlying38 rfl za5) rfl ?_
  exact ⟨_, _, zc, Kd.R_mono (rK HO363.out BK359.out) (fun _ _ => trivial), zb3, zbw⟩
end Go.Proofs.Yteokilffbcbllaa.VFnBest
