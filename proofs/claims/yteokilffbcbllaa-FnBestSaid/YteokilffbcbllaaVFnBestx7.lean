-- Written by a program of this repo (wip/myprint.py), over the kit's print; functions that the print does not take stand in it by hand-proved contracts.
import Derived.Test.YteokilffbcbllaaVFnBestx0
import Derived.Test.YteokilffbcbllaaVFnBestx6
namespace Go.Proofs.Yteokilffbcbllaa.VFnBest
open Go.RowKit Go.Proofs.YteokilffbcbllaaW.PrintWords Go.Proofs.YteokilffbcbllaaW.PrintLast Go.Proofs.YteokilffbcbllaaW.PrintMore
attribute [local go_sem] max2_int min2_int max_two min_two max_three min_three max_four min_four   -- for this text's walks alone
attribute [local go_sem high] str_leq str_gtr str_geq str_lss
set_option linter.unusedVariables false
set_option linter.unusedSimpArgs false

/-- A state of type 56 at block g of W; what its slices lead to came in by w0. -/
def IsS56 (w0 W : World) (g : Nat) (f0 : ByteArray) (f1 : Int) (f2 : Bool) : Prop := W.heap[g]? = some (.cells #[.string f0, .int .i64 f1, .bool f2] 56 (0, 0)) ∧ w0.heap.size ≤ g
theorem IsS56.grown {w0 W : World} {g : Nat} {f0 : ByteArray} {f1 : Int} {f2 : Bool} {W1 : World} {row : Option Nat} (h : IsS56 w0 W g f0 f1 f2) (hw : W.grownBy W1 row) (hne : some g ≠ row) : IsS56 w0 W1 g f0 f1 f2 := by
  obtain ⟨hb, hg⟩ := h
  exact ⟨blk_grown hb hw hne, hg⟩
theorem IsS56.own_neN {w0 W : World} {g : Nat} {f0 : ByteArray} {f1 : Int} {f2 : Bool} {α : Type} {d : Kd α} {e : Nat} {base : Nat} {ok : Nat → Prop} {v : Value} {xs : List α} (h : IsS56 w0 W g f0 f1 f2) (ho : Kd.N d e W base ok v xs) (ht : e ≠ 56) : some g ≠ v.ownBlock := by
  obtain ⟨hb, hg⟩ := h
  exact Kd.N_ne ho hb ht
theorem IsS56.fresh {w0 W : World} {g : Nat} {f0 : ByteArray} {f1 : Int} {f2 : Bool} (h : IsS56 w0 W g f0 f1 f2) : ∀ k, W.heap.size ≤ k → k ≠ g := by
  obtain ⟨hb, hg⟩ := h
  exact Kd.freshB hb
theorem IsS56.kept {w0 W : World} {g : Nat} {f0 : ByteArray} {f1 : Int} {f2 : Bool} {W1 : World} {S : Nat → Prop} (h : IsS56 w0 W g f0 f1 f2) (hk : Kept W W1 S) (hne : ¬ S g) : IsS56 w0 W1 g f0 f1 f2 := by
  obtain ⟨hb, hg⟩ := h
  exact ⟨blk_kept hb hk hne, hg⟩
theorem IsS56.below {w0 W : World} {g : Nat} {f0 : ByteArray} {f1 : Int} {f2 : Bool} {W1 : World} (h : IsS56 w0 W g f0 f1 f2) (hw : Below W.heap.size W W1) : IsS56 w0 W1 g f0 f1 f2 := h.grown (grown_of_below hw none) zdw
theorem IsS56.alloc {w0 W : World} {g : Nat} {f0 : ByteArray} {f1 : Int} {f2 : Bool} (h : IsS56 w0 W g f0 f1 f2) (o : Obj) : IsS56 w0 (W.alloc o) g f0 f1 f2 := h.below (below_alloc (Below.refl _ _) o)
theorem IsS56.drewN {w0 W : World} {g : Nat} {f0 : ByteArray} {f1 : Int} {f2 : Bool} (h : IsS56 w0 W g f0 f1 f2) (m : Nat) : IsS56 w0 (W.drewN m) g f0 f1 f2 := h
theorem IsS56.drew {w0 W : World} {g : Nat} {f0 : ByteArray} {f1 : Int} {f2 : Bool} (h : IsS56 w0 W g f0 f1 f2) : IsS56 w0 W.drew g f0 f1 f2 := h
theorem IsS56.at_ {w0 W : World} {g : Nat} {f0 : ByteArray} {f1 : Int} {f2 : Bool} {w' : World} {m : Nat} (hq : W.drewN m = w') (h : IsS56 w0 W g f0 f1 f2) : IsS56 w0 w' g f0 f1 f2 := by subst hq; exact IsS56.drewN h m
theorem IsS56.apart {w0 W : World} {g : Nat} {f0 : ByteArray} {f1 : Int} {f2 : Bool} {α : Type} {d : Kd α} {e : Nat} {base : Nat} {ok : Nat → Prop} {v : Value} {xs : List α} (h : IsS56 w0 W g f0 f1 f2) (ho : d.R e W base ok v xs) (ht : ∀ q, q ∈ e :: d.E → q ≠ 56) : d.R e W base (fun k => ok k ∧ k ≠ g) v xs := by
  obtain ⟨hb, hg⟩ := h
  exact Kd.R_types ho hb ht
theorem IsS56.own_ne {w0 W : World} {g : Nat} {f0 : ByteArray} {f1 : Int} {f2 : Bool} {α : Type} {d : Kd α} {e : Nat} {base : Nat} {ok : Nat → Prop} {v : Value} {xs : List α} (h : IsS56 w0 W g f0 f1 f2) (ho : d.R e W base ok v xs) (ht : e ≠ 56) : some g ≠ v.ownBlock := by
  obtain ⟨hb, hg⟩ := h
  exact Kd.R_ne ho hb ht
theorem IsS56.apartQ {w0 W : World} {g : Nat} {f0 : ByteArray} {f1 : Int} {f2 : Bool} {α : Type} {d : Kd α} {e : Nat} {base : Nat} {ok : Nat → Prop} {v : Value} {xs : List α} (h : IsS56 w0 W g f0 f1 f2) (ho : d.Q e W base ok v xs) (ht : ∀ q, q ∈ e :: d.E → q ≠ 56) : d.Q e W base (fun k => ok k ∧ k ≠ g) v xs := by
  obtain ⟨hb, hg⟩ := h
  exact Kd.Q_types ho hb ht
theorem IsS56.own_neQ {w0 W : World} {g : Nat} {f0 : ByteArray} {f1 : Int} {f2 : Bool} {α : Type} {d : Kd α} {e : Nat} {base : Nat} {ok : Nat → Prop} {v : Value} {xs : List α} (h : IsS56 w0 W g f0 f1 f2) (ho : d.Q e W base ok v xs) (ht : e ≠ 56) : some g ≠ v.ownBlock := by
  obtain ⟨hb, hg⟩ := h
  exact Kd.Q_ne ho hb ht
theorem IsS56.apartS {w0 W : World} {g : Nat} {f0 : ByteArray} {f1 : Int} {f2 : Bool} {α : Type} {d : Kd α} {e : Nat} {base : Nat} {ok : Nat → Prop} {v : Value} {xs : List α} (h : IsS56 w0 W g f0 f1 f2) (ho : d.S e W base ok v xs) (ht : ∀ q, q ∈ e :: d.E → q ≠ 56) : d.S e W base (fun k => ok k ∧ k ≠ g) v xs := by
  obtain ⟨hb, hg⟩ := h
  exact Kd.S_types ho hb ht
theorem IsS56.own_neS {w0 W : World} {g : Nat} {f0 : ByteArray} {f1 : Int} {f2 : Bool} {α : Type} {d : Kd α} {e : Nat} {base : Nat} {ok : Nat → Prop} {v : Value} {xs : List α} (h : IsS56 w0 W g f0 f1 f2) (ho : d.S e W base ok v xs) (ht : e ≠ 56) : some g ≠ v.ownBlock := by
  obtain ⟨hb, hg⟩ := h
  exact Kd.S_ne ho hb ht
theorem IsS56.lt {w0 W : World} {g : Nat} {f0 : ByteArray} {f1 : Int} {f2 : Bool} (h : IsS56 w0 W g f0 f1 f2) : g < W.heap.size := by
  obtain ⟨hb, hg⟩ := h
  exact blk_lt hb
theorem IsS56.ge {w0 W : World} {g : Nat} {f0 : ByteArray} {f1 : Int} {f2 : Bool} (h : IsS56 w0 W g f0 f1 f2) : w0.heap.size ≤ g := by
  obtain ⟨hb, hg⟩ := h
  exact hg
theorem IsS56.ne_blk {w0 W : World} {g : Nat} {f0 : ByteArray} {f1 : Int} {f2 : Bool} {a : Nat} {cs : Array Value} {t : TypeId} {fr : Nat × Nat} (h : IsS56 w0 W g f0 f1 f2) (hb2 : W.heap[a]? = some (.cells cs t fr)) (ht : t ≠ 56) : g ≠ a := by
  obtain ⟨hb, hg⟩ := h
  rintro rfl
  rw [hb] at hb2
  injection hb2 with hb2
  injection hb2 with _ ht2
  exact ht ht2.symm
theorem IsS56.far {w0 W : World} {g : Nat} {f0 : ByteArray} {f1 : Int} {f2 : Bool} {p : Addr} (h : IsS56 w0 W g f0 f1 f2) (hne : g ≠ p.block) (u : Value) : IsS56 w0 (W.setCell p u) g f0 f1 f2 := by
  obtain ⟨hb, hg⟩ := h
  exact ⟨blk_far hb hne u, hg⟩
theorem cellS56_0 {W : World} {g : Nat} {f0 : ByteArray} {f1 : Int} {f2 : Bool} (h : W.heap[g]? = some (.cells #[.string f0, .int .i64 f1, .bool f2] 56 (0, 0))) : W.cell? ⟨g, 0, none⟩ = some (.string f0) := (blk_cell h 0).trans rfl
theorem IsS56.set_0 {w0 W : World} {g : Nat} {f0 : ByteArray} {f1 : Int} {f2 : Bool} (h : IsS56 w0 W g f0 f1 f2) (x : ByteArray) : IsS56 w0 (W.setCell ⟨g, 0, none⟩ (.string x)) g x f1 f2 := by
  obtain ⟨hb, hg⟩ := h
  exact ⟨by simpa using blk_set hb 0 (.string x), hg⟩
theorem cellS56_1 {W : World} {g : Nat} {f0 : ByteArray} {f1 : Int} {f2 : Bool} (h : W.heap[g]? = some (.cells #[.string f0, .int .i64 f1, .bool f2] 56 (0, 0))) : W.cell? ⟨g, 1, none⟩ = some (.int .i64 f1) := (blk_cell h 1).trans rfl
theorem IsS56.set_1 {w0 W : World} {g : Nat} {f0 : ByteArray} {f1 : Int} {f2 : Bool} (h : IsS56 w0 W g f0 f1 f2) (x : Int) : IsS56 w0 (W.setCell ⟨g, 1, none⟩ (.int .i64 x)) g f0 x f2 := by
  obtain ⟨hb, hg⟩ := h
  exact ⟨by simpa using blk_set hb 1 (.int .i64 x), hg⟩
theorem cellS56_2 {W : World} {g : Nat} {f0 : ByteArray} {f1 : Int} {f2 : Bool} (h : W.heap[g]? = some (.cells #[.string f0, .int .i64 f1, .bool f2] 56 (0, 0))) : W.cell? ⟨g, 2, none⟩ = some (.bool f2) := (blk_cell h 2).trans rfl
theorem IsS56.set_2 {w0 W : World} {g : Nat} {f0 : ByteArray} {f1 : Int} {f2 : Bool} (h : IsS56 w0 W g f0 f1 f2) (x : Bool) : IsS56 w0 (W.setCell ⟨g, 2, none⟩ (.bool x)) g f0 f1 x := by
  obtain ⟨hb, hg⟩ := h
  exact ⟨by simpa using blk_set hb 2 (.bool x), hg⟩
theorem IsS56.new (w0 W : World) (f0 : ByteArray) (f1 : Int) (f2 : Bool) (hB : Below w0.heap.size w0 W) : IsS56 w0 (W.alloc (.cells #[.string f0, .int .i64 f1, .bool f2] 56)) W.heap.size f0 f1 f2 := ⟨by simpa using heap_alloc_new W _, hB.size⟩

/-! ### spec_l04Var: function 26 -/
def spec_l04Var.f (k : Nat) (s0_0 : ByteArray) (s0_1 : Int) (s0_2 : Bool) : Option (Int × ByteArray × Int × Bool) := (spec_ReadVar.f k s0_0 s0_1).bind fun bt137 => (if s0_2 = true then (some (0, s0_0, s0_1, true)) else (if bt137.2.2 = true then (some (bt137.1, s0_0, bt137.2.1, s0_2)) else (some (0, s0_0, s0_1, true))))
theorem spec_l04Var.mono : ∀ a0 a1 a2 k, LeO (spec_l04Var.f k a0 a1 a2) (spec_l04Var.f (k + 1) a0 a1 a2) := by
  intro a0 a1 a2 k
  unfold spec_l04Var.f
  exact qv
def spec_l04Var.T1 : Bool × List (List Nat × List Nat) := (true, [([], []), ([0], [0]), ([1], [1]), ([2], [2]), ([], []), ([4], [4]), ([5], [5]), ([6], [6]), ([3, 7], [3, 7]), ([8], [8]), ([9], [9]), ([9], [9]), ([9], [9]), ([10, 8, 0, 1, 2, 3, 4, 5, 6, 7, 8, 9, 10], [10]), ([11, 13, 0, 1, 2, 3, 4, 5, 6, 7, 8, 9, 10, 11, 13], [11]), ([12, 14, 0, 1, 2, 3, 4, 5, 6, 7, 8, 9, 10, 11, 12, 13, 14], [12])])
def spec_l04Var.B1 : List Nat := [0, 1, 3, 7, 0, 16, 48, 112, 255, 511, 1023, 1023, 1023, 2047, 12287, 32767]
theorem spec_l04Var.tab1 : rtab .any (opsOf Try.f26 1) = spec_l04Var.T1 := by kernel_rfl
theorem spec_l04Var.bits1 : waitsOk spec_l04Var.T1.2 spec_l04Var.B1 = true := by kernel_rfl
set_option maxHeartbeats 8000000 in
set_option maxRecDepth 100000 in
theorem spec_l04Var.calls (k : Nat) (g : Nat) (s0_0 : ByteArray) (s0_1 : Int) (s0_2 : Bool) (r1 : Int) (r2 : ByteArray) (r3 : Int) (r4 : Bool) (w0 w : World) (hI : IsS56 w0 w g s0_0 s0_1 s0_2) (hB : Below w0.heap.size w0 w) (h : spec_l04Var.f k s0_0 s0_1 s0_2 = some (r1, r2, r3, r4)) :
    Calls Try.prog 26 #[.pointer (some ⟨g, 0, none⟩)] w fun e w' => e = .returned (.int .i64 r1) ∧ IsS56 w0 w' g r2 r3 r4 ∧ Below w0.heap.size w0 w' ∧ KeepBut w w' g none := by
  have HI0 := Aside0.mk hI
  have HK := Aside0.mk (KeepBut.refl w g none)
  clear hI
  have HB := Aside0.mk hB
  clear hB
  unfold spec_l04Var.f at h
  have H := h
  clear h
  replace H := qi H
  obtain ⟨⟨t137, t138, t139⟩, A2, H⟩ := H
  dsimp only at H
  by_cases c3 : s0_2 = true
  case pos =>
    subst c3
    rw [if_pos rfl] at H
    simp only [Option.some.injEq, Prod.mk.injEq] at H
    obtain ⟨rfl, rfl, rfl, rfl⟩ := H
    go_enter Try.func26, Try.ntmps26
    try go_wp2
    replace HI0 := Aside0.mk (IsS56.drew HI0.out)
    replace HK := Aside0.mk (keep_drew HK.out)
    replace HB := Aside0.mk (below_drew1 HB.out)
    refine start_ (n := 16) (S := fun w' => w'.cell? ⟨g, 0, none⟩ = some (.string s0_0) ∧ w'.cell? ⟨g, 1, none⟩ = some (.int .i64 s0_1) ∧ w'.cell? ⟨g, 2, none⟩ = some (.bool true)) (ds := []) (bz 16 0) za5 rfl rfl ⟨(blk_cell (Aside0.mk (And.left (show _ ∧ _ from HI0.out))).out 0).trans rfl, (blk_cell (Aside0.mk (And.left (show _ ∧ _ from HI0.out))).out 1).trans rfl, (blk_cell (Aside0.mk (And.left (show _ ∧ _ from HI0.out))).out 2).trans rfl⟩ (fun hHeld => ?_); refine with_tabW spec_l04Var.tab1 spec_l04Var.bits1 (fun HT_ HW_ => ?_)
    generalize w.drew = w4 at HI0 HK HB hHeld ⊢
    refine ql 0 (some 7) (bz 16 1) HT_ ?_
    refine ql 1 (some 8) (bz 16 3) HT_ ?_
    refine ql 2 (some 9) (bz 16 7) HT_ ?_
    refine ql 4 (some 11) (bz 16 23) HT_ ?_
    refine ql 5 (some 12) (bz 16 55) HT_ ?_
    refine ql 6 (some 13) (bz 16 119) HT_ ?_
    refine qt 3 (some 10) (bz 16 127) HT_ HW_ hHeld ?_
    refine qt 7 (some 14) (bz 16 255) HT_ HW_ hHeld ?_
    refine qs 8 (some 15) (bz 16 511) HT_ rfl rfl (fun K hK => ?_)
    refine goes_ Try.func57 za5 rfl #[.string s0_0, .int .i64 s0_1] zdy rfl rfl zv ?_
    with_reducible refine (spec_ReadVar.calls k s0_0 s0_1 t137 t138 t139 _ A2.out).mono ?_
    rintro e w5 ⟨rfl, hb⟩
    refine ⟨_, rfl, ?_⟩
    replace HK := Aside0.mk (KeepBut.trans zn (KeepBut.of_below hb g none) (.inl rfl))
    replace HB := Aside0.mk (below_step zbv hb)
    replace HI0 := Aside0.mk (IsS56.below zbp hb)
    try clear hb
    refine hK.out _ _ ⟨(blk_cell (Aside0.mk (And.left (show _ ∧ _ from HI0.out))).out 0).trans rfl, (blk_cell (Aside0.mk (And.left (show _ ∧ _ from HI0.out))).out 1).trans rfl, (blk_cell (Aside0.mk (And.left (show _ ∧ _ from HI0.out))).out 2).trans rfl⟩ (fun hHeld => ?_)
    clear hK K
    refine qr (some 15) ?_
    refine ql 9 (some 6) (bz 16 1023) HT_ ?_
    refine ql 10 (some 16) (bz 16 2047) HT_ ?_
    refine ql 11 (some 17) (bz 16 4095) HT_ ?_
    refine ql 12 (some 18) (bz 16 8191) HT_ ?_
    refine ql 13 (some 3) (bz 16 16383) HT_ ?_
    refine ql 14 (some 4) (bz 16 32767) HT_ ?_
    refine ql 15 (some 5) (bz 16 65535) HT_ ?_
    refine qu HT_ ?_
    obtain ⟨_, _, _, _, _, _⟩ := qk3 HI0.out.1
    try go_wp2
    go_ret
    exact ⟨zc, zbp, zbv, zn⟩
  replace c3 := Bool.eq_false_iff.mpr c3
  subst c3
  rw [if_neg (qj)] at H
  by_cases c7 : t139 = true
  case pos =>
    subst c7
    rw [if_pos rfl] at H
    simp only [Option.some.injEq, Prod.mk.injEq] at H
    obtain ⟨rfl, rfl, rfl, rfl⟩ := H
    go_enter Try.func26, Try.ntmps26
    try go_wp2
    replace HI0 := Aside0.mk (IsS56.drew HI0.out)
    replace HK := Aside0.mk (keep_drew HK.out)
    replace HB := Aside0.mk (below_drew1 HB.out)
    refine start_ (n := 16) (S := fun w' => w'.cell? ⟨g, 0, none⟩ = some (.string s0_0) ∧ w'.cell? ⟨g, 1, none⟩ = some (.int .i64 s0_1) ∧ w'.cell? ⟨g, 2, none⟩ = some (.bool false)) (ds := []) (bz 16 0) za5 rfl rfl ⟨(blk_cell (Aside0.mk (And.left (show _ ∧ _ from HI0.out))).out 0).trans rfl, (blk_cell (Aside0.mk (And.left (show _ ∧ _ from HI0.out))).out 1).trans rfl, (blk_cell (Aside0.mk (And.left (show _ ∧ _ from HI0.out))).out 2).trans rfl⟩ (fun hHeld => ?_); refine with_tabW spec_l04Var.tab1 spec_l04Var.bits1 (fun HT_ HW_ => ?_)
    generalize w.drew = w8 at HI0 HK HB hHeld ⊢
    refine ql 0 (some 7) (bz 16 1) HT_ ?_
    refine ql 1 (some 8) (bz 16 3) HT_ ?_
    refine ql 2 (some 9) (bz 16 7) HT_ ?_
    refine ql 4 (some 11) (bz 16 23) HT_ ?_
    refine ql 5 (some 12) (bz 16 55) HT_ ?_
    refine ql 6 (some 13) (bz 16 119) HT_ ?_
    refine qt 3 (some 10) (bz 16 127) HT_ HW_ hHeld ?_
    refine qt 7 (some 14) (bz 16 255) HT_ HW_ hHeld ?_
    refine qs 8 (some 15) (bz 16 511) HT_ rfl rfl (fun K hK => ?_)
    refine goes_ Try.func57 za5 rfl #[.string s0_0, .int .i64 s0_1] zdy rfl rfl zv ?_
    with_reducible refine (spec_ReadVar.calls k s0_0 s0_1 t137 t138 true _ A2.out).mono ?_
    rintro e w9 ⟨rfl, hb⟩
    refine ⟨_, rfl, ?_⟩
    replace HK := Aside0.mk (KeepBut.trans zn (KeepBut.of_below hb g none) (.inl rfl))
    replace HB := Aside0.mk (below_step zbv hb)
    replace HI0 := Aside0.mk (IsS56.below zbp hb)
    try clear hb
    refine hK.out _ _ ⟨(blk_cell (Aside0.mk (And.left (show _ ∧ _ from HI0.out))).out 0).trans rfl, (blk_cell (Aside0.mk (And.left (show _ ∧ _ from HI0.out))).out 1).trans rfl, (blk_cell (Aside0.mk (And.left (show _ ∧ _ from HI0.out))).out 2).trans rfl⟩ (fun hHeld => ?_)
    clear hK K
    refine qr (some 15) ?_
    refine ql 9 (some 6) (bz 16 1023) HT_ ?_
    refine ql 10 (some 16) (bz 16 2047) HT_ ?_
    refine ql 11 (some 17) (bz 16 4095) HT_ ?_
    refine ql 12 (some 18) (bz 16 8191) HT_ ?_
    refine ql 13 (some 3) (bz 16 16383) HT_ ?_
    refine ql 14 (some 4) (bz 16 32767) HT_ ?_
    refine ql 15 (some 5) (bz 16 65535) HT_ ?_
    refine qu HT_ ?_
    obtain ⟨_, _, _, _, _, _⟩ := qk3 HI0.out.1
    try go_wp2
    go_ret
    exact ⟨zc, zbp, zbv, zn⟩
  replace c7 := Bool.eq_false_iff.mpr c7
  subst c7
  rw [if_neg (qj)] at H
  simp only [Option.some.injEq, Prod.mk.injEq] at H
  obtain ⟨rfl, rfl, rfl, rfl⟩ := H
  go_enter Try.func26, Try.ntmps26
  try go_wp2
  replace HI0 := Aside0.mk (IsS56.drew HI0.out)
  replace HK := Aside0.mk (keep_drew HK.out)
  replace HB := Aside0.mk (below_drew1 HB.out)
  refine start_ (n := 16) (S := fun w' => w'.cell? ⟨g, 0, none⟩ = some (.string s0_0) ∧ w'.cell? ⟨g, 1, none⟩ = some (.int .i64 s0_1) ∧ w'.cell? ⟨g, 2, none⟩ = some (.bool false)) (ds := []) (bz 16 0) za5 rfl rfl ⟨(blk_cell (Aside0.mk (And.left (show _ ∧ _ from HI0.out))).out 0).trans rfl, (blk_cell (Aside0.mk (And.left (show _ ∧ _ from HI0.out))).out 1).trans rfl, (blk_cell (Aside0.mk (And.left (show _ ∧ _ from HI0.out))).out 2).trans rfl⟩ (fun hHeld => ?_); refine with_tabW spec_l04Var.tab1 spec_l04Var.bits1 (fun HT_ HW_ => ?_)
  generalize w.drew = w11 at HI0 HK HB hHeld ⊢
  refine ql 0 (some 7) (bz 16 1) HT_ ?_
  refine ql 1 (some 8) (bz 16 3) HT_ ?_
  refine ql 2 (some 9) (bz 16 7) HT_ ?_
  refine ql 4 (some 11) (bz 16 23) HT_ ?_
  refine ql 5 (some 12) (bz 16 55) HT_ ?_
  refine ql 6 (some 13) (bz 16 119) HT_ ?_
  refine qt 3 (some 10) (bz 16 127) HT_ HW_ hHeld ?_
  refine qt 7 (some 14) (bz 16 255) HT_ HW_ hHeld ?_
  refine qs 8 (some 15) (bz 16 511) HT_ rfl rfl (fun K hK => ?_)
  refine goes_ Try.func57 za5 rfl #[.string s0_0, .int .i64 s0_1] zdy rfl rfl zv ?_
  with_reducible refine (spec_ReadVar.calls k s0_0 s0_1 t137 t138 false _ A2.out).mono ?_
  rintro e w12 ⟨rfl, hb⟩
  refine ⟨_, rfl, ?_⟩
  replace HK := Aside0.mk (KeepBut.trans zn (KeepBut.of_below hb g none) (.inl rfl))
  replace HB := Aside0.mk (below_step zbv hb)
  replace HI0 := Aside0.mk (IsS56.below zbp hb)
  try clear hb
  refine hK.out _ _ ⟨(blk_cell (Aside0.mk (And.left (show _ ∧ _ from HI0.out))).out 0).trans rfl, (blk_cell (Aside0.mk (And.left (show _ ∧ _ from HI0.out))).out 1).trans rfl, (blk_cell (Aside0.mk (And.left (show _ ∧ _ from HI0.out))).out 2).trans rfl⟩ (fun hHeld => ?_)
  clear hK K
  refine qr (some 15) ?_
  refine ql 9 (some 6) (bz 16 1023) HT_ ?_
  refine ql 10 (some 16) (bz 16 2047) HT_ ?_
  refine ql 11 (some 17) (bz 16 4095) HT_ ?_
  refine ql 12 (some 18) (bz 16 8191) HT_ ?_
  refine ql 13 (some 3) (bz 16 16383) HT_ ?_
  refine ql 14 (some 4) (bz 16 32767) HT_ ?_
  refine ql 15 (some 5) (bz 16 65535) HT_ ?_
  refine qu HT_ ?_
  obtain ⟨_, _, _, _, _, _⟩ := qk3 HI0.out.1
  try go_wp2
  go_ret
  exact ⟨zc, zbp, zbv, zn⟩

end Go.Proofs.Yteokilffbcbllaa.VFnBest
