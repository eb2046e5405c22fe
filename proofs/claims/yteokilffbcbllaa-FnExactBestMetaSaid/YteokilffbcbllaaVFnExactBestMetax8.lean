-- Written by a program of this repo (wip/myprint.py), over the kit's print; functions that the print does not take stand in it by hand-proved contracts.
import Derived.Test.YteokilffbcbllaaVFnExactBestMetax0
import Derived.Test.YteokilffbcbllaaVFnExactBestMetax7
namespace Go.Proofs.Yteokilffbcbllaa.VFnExactBestMeta
open Go.RowKit Go.Proofs.YteokilffbcbllaaW.PrintWords Go.Proofs.YteokilffbcbllaaW.PrintLast Go.Proofs.YteokilffbcbllaaW.PrintMore
attribute [local go_sem] max2_int min2_int max_two min_two max_three min_three max_four min_four   -- for this text's walks alone
attribute [local go_sem high] str_leq str_gtr str_geq str_lss
set_option linter.unusedVariables false
set_option linter.unusedSimpArgs false

/-- A state of type 56 at block g of W; what its slices lead to came in by w0. -/
def IsS56 (w0 W : World) (g : Nat) (f0 : ByteArray) (f1 : Int) (f2 : Bool) : Prop := W.heap[g]? = some (.cells #[.string f0, .int .i64 f1, .bool f2] 56 (0, 0)) ∧ w0.heap.size ≤ g
theorem IsS56.grown {w0 W : World} {g : Nat} {f0 : ByteArray} {f1 : Int} {f2 : Bool} {W1 : World} {row : Option Nat} (h : IsS56 w0 W g f0 f1 f2) (hw : W.grownBy W1 row) (hne : some g ≠ row) : IsS56 w0 W1 g f0 f1 f2 := by
 obtain ⟨hb, hg⟩ := h
 exact ⟨blk_grown hb hw hne, hg⟩
theorem IsS56.own_neN {w0 W : World} {g : Nat} {f0 : ByteArray} {f1 : Int} {f2 : Bool} {α : Type} {d : Kd α} {e : Nat} {base : Nat} {ok : Nat → Prop} {v : Value} {xs : List α} (h : IsS56 w0 W g f0 f1 f2) (ho : Kd.N d e W base ok v xs) (ht : e ≠ 56) : some g ≠ v.ownBlock := by
 obtain ⟨hb, hg⟩ := h
 exact Kd.N_ne ho hb ht
theorem IsS56.fresh {w0 W : World} {g : Nat} {f0 : ByteArray} {f1 : Int} {f2 : Bool} (h : IsS56 w0 W g f0 f1 f2) : ∀ k, W.heap.size ≤ k → k ≠ g := by
 obtain ⟨hb, hg⟩ := h
 exact Kd.freshB hb
theorem IsS56.kept {w0 W : World} {g : Nat} {f0 : ByteArray} {f1 : Int} {f2 : Bool} {W1 : World} {S : Nat → Prop} (h : IsS56 w0 W g f0 f1 f2) (hk : Kept W W1 S) (hne : ¬ S g) : IsS56 w0 W1 g f0 f1 f2 := by
 obtain ⟨hb, hg⟩ := h
 exact ⟨blk_kept hb hk hne, hg⟩
theorem IsS56.below {w0 W : World} {g : Nat} {f0 : ByteArray} {f1 : Int} {f2 : Bool} {W1 : World} (h : IsS56 w0 W g f0 f1 f2) (hw : Below W.heap.size W W1) : IsS56 w0 W1 g f0 f1 f2 := h.grown (grown_of_below hw none) zbh
theorem IsS56.alloc {w0 W : World} {g : Nat} {f0 : ByteArray} {f1 : Int} {f2 : Bool} (h : IsS56 w0 W g f0 f1 f2) (o : Obj) : IsS56 w0 (W.alloc o) g f0 f1 f2 := h.below (ql (Below.refl _ _) o)
theorem IsS56.drewN {w0 W : World} {g : Nat} {f0 : ByteArray} {f1 : Int} {f2 : Bool} (h : IsS56 w0 W g f0 f1 f2) (m : Nat) : IsS56 w0 (W.drewN m) g f0 f1 f2 := h
theorem IsS56.drew {w0 W : World} {g : Nat} {f0 : ByteArray} {f1 : Int} {f2 : Bool} (h : IsS56 w0 W g f0 f1 f2) : IsS56 w0 W.drew g f0 f1 f2 := h
theorem IsS56.at_ {w0 W : World} {g : Nat} {f0 : ByteArray} {f1 : Int} {f2 : Bool} {w' : World} {m : Nat} (hq : W.drewN m = w') (h : IsS56 w0 W g f0 f1 f2) : IsS56 w0 w' g f0 f1 f2 := by subst hq; exact IsS56.drewN h m
theorem IsS56.apart {w0 W : World} {g : Nat} {f0 : ByteArray} {f1 : Int} {f2 : Bool} {α : Type} {d : Kd α} {e : Nat} {base : Nat} {ok : Nat → Prop} {v : Value} {xs : List α} (h : IsS56 w0 W g f0 f1 f2) (ho : d.R e W base ok v xs) (ht : ∀ q, q ∈ e :: d.E → q ≠ 56) : d.R e W base (fun k => ok k ∧ k ≠ g) v xs := by
 obtain ⟨hb, hg⟩ := h
 exact Kd.R_types ho hb ht
theorem IsS56.own_ne {w0 W : World} {g : Nat} {f0 : ByteArray} {f1 : Int} {f2 : Bool} {α : Type} {d : Kd α} {e : Nat} {base : Nat} {ok : Nat → Prop} {v : Value} {xs : List α} (h : IsS56 w0 W g f0 f1 f2) (ho : d.R e W base ok v xs) (ht : e ≠ 56) : some g ≠ v.ownBlock := by
 obtain ⟨hb, hg⟩ := h
 exact Kd.R_ne ho hb ht
theorem IsS56.apartQ {w0 W : World} {g : Nat} {f0 : ByteArray} {f1 : Int} {f2 : Bool} {α : Type} {d : Kd α} {e : Nat} {base : Nat} {ok : Nat → Prop} {v : Value} {xs : List α} (h : IsS56 w0 W g f0 f1 f2) (ho : d.Q e W base ok v xs) (ht : ∀ q, q ∈ e :: d.E → q ≠ 56) : d.Q e W base (fun k => ok k ∧ k ≠ g) v xs := by
 obtain ⟨hb, hg⟩ := h
 exact Kd.Q_types ho hb ht
theorem IsS56.own_neQ {w0 W : World} {g : Nat} {f0 : ByteArray} {f1 : Int} {f2 : Bool} {α : Type} {d : Kd α} {e : Nat} {base : Nat} {ok : Nat → Prop} {v : Value} {xs : List α} (h : IsS56 w0 W g f0 f1 f2) (ho : d.Q e W base ok v xs) (ht : e ≠ 56) : some g ≠ v.ownBlock := by
 obtain ⟨hb, hg⟩ := h
 exact Kd.Q_ne ho hb ht
theorem IsS56.apartS {w0 W : World} {g : Nat} {f0 : ByteArray} {f1 : Int} {f2 : Bool} {α : Type} {d : Kd α} {e : Nat} {base : Nat} {ok : Nat → Prop} {v : Value} {xs : List α} (h : IsS56 w0 W g f0 f1 f2) (ho : d.S e W base ok v xs) (ht : ∀ q, q ∈ e :: d.E → q ≠ 56) : d.S e W base (fun k => ok k ∧ k ≠ g) v xs := by
 obtain ⟨hb, hg⟩ := h
 exact Kd.S_types ho hb ht
theorem IsS56.own_neS {w0 W : World} {g : Nat} {f0 : ByteArray} {f1 : Int} {f2 : Bool} {α : Type} {d : Kd α} {e : Nat} {base : Nat} {ok : Nat → Prop} {v : Value} {xs : List α} (h : IsS56 w0 W g f0 f1 f2) (ho : d.S e W base ok v xs) (ht : e ≠ 56) : some g ≠ v.ownBlock := by
 obtain ⟨hb, hg⟩ := h
 exact Kd.S_ne ho hb ht
theorem IsS56.lt {w0 W : World} {g : Nat} {f0 : ByteArray} {f1 : Int} {f2 : Bool} (h : IsS56 w0 W g f0 f1 f2) : g < W.heap.size := by
 obtain ⟨hb, hg⟩ := h
 exact blk_lt hb
theorem IsS56.ge {w0 W : World} {g : Nat} {f0 : ByteArray} {f1 : Int} {f2 : Bool} (h : IsS56 w0 W g f0 f1 f2) : w0.heap.size ≤ g := by
 obtain ⟨hb, hg⟩ := h
 exact hg
theorem IsS56.ne_blk {w0 W : World} {g : Nat} {f0 : ByteArray} {f1 : Int} {f2 : Bool} {a : Nat} {cs : Array Value} {t : TypeId} {fr : Nat × Nat} (h : IsS56 w0 W g f0 f1 f2) (hb2 : W.heap[a]? = some (.cells cs t fr)) (ht : t ≠ 56) : g ≠ a := by
 obtain ⟨hb, hg⟩ := h
 rintro rfl
 rw [hb] at hb2
 injection hb2 with hb2
 injection hb2 with _ ht2
 exact ht ht2.symm
theorem IsS56.far {w0 W : World} {g : Nat} {f0 : ByteArray} {f1 : Int} {f2 : Bool} {p : Addr} (h : IsS56 w0 W g f0 f1 f2) (hne : g ≠ p.block) (u : Value) : IsS56 w0 (W.setCell p u) g f0 f1 f2 := by
 obtain ⟨hb, hg⟩ := h
 exact ⟨blk_far hb hne u, hg⟩
theorem cellS56_0 {W : World} {g : Nat} {f0 : ByteArray} {f1 : Int} {f2 : Bool} (h : W.heap[g]? = some (.cells #[.string f0, .int .i64 f1, .bool f2] 56 (0, 0))) : W.cell? ⟨g, 0, none⟩ = some (.string f0) := (qs h 0).trans rfl
theorem IsS56.set_0 {w0 W : World} {g : Nat} {f0 : ByteArray} {f1 : Int} {f2 : Bool} (h : IsS56 w0 W g f0 f1 f2) (x : ByteArray) : IsS56 w0 (W.setCell ⟨g, 0, none⟩ (.string x)) g x f1 f2 := by
 obtain ⟨hb, hg⟩ := h
 exact ⟨by simpa using blk_set hb 0 (.string x), hg⟩
theorem cellS56_1 {W : World} {g : Nat} {f0 : ByteArray} {f1 : Int} {f2 : Bool} (h : W.heap[g]? = some (.cells #[.string f0, .int .i64 f1, .bool f2] 56 (0, 0))) : W.cell? ⟨g, 1, none⟩ = some (.int .i64 f1) := (qs h 1).trans rfl
theorem IsS56.set_1 {w0 W : World} {g : Nat} {f0 : ByteArray} {f1 : Int} {f2 : Bool} (h : IsS56 w0 W g f0 f1 f2) (x : Int) : IsS56 w0 (W.setCell ⟨g, 1, none⟩ (.int .i64 x)) g f0 x f2 := by
 obtain ⟨hb, hg⟩ := h
 exact ⟨by simpa using blk_set hb 1 (.int .i64 x), hg⟩
theorem cellS56_2 {W : World} {g : Nat} {f0 : ByteArray} {f1 : Int} {f2 : Bool} (h : W.heap[g]? = some (.cells #[.string f0, .int .i64 f1, .bool f2] 56 (0, 0))) : W.cell? ⟨g, 2, none⟩ = some (.bool f2) := (qs h 2).trans rfl
theorem IsS56.set_2 {w0 W : World} {g : Nat} {f0 : ByteArray} {f1 : Int} {f2 : Bool} (h : IsS56 w0 W g f0 f1 f2) (x : Bool) : IsS56 w0 (W.setCell ⟨g, 2, none⟩ (.bool x)) g f0 f1 x := by
 obtain ⟨hb, hg⟩ := h
 exact ⟨by simpa using blk_set hb 2 (.bool x), hg⟩
theorem IsS56.new (w0 W : World) (f0 : ByteArray) (f1 : Int) (f2 : Bool) (hB : Below w0.heap.size w0 W) : IsS56 w0 (W.alloc (.cells #[.string f0, .int .i64 f1, .bool f2] 56)) W.heap.size f0 f1 f2 := ⟨by simpa using heap_alloc_new W _, hB.size⟩

/-! ### spec_l04Var: function 26 -/
def spec_l04Var.f (k : Nat) (s0_0 : ByteArray) (s0_1 : Int) (s0_2 : Bool) : Option (Int × ByteArray × Int × Bool) := (spec_ReadVar.f k s0_0 s0_1).bind fun bt162 => (if s0_2 = true then (some (0, s0_0, s0_1, true)) else (if bt162.2.2 = true then (some (bt162.1, s0_0, bt162.2.1, s0_2)) else (some (0, s0_0, s0_1, true))))
theorem spec_l04Var.mono : ∀ a0 a1 a2 k, LeO (spec_l04Var.f k a0 a1 a2) (spec_l04Var.f (k + 1) a0 a1 a2) := by
 intro a0 a1 a2 k
 unfold spec_l04Var.f
 repeat' first
   | (with_reducible exact spec_ReadVar.mono _ _ _)
   | (with_reducible exact LeO.refl _)
   | (with_reducible exact LeO.none _)
   | (with_reducible refine LeO.ite ?_ ?_)
   | (with_reducible refine LeO.bind ?_ (fun _ => ?_))
   | exact spec_ReadVar.mono _ _ _
   | exact LeO.none _
   | refine LeO.ite ?_ ?_
   | refine LeO.bind ?_ (fun _ => ?_)
def spec_l04Var.T1 : Bool × List (List Nat × List Nat) := (true, [([], []), ([0], [0]), ([1], [1]), ([2], [2]), ([], []), ([4], [4]), ([5], [5]), ([6], [6]), ([3, 7], [3, 7]), ([8], [8]), ([9], [9]), ([9], [9]), ([9], [9]), ([10, 8, 0, 1, 2, 3, 4, 5, 6, 7, 8, 9, 10], [10]), ([11, 13, 0, 1, 2, 3, 4, 5, 6, 7, 8, 9, 10, 11, 13], [11]), ([12, 14, 0, 1, 2, 3, 4, 5, 6, 7, 8, 9, 10, 11, 12, 13, 14], [12])])
def spec_l04Var.B1 : List Nat := [0, 1, 3, 7, 0, 16, 48, 112, 255, 511, 1023, 1023, 1023, 2047, 12287, 32767]
theorem spec_l04Var.tab1 : rtab .any (opsOf Try.f26 1) = spec_l04Var.T1 := by kernel_rfl
theorem spec_l04Var.bits1 : waitsOk spec_l04Var.T1.2 spec_l04Var.B1 = true := by kernel_rfl
set_option maxHeartbeats 8000000 in
set_option maxRecDepth 100000 in
theorem spec_l04Var.calls (k : Nat) (g : Nat) (s0_0 : ByteArray) (s0_1 : Int) (s0_2 : Bool) (r1 : Int) (r2 : ByteArray) (r3 : Int) (r4 : Bool) (w0 w : World) (hI : IsS56 w0 w g s0_0 s0_1 s0_2) (hB : Below w0.heap.size w0 w) (h : spec_l04Var.f k s0_0 s0_1 s0_2 = some (r1, r2, r3, r4)) :
  Calls Try.prog 26 #[.pointer (some ⟨g, 0, none⟩)] w fun e w' => e = .returned (.int .i64 r1) ∧ IsS56 w0 w' g r2 r3 r4 ∧ Below w0.heap.size w0 w' ∧ KeepBut w w' g none := by
 have HI0 := qo hI
 have HK := qo (KeepBut.refl w g none)
 have HL := qo hB.size
 clear hI
 have HW0 := qo hB.size
 have HB := qo hB
 clear hB
 have H : ((spec_ReadVar.f k s0_0 s0_1).bind fun bt162 => (if s0_2 = true then (some (0, s0_0, s0_1, true)) else (if bt162.2.2 = true then (some (bt162.1, s0_0, bt162.2.1, s0_2)) else (some (0, s0_0, s0_1, true))))) = some (r1, r2, r3, r4) := h
 clear h
 replace H := Option.bind_eq_some_iff.mp H
 obtain ⟨⟨t162, t163, t164⟩, A20, H⟩ := H
 replace H : (if s0_2 = true then (some (0, s0_0, s0_1, true)) else (if t164 = true then (some (t162, s0_0, t163, s0_2)) else (some (0, s0_0, s0_1, true)))) = some (r1, r2, r3, r4) := H
 have A2 := qo A20
 clear A20
 by_cases c3 : s0_2 = true
 ·subst c3
  have H1 : (some (0, s0_0, s0_1, true)) = some (r1, r2, r3, r4) := by rw [if_pos rfl] at H; exact H
  clear H
  have H := H1
  clear H1
  simp only [Option.some.injEq, Prod.mk.injEq] at H
  obtain ⟨rfl, rfl, rfl, rfl⟩ := H
  go_enter Try.func26, Try.ntmps26
  try go_wp2
  have n0_ := qo (IsS56.drew HI0.out)
  have n1_ := qo (keep_drew HK.out)
  have n2_ := qo (qn HB.out)
  clear HI0
  clear HK
  clear HB
  have HI0 := n0_
  have HK := n1_
  have HB := n2_
  clear n0_ n1_ n2_
  refine start_ (n := 16) (S := fun w' => w'.cell? ⟨g, 0, none⟩ = some (.string s0_0) ∧ w'.cell? ⟨g, 1, none⟩ = some (.int .i64 s0_1) ∧ w'.cell? ⟨g, 2, none⟩ = some (.bool true)) (ds := []) (bz 16 0) ze rfl rfl ⟨(qs (qo (And.left (show _ ∧ _ from HI0.out))).out 0).trans rfl, (qs (qo (And.left (show _ ∧ _ from HI0.out))).out 1).trans rfl, (qs (qo (And.left (show _ ∧ _ from HI0.out))).out 2).trans rfl⟩ (fun hHeld => ?_); refine with_tabW spec_l04Var.tab1 spec_l04Var.bits1 (fun HT_ HW_ => ?_)
  generalize w.drew = w4 at HI0 HK HB hHeld ⊢
  refine pure_ (i := 0) (N := some 7) (v := ?_) (a' := ?_) (bz 16 1) rfl rfl (any_of HT_.out ze) (fun _ _ _ h => h) (Or.inl ⟨zae, ?_⟩) ?_ ?_; rotate_left; (intro w'; go_simp; with_reducible rfl); rotate_left; (simp only [Act.put, qa, qb, qc, i64_w, i32_w]; rfl)
  refine pure_ (i := 1) (N := some 8) (v := ?_) (a' := ?_) (bz 16 3) rfl rfl (any_of HT_.out ze) (fun _ _ _ h => h) (Or.inl ⟨zae, ?_⟩) ?_ ?_; rotate_left; (intro w'; go_simp; with_reducible rfl); rotate_left; (simp only [Act.put, qa, qb, qc, i64_w, i32_w]; rfl)
  refine pure_ (i := 2) (N := some 9) (v := ?_) (a' := ?_) (bz 16 7) rfl rfl (any_of HT_.out ze) (fun _ _ _ h => h) (Or.inl ⟨zae, ?_⟩) ?_ ?_; rotate_left; (intro w'; go_simp; with_reducible rfl); rotate_left; (simp only [Act.put, qa, qb, qc, i64_w, i32_w]; rfl)
  refine pure_ (i := 4) (N := some 11) (v := ?_) (a' := ?_) (bz 16 23) rfl rfl (any_of HT_.out ze) (fun _ _ _ h => h) (Or.inl ⟨zae, ?_⟩) ?_ ?_; rotate_left; (intro w'; go_simp; with_reducible rfl); rotate_left; (simp only [Act.put, qa, qb, qc, i64_w, i32_w]; rfl)
  refine pure_ (i := 5) (N := some 12) (v := ?_) (a' := ?_) (bz 16 55) rfl rfl (any_of HT_.out ze) (fun _ _ _ h => h) (Or.inl ⟨zae, ?_⟩) ?_ ?_; rotate_left; (intro w'; go_simp; with_reducible rfl); rotate_left; (simp only [Act.put, qa, qb, qc, i64_w, i32_w]; rfl)
  refine pure_ (i := 6) (N := some 13) (v := ?_) (a' := ?_) (bz 16 119) rfl rfl (any_of HT_.out ze) (fun _ _ _ h => h) (Or.inl ⟨zae, ?_⟩) ?_ ?_; rotate_left; (intro w'; go_simp; with_reducible rfl); rotate_left; (simp only [Act.put, qa, qb, qc, i64_w, i32_w]; rfl)
  refine take_ (i := 3) (N := some 10) (v := ?_) (a' := ?_) (bz 16 127) rfl rfl (take_ofW HT_.out HW_.out ze) (fun _ _ _ h => h) (Or.inl ⟨zae, ?_⟩) hHeld ?_ ?_; rotate_left; (rintro w' ⟨s0, s1, s2⟩; go_simp; with_reducible rfl); rotate_left; (simp only [Act.put, qa, qb, qc, i64_w, i32_w]; rfl)
  refine take_ (i := 7) (N := some 14) (v := ?_) (a' := ?_) (bz 16 255) rfl rfl (take_ofW HT_.out HW_.out ze) (fun _ _ _ h => h) (Or.inl ⟨zae, ?_⟩) hHeld ?_ ?_; rotate_left; (rintro w' ⟨s0, s1, s2⟩; go_simp; with_reducible rfl); rotate_left; (simp only [Act.put, qa, qb, qc, i64_w, i32_w]; rfl)
  refine one_ (i := 8) (N := some 15) (bz 16 511) rfl rfl (one_of HT_.out ze) za7 (fun K hK => ?_)
  refine goes_ Try.func57 ze rfl #[.string s0_0, .int .i64 s0_1] zae rfl rfl zcm ?_
  with_reducible refine (spec_ReadVar.calls k s0_0 s0_1 t162 t163 t164 _ A2.out).mono ?_
  rintro e w5 ⟨rfl, hb⟩
  refine ⟨_, rfl, ?_⟩
  have n0_ := qo (IsS56.below zar hb)
  have n1_ := qo (KeepBut.trans zaf (KeepBut.of_below hb g none) (.inl rfl))
  have n2_ := qo (qq zax hb)
  clear HI0
  clear HK
  clear HB
  have HI0 := n0_
  have HK := n1_
  have HB := n2_
  clear n0_ n1_ n2_
  (try clear hb)
  (try clear hb2)
  (try clear hk)
  (try clear hi)
  refine hK.out _ _ ⟨(qs (qo (And.left (show _ ∧ _ from HI0.out))).out 0).trans rfl, (qs (qo (And.left (show _ ∧ _ from HI0.out))).out 1).trans rfl, (qs (qo (And.left (show _ ∧ _ from HI0.out))).out 2).trans rfl⟩ (fun hHeld => ?_)
  clear hK K
  refine norm_ (a' := ?_) ?_ ?_; rotate_left; (show Act.put _ (some 15) _ = _; simp only [Act.put, qa, qb, qc, i64_w, i32_w]; rfl)
  refine pure_ (i := 9) (N := some 6) (v := ?_) (a' := ?_) (bz 16 1023) rfl rfl (any_of HT_.out ze) (fun _ _ _ h => h) (Or.inl ⟨zae, ?_⟩) ?_ ?_; rotate_left; (intro w'; go_simp; with_reducible rfl); rotate_left; (simp only [Act.put, qa, qb, qc, i64_w, i32_w]; rfl)
  refine pure_ (i := 10) (N := some 16) (v := ?_) (a' := ?_) (bz 16 2047) rfl rfl (any_of HT_.out ze) (fun _ _ _ h => h) (Or.inl ⟨zae, ?_⟩) ?_ ?_; rotate_left; (intro w'; go_simp; with_reducible rfl); rotate_left; (simp only [Act.put, qa, qb, qc, i64_w, i32_w]; rfl)
  refine pure_ (i := 11) (N := some 17) (v := ?_) (a' := ?_) (bz 16 4095) rfl rfl (any_of HT_.out ze) (fun _ _ _ h => h) (Or.inl ⟨zae, ?_⟩) ?_ ?_; rotate_left; (intro w'; go_simp; with_reducible rfl); rotate_left; (simp only [Act.put, qa, qb, qc, i64_w, i32_w]; rfl)
  refine pure_ (i := 12) (N := some 18) (v := ?_) (a' := ?_) (bz 16 8191) rfl rfl (any_of HT_.out ze) (fun _ _ _ h => h) (Or.inl ⟨zae, ?_⟩) ?_ ?_; rotate_left; (intro w'; go_simp; with_reducible rfl); rotate_left; (simp only [Act.put, qa, qb, qc, i64_w, i32_w]; rfl)
  refine pure_ (i := 13) (N := some 3) (v := ?_) (a' := ?_) (bz 16 16383) rfl rfl (any_of HT_.out ze) (fun _ _ _ h => h) (Or.inl ⟨zae, ?_⟩) ?_ ?_; rotate_left; (intro w'; go_simp; with_reducible rfl); rotate_left; (simp only [Act.put, qa, qb, qc, i64_w, i32_w]; rfl)
  refine pure_ (i := 14) (N := some 4) (v := ?_) (a' := ?_) (bz 16 32767) rfl rfl (any_of HT_.out ze) (fun _ _ _ h => h) (Or.inl ⟨zae, ?_⟩) ?_ ?_; rotate_left; (intro w'; go_simp; with_reducible rfl); rotate_left; (simp only [Act.put, qa, qb, qc, i64_w, i32_w]; rfl)
  refine pure_ (i := 15) (N := some 5) (v := ?_) (a' := ?_) (bz 16 65535) rfl rfl (any_of HT_.out ze) (fun _ _ _ h => h) (Or.inl ⟨zae, ?_⟩) ?_ ?_; rotate_left; (intro w'; go_simp; with_reducible rfl); rotate_left; (simp only [Act.put, qa, qb, qc, i64_w, i32_w]; rfl)
  refine done_ (done_of HT_.out ze) ?_
  obtain ⟨HGz6, hgz6⟩ := HI0.out
  have hcz6_0 := cellS56_0 HGz6
  have hcz6_1 := cellS56_1 HGz6
  have hcz6_2 := cellS56_2 HGz6
  have hfz6_0 := qu HGz6 0
  have hfz6_1 := qu HGz6 1
  have hfz6_2 := qu HGz6 2
  clear HGz6 hgz6
  try go_wp2
  go_ret
  exact ⟨zd, zar, zax, zaf⟩
 ·replace c3 := Bool.eq_false_iff.mpr c3
  subst c3
  have H1 : (if t164 = true then (some (t162, s0_0, t163, false)) else (some (0, s0_0, s0_1, true))) = some (r1, r2, r3, r4) := by rw [if_neg (show ¬ (false = true) by decide)] at H; exact H
  clear H
  have H := H1
  clear H1
  by_cases c7 : t164 = true
  ·subst c7
   have H1 : (some (t162, s0_0, t163, false)) = some (r1, r2, r3, r4) := by rw [if_pos rfl] at H; exact H
   clear H
   have H := H1
   clear H1
   simp only [Option.some.injEq, Prod.mk.injEq] at H
   obtain ⟨rfl, rfl, rfl, rfl⟩ := H
   go_enter Try.func26, Try.ntmps26
   try go_wp2
   have n0_ := qo (IsS56.drew HI0.out)
   have n1_ := qo (keep_drew HK.out)
   have n2_ := qo (qn HB.out)
   clear HI0
   clear HK
   clear HB
   have HI0 := n0_
   have HK := n1_
   have HB := n2_
   clear n0_ n1_ n2_
   refine start_ (n := 16) (S := fun w' => w'.cell? ⟨g, 0, none⟩ = some (.string s0_0) ∧ w'.cell? ⟨g, 1, none⟩ = some (.int .i64 s0_1) ∧ w'.cell? ⟨g, 2, none⟩ = some (.bool false)) (ds := []) (bz 16 0) ze rfl rfl ⟨(qs (qo (And.left (show _ ∧ _ from HI0.out))).out 0).trans rfl, (qs (qo (And.left (show _ ∧ _ from HI0.out))).out 1).trans rfl, (qs (qo (And.left (show _ ∧ _ from HI0.out))).out 2).trans rfl⟩ (fun hHeld => ?_); refine with_tabW spec_l04Var.tab1 spec_l04Var.bits1 (fun HT_ HW_ => ?_)
   generalize w.drew = w8 at HI0 HK HB hHeld ⊢
   refine pure_ (i := 0) (N := some 7) (v := ?_) (a' := ?_) (bz 16 1) rfl rfl (any_of HT_.out ze) (fun _ _ _ h => h) (Or.inl ⟨zae, ?_⟩) ?_ ?_; rotate_left; (intro w'; go_simp; with_reducible rfl); rotate_left; (simp only [Act.put, qa, qb, qc, i64_w, i32_w]; rfl)
   refine pure_ (i := 1) (N := some 8) (v := ?_) (a' := ?_) (bz 16 3) rfl rfl (any_of HT_.out ze) (fun _ _ _ h => h) (Or.inl ⟨zae, ?_⟩) ?_ ?_; rotate_left; (intro w'; go_simp; with_reducible rfl); rotate_left; (simp only [Act.put, qa, qb, qc, i64_w, i32_w]; rfl)
   refine pure_ (i := 2) (N := some 9) (v := ?_) (a' := ?_) (bz 16 7) rfl rfl (any_of HT_.out ze) (fun _ _ _ h => h) (Or.inl ⟨zae, ?_⟩) ?_ ?_; rotate_left; (intro w'; go_simp; with_reducible rfl); rotate_left; (simp only [Act.put, qa, qb, qc, i64_w, i32_w]; rfl)
   refine pure_ (i := 4) (N := some 11) (v := ?_) (a' := ?_) (bz 16 23) rfl rfl (any_of HT_.out ze) (fun _ _ _ h => h) (Or.inl ⟨zae, ?_⟩) ?_ ?_; rotate_left; (intro w'; go_simp; with_reducible rfl); rotate_left; (simp only [Act.put, qa, qb, qc, i64_w, i32_w]; rfl)
   refine pure_ (i := 5) (N := some 12) (v := ?_) (a' := ?_) (bz 16 55) rfl rfl (any_of HT_.out ze) (fun _ _ _ h => h) (Or.inl ⟨zae, ?_⟩) ?_ ?_; rotate_left; (intro w'; go_simp; with_reducible rfl); rotate_left; (simp only [Act.put, qa, qb, qc, i64_w, i32_w]; rfl)
   refine pure_ (i := 6) (N := some 13) (v := ?_) (a' := ?_) (bz 16 119) rfl rfl (any_of HT_.out ze) (fun _ _ _ h => h) (Or.inl ⟨zae, ?_⟩) ?_ ?_; rotate_left; (intro w'; go_simp; with_reducible rfl); rotate_left; (simp only [Act.put, qa, qb, qc, i64_w, i32_w]; rfl)
   refine take_ (i := 3) (N := some 10) (v := ?_) (a' := ?_) (bz 16 127) rfl rfl (take_ofW HT_.out HW_.out ze) (fun _ _ _ h => h) (Or.inl ⟨zae, ?_⟩) hHeld ?_ ?_; rotate_left; (rintro w' ⟨s0, s1, s2⟩; go_simp; with_reducible rfl); rotate_left; (simp only [Act.put, qa, qb, qc, i64_w, i32_w]; rfl)
   refine take_ (i := 7) (N := some 14) (v := ?_) (a' := ?_) (bz 16 255) rfl rfl (take_ofW HT_.out HW_.out ze) (fun _ _ _ h => h) (Or.inl ⟨zae, ?_⟩) hHeld ?_ ?_; rotate_left; (rintro w' ⟨s0, s1, s2⟩; go_simp; with_reducible rfl); rotate_left; (simp only [Act.put, qa, qb, qc, i64_w, i32_w]; rfl)
   refine one_ (i := 8) (N := some 15) (bz 16 511) rfl rfl (one_of HT_.out ze) za7 (fun K hK => ?_)
   refine goes_ Try.func57 ze rfl #[.string s0_0, .int .i64 s0_1] zae rfl rfl zcm ?_
   with_reducible refine (spec_ReadVar.calls k s0_0 s0_1 t162 t163 true _ A2.out).mono ?_
   rintro e w9 ⟨rfl, hb⟩
   refine ⟨_, rfl, ?_⟩
   have n0_ := qo (IsS56.below zar hb)
   have n1_ := qo (KeepBut.trans zaf (KeepBut.of_below hb g none) (.inl rfl))
   have n2_ := qo (qq zax hb)
   clear HI0
   clear HK
   clear HB
   have HI0 := n0_
   have HK := n1_
   have HB := n2_
   clear n0_ n1_ n2_
   (try clear hb)
   (try clear hb2)
   (try clear hk)
   (try clear hi)
   refine hK.out _ _ ⟨(qs (qo (And.left (show _ ∧ _ from HI0.out))).out 0).trans rfl, (qs (qo (And.left (show _ ∧ _ from HI0.out))).out 1).trans rfl, (qs (qo (And.left (show _ ∧ _ from HI0.out))).out 2).trans rfl⟩ (fun hHeld => ?_)
   clear hK K
   refine norm_ (a' := ?_) ?_ ?_; rotate_left; (show Act.put _ (some 15) _ = _; simp only [Act.put, qa, qb, qc, i64_w, i32_w]; rfl)
   refine pure_ (i := 9) (N := some 6) (v := ?_) (a' := ?_) (bz 16 1023) rfl rfl (any_of HT_.out ze) (fun _ _ _ h => h) (Or.inl ⟨zae, ?_⟩) ?_ ?_; rotate_left; (intro w'; go_simp; with_reducible rfl); rotate_left; (simp only [Act.put, qa, qb, qc, i64_w, i32_w]; rfl)
   refine pure_ (i := 10) (N := some 16) (v := ?_) (a' := ?_) (bz 16 2047) rfl rfl (any_of HT_.out ze) (fun _ _ _ h => h) (Or.inl ⟨zae, ?_⟩) ?_ ?_; rotate_left; (intro w'; go_simp; with_reducible rfl); rotate_left; (simp only [Act.put, qa, qb, qc, i64_w, i32_w]; rfl)
   refine pure_ (i := 11) (N := some 17) (v := ?_) (a' := ?_) (bz 16 4095) rfl rfl (any_of HT_.out ze) (fun _ _ _ h => h) (Or.inl ⟨zae, ?_⟩) ?_ ?_; rotate_left; (intro w'; go_simp; with_reducible rfl); rotate_left; (simp only [Act.put, qa, qb, qc, i64_w, i32_w]; rfl)
   refine pure_ (i := 12) (N := some 18) (v := ?_) (a' := ?_) (bz 16 8191) rfl rfl (any_of HT_.out ze) (fun _ _ _ h => h) (Or.inl ⟨zae, ?_⟩) ?_ ?_; rotate_left; (intro w'; go_simp; with_reducible rfl); rotate_left; (simp only [Act.put, qa, qb, qc, i64_w, i32_w]; rfl)
   refine pure_ (i := 13) (N := some 3) (v := ?_) (a' := ?_) (bz 16 16383) rfl rfl (any_of HT_.out ze) (fun _ _ _ h => h) (Or.inl ⟨zae, ?_⟩) ?_ ?_; rotate_left; (intro w'; go_simp; with_reducible rfl); rotate_left; (simp only [Act.put, qa, qb, qc, i64_w, i32_w]; rfl)
   refine pure_ (i := 14) (N := some 4) (v := ?_) (a' := ?_) (bz 16 32767) rfl rfl (any_of HT_.out ze) (fun _ _ _ h => h) (Or.inl ⟨zae, ?_⟩) ?_ ?_; rotate_left; (intro w'; go_simp; with_reducible rfl); rotate_left; (simp only [Act.put, qa, qb, qc, i64_w, i32_w]; rfl)
   refine pure_ (i := 15) (N := some 5) (v := ?_) (a' := ?_) (bz 16 65535) rfl rfl (any_of HT_.out ze) (fun _ _ _ h => h) (Or.inl ⟨zae, ?_⟩) ?_ ?_; rotate_left; (intro w'; go_simp; with_reducible rfl); rotate_left; (simp only [Act.put, qa, qb, qc, i64_w, i32_w]; rfl)
   refine done_ (done_of HT_.out ze) ?_
   obtain ⟨HGz10, hgz10⟩ := HI0.out
   have hcz10_0 := cellS56_0 HGz10
   have hcz10_1 := cellS56_1 HGz10
   have hcz10_2 := cellS56_2 HGz10
   have hfz10_0 := qu HGz10 0
   have hfz10_1 := qu HGz10 1
   have hfz10_2 := qu HGz10 2
   clear HGz10 hgz10
   try go_wp2
   go_ret
   exact ⟨zd, zar, zax, zaf⟩
  ·replace c7 := Bool.eq_false_iff.mpr c7
   subst c7
   have H1 : (some (0, s0_0, s0_1, true)) = some (r1, r2, r3, r4) := by rw [if_neg (show ¬ (false = true) by decide)] at H; exact H
   clear H
   have H := H1
   clear H1
   simp only [Option.some.injEq, Prod.mk.injEq] at H
   obtain ⟨rfl, rfl, rfl, rfl⟩ := H
   go_enter Try.func26, Try.ntmps26
   try go_wp2
   have n0_ := qo (IsS56.drew HI0.out)
   have n1_ := qo (keep_drew HK.out)
   have n2_ := qo (qn HB.out)
   clear HI0
   clear HK
   clear HB
   have HI0 := n0_
   have HK := n1_
   have HB := n2_
   clear n0_ n1_ n2_
   refine start_ (n := 16) (S := fun w' => w'.cell? ⟨g, 0, none⟩ = some (.string s0_0) ∧ w'.cell? ⟨g, 1, none⟩ = some (.int .i64 s0_1) ∧ w'.cell? ⟨g, 2, none⟩ = some (.bool false)) (ds := []) (bz 16 0) ze rfl rfl ⟨(qs (qo (And.left (show _ ∧ _ from HI0.out))).out 0).trans rfl, (qs (qo (And.left (show _ ∧ _ from HI0.out))).out 1).trans rfl, (qs (qo (And.left (show _ ∧ _ from HI0.out))).out 2).trans rfl⟩ (fun hHeld => ?_); refine with_tabW spec_l04Var.tab1 spec_l04Var.bits1 (fun HT_ HW_ => ?_)
   generalize w.drew = w11 at HI0 HK HB hHeld ⊢
   refine pure_ (i := 0) (N := some 7) (v := ?_) (a' := ?_) (bz 16 1) rfl rfl (any_of HT_.out ze) (fun _ _ _ h => h) (Or.inl ⟨zae, ?_⟩) ?_ ?_; rotate_left; (intro w'; go_simp; with_reducible rfl); rotate_left; (simp only [Act.put, qa, qb, qc, i64_w, i32_w]; rfl)
   refine pure_ (i := 1) (N := some 8) (v := ?_) (a' := ?_) (bz 16 3) rfl rfl (any_of HT_.out ze) (fun _ _ _ h => h) (Or.inl ⟨zae, ?_⟩) ?_ ?_; rotate_left; (intro w'; go_simp; with_reducible rfl); rotate_left; (simp only [Act.put, qa, qb, qc, i64_w, i32_w]; rfl)
   refine pure_ (i := 2) (N := some 9) (v := ?_) (a' := ?_) (bz 16 7) rfl rfl (any_of HT_.out ze) (fun _ _ _ h => h) (Or.inl ⟨zae, ?_⟩) ?_ ?_; rotate_left; (intro w'; go_simp; with_reducible rfl); rotate_left; (simp only [Act.put, qa, qb, qc, i64_w, i32_w]; rfl)
   refine pure_ (i := 4) (N := some 11) (v := ?_) (a' := ?_) (bz 16 23) rfl rfl (any_of HT_.out ze) (fun _ _ _ h => h) (Or.inl ⟨zae, ?_⟩) ?_ ?_; rotate_left; (intro w'; go_simp; with_reducible rfl); rotate_left; (simp only [Act.put, qa, qb, qc, i64_w, i32_w]; rfl)
   refine pure_ (i := 5) (N := some 12) (v := ?_) (a' := ?_) (bz 16 55) rfl rfl (any_of HT_.out ze) (fun _ _ _ h => h) (Or.inl ⟨zae, ?_⟩) ?_ ?_; rotate_left; (intro w'; go_simp; with_reducible rfl); rotate_left; (simp only [Act.put, qa, qb, qc, i64_w, i32_w]; rfl)
   refine pure_ (i := 6) (N := some 13) (v := ?_) (a' := ?_) (bz 16 119) rfl rfl (any_of HT_.out ze) (fun _ _ _ h => h) (Or.inl ⟨zae, ?_⟩) ?_ ?_; rotate_left; (intro w'; go_simp; with_reducible rfl); rotate_left; (simp only [Act.put, qa, qb, qc, i64_w, i32_w]; rfl)
   refine take_ (i := 3) (N := some 10) (v := ?_) (a' := ?_) (bz 16 127) rfl rfl (take_ofW HT_.out HW_.out ze) (fun _ _ _ h => h) (Or.inl ⟨zae, ?_⟩) hHeld ?_ ?_; rotate_left; (rintro w' ⟨s0, s1, s2⟩; go_simp; with_reducible rfl); rotate_left; (simp only [Act.put, qa, qb, qc, i64_w, i32_w]; rfl)
   refine take_ (i := 7) (N := some 14) (v := ?_) (a' := ?_) (bz 16 255) rfl rfl (take_ofW HT_.out HW_.out ze) (fun _ _ _ h => h) (Or.inl ⟨zae, ?_⟩) hHeld ?_ ?_; rotate_left; (rintro w' ⟨s0, s1, s2⟩; go_simp; with_reducible rfl); rotate_left; (simp only [Act.put, qa, qb, qc, i64_w, i32_w]; rfl)
   refine one_ (i := 8) (N := some 15) (bz 16 511) rfl rfl (one_of HT_.out ze) za7 (fun K hK => ?_)
   refine goes_ Try.func57 ze rfl #[.string s0_0, .int .i64 s0_1] zae rfl rfl zcm ?_
   with_reducible refine (spec_ReadVar.calls k s0_0 s0_1 t162 t163 false _ A2.out).mono ?_
   rintro e w12 ⟨rfl, hb⟩
   refine ⟨_, rfl, ?_⟩
   have n0_ := qo (IsS56.below zar hb)
   have n1_ := qo (KeepBut.trans zaf (KeepBut.of_below hb g none) (.inl rfl))
   have n2_ := qo (qq zax hb)
   clear HI0
   clear HK
   clear HB
   have HI0 := n0_
   have HK := n1_
   have HB := n2_
   clear n0_ n1_ n2_
   (try clear hb)
   (try clear hb2)
   (try clear hk)
   (try clear hi)
   refine hK.out _ _ ⟨(qs (qo (And.left (show _ ∧ _ from HI0.out))).out 0).trans rfl, (qs (qo (And.left (show _ ∧ _ from HI0.out))).out 1).trans rfl, (qs (qo (And.left (show _ ∧ _ from HI0.out))).out 2).trans rfl⟩ (fun hHeld => ?_)
   clear hK K
   refine norm_ (a' := ?_) ?_ ?_; rotate_left; (show Act.put _ (some 15) _ = _; simp only [Act.put, qa, qb, qc, i64_w, i32_w]; rfl)
   refine pure_ (i := 9) (N := some 6) (v := ?_) (a' := ?_) (bz 16 1023) rfl rfl (any_of HT_.out ze) (fun _ _ _ h => h) (Or.inl ⟨zae, ?_⟩) ?_ ?_; rotate_left; (intro w'; go_simp; with_reducible rfl); rotate_left; (simp only [Act.put, qa, qb, qc, i64_w, i32_w]; rfl)
   refine pure_ (i := 10) (N := some 16) (v := ?_) (a' := ?_) (bz 16 2047) rfl rfl (any_of HT_.out ze) (fun _ _ _ h => h) (Or.inl ⟨zae, ?_⟩) ?_ ?_; rotate_left; (intro w'; go_simp; with_reducible rfl); rotate_left; (simp only [Act.put, qa, qb, qc, i64_w, i32_w]; rfl)
   refine pure_ (i := 11) (N := some 17) (v := ?_) (a' := ?_) (bz 16 4095) rfl rfl (any_of HT_.out ze) (fun _ _ _ h => h) (Or.inl ⟨zae, ?_⟩) ?_ ?_; rotate_left; (intro w'; go_simp; with_reducible rfl); rotate_left; (simp only [Act.put, qa, qb, qc, i64_w, i32_w]; rfl)
   refine pure_ (i := 12) (N := some 18) (v := ?_) (a' := ?_) (bz 16 8191) rfl rfl (any_of HT_.out ze) (fun _ _ _ h => h) (Or.inl ⟨zae, ?_⟩) ?_ ?_; rotate_left; (intro w'; go_simp; with_reducible rfl); rotate_left; (simp only [Act.put, qa, qb, qc, i64_w, i32_w]; rfl)
   refine pure_ (i := 13) (N := some 3) (v := ?_) (a' := ?_) (bz 16 16383) rfl rfl (any_of HT_.out ze) (fun _ _ _ h => h) (Or.inl ⟨zae, ?_⟩) ?_ ?_; rotate_left; (intro w'; go_simp; with_reducible rfl); rotate_left; (simp only [Act.put, qa, qb, qc, i64_w, i32_w]; rfl)
   refine pure_ (i := 14) (N := some 4) (v := ?_) (a' := ?_) (bz 16 32767) rfl rfl (any_of HT_.out ze) (fun _ _ _ h => h) (Or.inl ⟨zae, ?_⟩) ?_ ?_; rotate_left; (intro w'; go_simp; with_reducible rfl); rotate_left; (simp only [Act.put, qa, qb, qc, i64_w, i32_w]; rfl)
   refine pure_ (i := 15) (N := some 5) (v := ?_) (a' := ?_) (bz 16 65535) rfl rfl (any_of HT_.out ze) (fun _ _ _ h => h) (Or.inl ⟨zae, ?_⟩) ?_ ?_; rotate_left; (intro w'; go_simp; with_reducible rfl); rotate_left; (simp only [Act.put, qa, qb, qc, i64_w, i32_w]; rfl)
   refine done_ (done_of HT_.out ze) ?_
   obtain ⟨HGz13, hgz13⟩ := HI0.out
   have hcz13_0 := cellS56_0 HGz13
   have hcz13_1 := cellS56_1 HGz13
   have hcz13_2 := cellS56_2 HGz13
   have hfz13_0 := qu HGz13 0
   have hfz13_1 := qu HGz13 1
   have hfz13_2 := qu HGz13 2
   clear HGz13 hgz13
   try go_wp2
   go_ret
   exact ⟨zd, zar, zax, zaf⟩

end Go.Proofs.Yteokilffbcbllaa.VFnExactBestMeta
