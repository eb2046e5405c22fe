-- Written by a program of this repo (wip/myprint.py), over the kit's print; functions that the print does not take stand in it by hand-proved contracts.
import Derived.Test.YteokilffbcbllaaVFnBestx0
import Derived.Test.YteokilffbcbllaaVFnBestx3
namespace Go.Proofs.Yteokilffbcbllaa.VFnBest
open Go.RowKit Go.Proofs.YteokilffbcbllaaW.PrintWords Go.Proofs.YteokilffbcbllaaW.PrintLast Go.Proofs.YteokilffbcbllaaW.PrintMore
attribute [local go_sem] max2_int min2_int max_two min_two max_three min_three max_four min_four   -- for this text's walks alone
attribute [local go_sem high] str_leq str_gtr str_geq str_lss
set_option linter.unusedVariables false
set_option linter.unusedSimpArgs false

/-! ### spec_Unsealed: function 25 -/
def spec_Unsealed.f (k : Nat) (a0 : ByteArray) : Option (ByteArray × Bool) := if (wrap64 ((a0.size : Int) - 4)) < 0 then (some ((⟨#[]⟩ : ByteArray), false)) else (if (wrap64 ((a0.size : Int) - 4)) > 20000 then (some ((⟨#[]⟩ : ByteArray), false)) else (if 0 ≤ (wrap64 ((a0.size : Int) - 4)) then (if (wrap64 ((a0.size : Int) - 4)) ≤ (a0.size : Int) then ((spec_SumOf.f k (a0.extract 0 ((wrap64 ((a0.size : Int) - 4)) : Int).toNat)).bind fun t133 => ((spec_l02Four.f t133).bind fun t134 => (if (a0.extract ((wrap64 ((a0.size : Int) - 4)) : Int).toNat a0.size).toList = t134.toList then (some (a0.extract 0 ((wrap64 ((a0.size : Int) - 4)) : Int).toNat, true)) else (some ((⟨#[]⟩ : ByteArray), false))))) else (none)) else (none)))
theorem spec_Unsealed.mono : ∀ a0 k, LeO (spec_Unsealed.f k a0) (spec_Unsealed.f (k + 1) a0) := by
  intro a0 k
  unfold spec_Unsealed.f
  exact qv
def spec_Unsealed.T2 : Bool × List (List Nat × List Nat) := (true, [([], []), ([0], [0]), ([1], [1]), ([2], [2]), ([3, 2], [2, 3]), ([2, 4], [2, 4]), ([5, 2], [5]), ([6], [6]), ([6], [6]), ([7, 8, 6], [6, 7, 8]), ([6], [6]), ([6], [6]), ([10, 11, 6], [6, 10, 11]), ([12, 6, 6], [6, 12]), ([13, 13, 6], [6, 13]), ([9, 14, 6], [6, 9, 14]), ([6, 15], [6, 15])])
def spec_Unsealed.B2 : List Nat := [0, 1, 3, 7, 15, 31, 63, 127, 127, 511, 127, 127, 3199, 7295, 15487, 32767, 65535]
theorem spec_Unsealed.tab2 : rtab .any (opsOf Try.f25 2) = spec_Unsealed.T2 := by kernel_rfl
theorem spec_Unsealed.bits2 : waitsOk spec_Unsealed.T2.2 spec_Unsealed.B2 = true := by kernel_rfl
set_option maxHeartbeats 8000000 in
set_option maxRecDepth 100000 in
theorem spec_Unsealed.calls (k : Nat) (a0 : ByteArray) (r1 : ByteArray) (r2 : Bool) (w : World) (h : spec_Unsealed.f k a0 = some (r1, r2)) :
    Calls Try.prog 25 #[.string a0] w fun e w' => e = .returned (.tuple #[.string r1, .bool r2]) ∧ Below w.heap.size w w' := by
  have HB := Aside0.mk (Below.refl w.heap.size w)
  unfold spec_Unsealed.f at h
  have H := h
  clear h
  by_cases c2 : (wrap64 ((a0.size : Int) - 4)) < 0
  case pos =>
    rw [if_pos c2] at H
    have c2b0 := decide_eq_true c2
    clear c2
    simp only [Option.some.injEq, Prod.mk.injEq] at H
    obtain ⟨rfl, rfl⟩ := H
    go_enter Try.func25, Try.ntmps25
    try go_wp2
    replace HB := Aside0.mk (below_drew1 HB.out)
    refine start_ (n := 17) (S := fun w' => True) (ds := []) (bz 17 0) za5 rfl rfl trivial (fun hHeld => ?_); refine with_tabW spec_Unsealed.tab2 spec_Unsealed.bits2 (fun HT_ HW_ => ?_)
    generalize w.drew = w3 at HB hHeld ⊢
    refine ql 0 (some 8) (bz 17 1) HT_ ?_
    refine ql 1 (some 9) (bz 17 3) HT_ ?_
    refine ql 2 (some 10) (bz 17 7) HT_ ?_
    refine qo 3 (some 11) (bz 17 15) HT_ ?_
    refine qo 4 (some 12) (bz 17 31) HT_ ?_
    refine ql 5 (some 13) (bz 17 63) HT_ ?_
    refine ql 6 (some 14) (bz 17 127) HT_ ?_
    refine qo 7 (some 15) (bz 17 255) HT_ ?_
    refine qo 8 (some 16) (bz 17 511) HT_ ?_
    refine qo 9 (some 17) (bz 17 1023) HT_ ?_
    refine qo 10 (some 18) (bz 17 2047) HT_ ?_
    refine qo 11 (some 19) (bz 17 4095) HT_ ?_
    refine qo 12 (some 20) (bz 17 8191) HT_ ?_
    refine qo 13 (some 21) (bz 17 16383) HT_ ?_
    refine qo 14 (some 22) (bz 17 32767) HT_ ?_
    refine qo 15 (some 23) (bz 17 65535) HT_ ?_
    refine ql 16 (some 24) (bz 17 131071) HT_ ?_
    refine qu HT_ ?_
    try go_wp2
    go_ret2
    exact ⟨zc, za⟩
  rw [if_neg c2] at H
  have c2b0 := decide_eq_false c2
  clear c2
  by_cases c4 : (wrap64 ((a0.size : Int) - 4)) > 20000
  case pos =>
    rw [if_pos c4] at H
    have c4b0 : decide (20000 < (wrap64 ((a0.size : Int) - 4))) = true := decide_eq_true c4
    clear c4
    simp only [Option.some.injEq, Prod.mk.injEq] at H
    obtain ⟨rfl, rfl⟩ := H
    go_enter Try.func25, Try.ntmps25
    try go_wp2
    replace HB := Aside0.mk (below_drew1 HB.out)
    refine start_ (n := 17) (S := fun w' => True) (ds := []) (bz 17 0) za5 rfl rfl trivial (fun hHeld => ?_); refine with_tabW spec_Unsealed.tab2 spec_Unsealed.bits2 (fun HT_ HW_ => ?_)
    generalize w.drew = w5 at HB hHeld ⊢
    refine ql 0 (some 8) (bz 17 1) HT_ ?_
    refine ql 1 (some 9) (bz 17 3) HT_ ?_
    refine ql 2 (some 10) (bz 17 7) HT_ ?_
    refine ql 3 (some 11) (bz 17 15) HT_ ?_
    refine ql 4 (some 12) (bz 17 31) HT_ ?_
    refine ql 5 (some 13) (bz 17 63) HT_ ?_
    refine ql 6 (some 14) (bz 17 127) HT_ ?_
    refine qo 7 (some 15) (bz 17 255) HT_ ?_
    refine qo 8 (some 16) (bz 17 511) HT_ ?_
    refine qo 9 (some 17) (bz 17 1023) HT_ ?_
    refine qo 10 (some 18) (bz 17 2047) HT_ ?_
    refine qo 11 (some 19) (bz 17 4095) HT_ ?_
    refine qo 12 (some 20) (bz 17 8191) HT_ ?_
    refine qo 13 (some 21) (bz 17 16383) HT_ ?_
    refine qo 14 (some 22) (bz 17 32767) HT_ ?_
    refine qo 15 (some 23) (bz 17 65535) HT_ ?_
    refine ql 16 (some 24) (bz 17 131071) HT_ ?_
    refine qu HT_ ?_
    try go_wp2
    go_ret2
    exact ⟨zc, za⟩
  rw [if_neg c4] at H
  have c4b0 : decide (20000 < (wrap64 ((a0.size : Int) - 4))) = false := decide_eq_false c4
  clear c4
  obtain ⟨ji6, hji6⟩ : ∃ j_ : Int, (wrap64 ((a0.size : Int) - 4)) = j_ := ⟨_, rfl⟩
  replace H : (if 0 ≤ (ji6) then (if (ji6) ≤ (a0.size : Int) then ((spec_SumOf.f k (a0.extract 0 ((ji6) : Int).toNat)).bind fun t133 => ((spec_l02Four.f t133).bind fun t134 => (if (a0.extract ((ji6) : Int).toNat a0.size).toList = t134.toList then (some (a0.extract 0 ((ji6) : Int).toNat, true)) else (some ((⟨#[]⟩ : ByteArray), false))))) else (none)) else (none)) = some (r1, r2) := by first | (rw [hji6] at H; exact H) | (simp only [hji6] at H ⊢; exact H)
  (try rw [hji6] at c2b0)
  (try rw [hji6] at c4b0)
  have hji6w : (IntKind.i64.wrap ((a0.size : Int) - 4)) = ji6 := (i64_w _).trans hji6
  by_cases c7 : 0 ≤ (ji6)
  case neg => exact qn c7 H
  rw [if_pos c7] at H
  have c7b0 := eq_true c7
  have c7b1 := decide_eq_true c7
  clear c7
  by_cases c8 : (ji6) ≤ (a0.size : Int)
  case neg => exact qn c8 H
  rw [if_pos c8] at H
  have c8b0 := eq_true c8
  have c8b1 := decide_eq_true c8
  clear c8
  have c9b0 := eq_true (of_decide_eq_true zb : 0 ≤ (ji6))
  have c10b0 := eq_true (of_decide_eq_true zb : (ji6) ≤ (a0.size : Int))
  replace H := qi H
  obtain ⟨t133, A11, H⟩ := H
  replace H := qi H
  obtain ⟨t134, A12, H⟩ := H
  by_cases c13 : (a0.extract ((ji6) : Int).toNat a0.size).toList = t134.toList
  case neg =>
    rw [if_neg c13] at H
    have c13b0 : ((a0.extract ((ji6) : Int).toNat a0.size).toList == t134.toList) = false := beq_eq_false_iff_ne.mpr c13
    have c13b1 : ((a0.extract ((ji6) : Int).toNat a0.size).toList != t134.toList) = true := bne_iff_ne.mpr c13
    simp only [Option.some.injEq, Prod.mk.injEq] at H
    obtain ⟨rfl, rfl⟩ := H
    go_enter Try.func25, Try.ntmps25
    try go_wp2
    replace HB := Aside0.mk (below_drew1 HB.out)
    refine start_ (n := 17) (S := fun w' => True) (ds := []) (bz 17 0) za5 rfl rfl trivial (fun hHeld => ?_); refine with_tabW spec_Unsealed.tab2 spec_Unsealed.bits2 (fun HT_ HW_ => ?_)
    generalize w.drew = w18 at HB hHeld ⊢
    refine ql 0 (some 8) (bz 17 1) HT_ ?_
    refine ql 1 (some 9) (bz 17 3) HT_ ?_
    refine ql 2 (some 10) (bz 17 7) HT_ ?_
    refine ql 3 (some 11) (bz 17 15) HT_ ?_
    refine ql 4 (some 12) (bz 17 31) HT_ ?_
    refine ql 5 (some 13) (bz 17 63) HT_ ?_
    refine ql 6 (some 14) (bz 17 127) HT_ ?_
    refine ql 7 (some 15) (bz 17 255) HT_ ?_
    refine ql 8 (some 16) (bz 17 511) HT_ ?_
    refine ql 9 (some 17) (bz 17 1023) HT_ ?_
    refine ql 10 (some 18) (bz 17 2047) HT_ ?_
    refine ql 11 (some 19) (bz 17 4095) HT_ ?_
    refine ql 12 (some 20) (bz 17 8191) HT_ ?_
    refine qs 13 (some 21) (bz 17 16383) HT_ rfl rfl (fun K hK => ?_)
    refine goes_ Try.func56 za5 rfl #[.string (a0.extract 0 ((ji6) : Int).toNat)] zdy rfl rfl (by (try simp only [List.map_toArray, List.map_cons, List.map_nil]); first | done | (simp only [hji6]; rfl) | rfl | (simp only [List.length_drop, List.length_take]; rfl)) ?_
    with_reducible refine (spec_SumOf.calls k (a0.extract 0 ((ji6) : Int).toNat) t133 _ A11.out).mono ?_
    rintro e w' ⟨rfl, ⟨nd, rfl⟩⟩
    refine ⟨_, rfl, ?_⟩
    refine hK.out _ _ trivial (fun hHeld => ?_)
    clear hK K
    refine qr (some 21) ?_
    refine qs 14 (some 22) (bz 17 32767) HT_ rfl rfl (fun K hK => ?_)
    refine goes_ Try.func55 za5 rfl #[.int .u32 t133] zdy rfl rfl zv ?_
    with_reducible refine (spec_l02Four.calls t133 t134 _ A12.out).mono ?_
    rintro e w19 ⟨rfl, hb⟩
    refine ⟨_, rfl, ?_⟩
    replace HB := Aside0.mk (below_step za hb)
    try clear hb
    refine hK.out _ _ trivial (fun hHeld => ?_)
    clear hK K
    refine qr (some 22) ?_
    refine ql 15 (some 23) (bz 17 65535) HT_ ?_
    refine ql 16 (some 24) (bz 17 131071) HT_ ?_
    refine qu HT_ ?_
    try go_wp2
    go_ret2
    exact ⟨by first | rfl | (simp [errW_none, errW_some] <;> rfl) | (simp only [← hji6]; first | rfl | (simp [errW_none, errW_some] <;> rfl)) | (simp [*, errW_none, errW_some] <;> rfl), za⟩
  rw [if_pos c13] at H
  have c13b0 : ((a0.extract ((ji6) : Int).toNat a0.size).toList == t134.toList) = true := beq_iff_eq.mpr c13
  have c13b1 : ((a0.extract ((ji6) : Int).toNat a0.size).toList != t134.toList) = false := bne_eq_false_iff_eq.mpr c13
  clear c13
  have c14b0 := eq_true (of_decide_eq_true zb : 0 ≤ (ji6))
  have c15b0 := eq_true (of_decide_eq_true zb : (ji6) ≤ (a0.size : Int))
  simp only [Option.some.injEq, Prod.mk.injEq] at H
  obtain ⟨rfl, rfl⟩ := H
  go_enter Try.func25, Try.ntmps25
  try go_wp2
  replace HB := Aside0.mk (below_drew1 HB.out)
  refine start_ (n := 17) (S := fun w' => True) (ds := []) (bz 17 0) za5 rfl rfl trivial (fun hHeld => ?_); refine with_tabW spec_Unsealed.tab2 spec_Unsealed.bits2 (fun HT_ HW_ => ?_)
  generalize w.drew = w16 at HB hHeld ⊢
  refine ql 0 (some 8) (bz 17 1) HT_ ?_
  refine ql 1 (some 9) (bz 17 3) HT_ ?_
  refine ql 2 (some 10) (bz 17 7) HT_ ?_
  refine ql 3 (some 11) (bz 17 15) HT_ ?_
  refine ql 4 (some 12) (bz 17 31) HT_ ?_
  refine ql 5 (some 13) (bz 17 63) HT_ ?_
  refine ql 6 (some 14) (bz 17 127) HT_ ?_
  refine ql 7 (some 15) (bz 17 255) HT_ ?_
  refine ql 8 (some 16) (bz 17 511) HT_ ?_
  refine ql 9 (some 17) (bz 17 1023) HT_ ?_
  refine ql 10 (some 18) (bz 17 2047) HT_ ?_
  refine ql 11 (some 19) (bz 17 4095) HT_ ?_
  refine ql 12 (some 20) (bz 17 8191) HT_ ?_
  refine qs 13 (some 21) (bz 17 16383) HT_ rfl rfl (fun K hK => ?_)
  refine goes_ Try.func56 za5 rfl #[.string (a0.extract 0 ((ji6) : Int).toNat)] zdy rfl rfl (by (try simp only [List.map_toArray, List.map_cons, List.map_nil]); first | done | (simp only [hji6]; rfl) | rfl | (simp only [List.length_drop, List.length_take]; rfl)) ?_
  with_reducible refine (spec_SumOf.calls k (a0.extract 0 ((ji6) : Int).toNat) t133 _ A11.out).mono ?_
  rintro e w' ⟨rfl, ⟨nd, rfl⟩⟩
  refine ⟨_, rfl, ?_⟩
  refine hK.out _ _ trivial (fun hHeld => ?_)
  clear hK K
  refine qr (some 21) ?_
  refine qs 14 (some 22) (bz 17 32767) HT_ rfl rfl (fun K hK => ?_)
  refine goes_ Try.func55 za5 rfl #[.int .u32 t133] zdy rfl rfl zv ?_
  with_reducible refine (spec_l02Four.calls t133 t134 _ A12.out).mono ?_
  rintro e w17 ⟨rfl, hb⟩
  refine ⟨_, rfl, ?_⟩
  replace HB := Aside0.mk (below_step za hb)
  try clear hb
  refine hK.out _ _ trivial (fun hHeld => ?_)
  clear hK K
  refine qr (some 22) ?_
  refine ql 15 (some 23) (bz 17 65535) HT_ ?_
  refine ql 16 (some 24) (bz 17 131071) HT_ ?_
  refine qu HT_ ?_
  try go_wp2
  go_ret2
  exact ⟨by first | rfl | (simp [errW_none, errW_some] <;> rfl) | (simp only [← hji6]; first | rfl | (simp [errW_none, errW_some] <;> rfl)) | (simp [*, errW_none, errW_some] <;> rfl), za⟩
end Go.Proofs.Yteokilffbcbllaa.VFnBest
