/- The printed form of FnExactKeyText answers true at every input that its bounds let in; no other conditions. -/
import Derived.Test.YtdgefpifohfcgaaVFnExactKeyTextx1
import Derived.Test.YtdgefpifohfcgaaM
namespace Go.Proofs.Ytdgefpifohfcgaa.VFnExactKeyText
set_option linter.unusedVariables false
set_option linter.unusedSimpArgs false
open Go Go.RowKit Go.Proofs.YtdgefpifohfcgaaW.PrintWords Go.Proofs.YtdgefpifohfcgaaW.PrintLast Go.Proofs.YtdgefpifohfcgaaW.PrintMore
theorem laws_szValue_eq (a : Int) (b : ByteArray) (left : Int) (h0 : 0 ≤ left) (h1 : left ≤ 9223372036854775807) (hs : (b.size : Int) ≤ 9223372036854775807) : laws_szValue.f a b left = some (if left - (b.size : Int) < 0 then -1 else left - (b.size : Int)) := by
  unfold laws_szValue.f
  rw [w64 (by omega) (by omega)]
  split <;> rfl
theorem spec_l01In_eq (x a b : Int) : spec_l01In.f x a b = some (decide (a ≤ x ∧ x ≤ b)) := in_dec x a b
theorem spec_l04Value_loop (kind num : Int) (s : ByteArray) (hs : s.size ≤ 9223372036854775807) : ∀ (d i : Nat), i + d = s.size → Ev (fun k => spec_l04Value.l0 k kind (i : Int) num s) (((bytesOf s).drop i).all (fun b => decide (b ≠ 0)) && (decide (kind = 2) && decide (num = 0) && decide ((s.size : Int) ≤ 6))) := by
  intro d
  induction d with
  | zero =>
    intro i hi
    refine ev_end fun k => ?_
    rw [spec_l04Value.l0, if_neg (by omega), List.drop_eq_nil_of_le (by rw [bytesOf_length]; omega)]
    by_cases c1 : kind = 2
    · rw [if_pos c1, decide_eq_true c1]
      by_cases c2 : num = 0
      · rw [if_pos c2, decide_eq_true c2]; rfl
      · rw [if_neg c2, decide_eq_false c2]; rfl
    · rw [if_neg c1, decide_eq_false c1]; rfl
  | succ d ih =>
    intro i hi
    rw [bytesOf_drop s i (by omega), List.all_cons]
    by_cases c : bt s (i : Int) = 0
    · rw [decide_eq_false (fun h => h c)]
      refine ev_end fun k => ?_
      rw [spec_l04Value.l0, if_pos (by omega), if_pos (by omega), if_pos c]
      rfl
    · rw [decide_eq_true c, Bool.true_and]
      refine ev_go (ih (i + 1) (by omega)) fun k => ?_
      rw [spec_l04Value.l0, if_pos (by omega), if_pos (by omega), if_neg c, w64 (by omega) (by omega)]
      rfl
theorem spec_l04Value_fev (kind num : Int) (s : ByteArray) (hs : s.size ≤ 9223372036854775807) : Ev (fun k => spec_l04Value.f k kind num s) (valueOkR kind num s) := by
  unfold valueOkR
  by_cases c : kind = 1
  · rw [if_pos c]
    refine ev_some fun k => ?_
    unfold spec_l04Value.f
    rw [if_pos c, spec_l01In_eq, Option.bind_some]
    cases decide (0 ≤ num ∧ num ≤ 999999) with
    | false => rfl
    | true => rw [if_pos rfl, toList_empty_iff]; rfl
  · rw [if_neg c]
    have h := spec_l04Value_loop kind num s hs s.size 0 (by omega)
    rw [List.drop_zero, Bool.and_comm] at h
    refine Ev.congr (fun k => ?_) h
    unfold spec_l04Value.f
    rw [if_neg c]
    rfl
theorem spec_KeyText_fev (kind num : Int) (s : ByteArray) (hs : s.size ≤ 1048576) : Ev (fun k => spec_KeyText.f k kind num s) (keyR kind num s) := by
  unfold keyR
  refine ev_call (spec_l04Value_fev kind num s (by omega)) (ev_some fun k => ?_) (fun k => rfl)
  cases h : valueOkR kind num s with
  | false => rfl
  | true =>
    rw [if_pos rfl, if_pos rfl]
    by_cases c : kind = 1
    · rw [if_pos c, if_pos c]
      unfold valueOkR at h
      rw [if_pos c, Bool.and_eq_true, decide_eq_true_eq] at h
      obtain ⟨⟨h1, h2⟩, _⟩ := h
      rw [Int.tdiv_eq_ediv_of_nonneg h1, Int.tdiv_eq_ediv_of_nonneg h1, Int.tmod_eq_emod_of_nonneg h1, w64 (n := num / 65536) (by omega) (by omega), w64 (n := num / 256) (by omega) (by omega), Int.tmod_eq_emod_of_nonneg (by omega), Int.emod_emod, Int.emod_emod]
    · rw [if_neg c, if_neg c, if_pos (by omega)]
theorem laws_toValue_eq (a : Int) (b : ByteArray) : laws_toValue.f a b = some (a, b) := rfl
theorem impl_oneByte_eq (n : Int) : impl_oneByte.f n = some (strOfNums [n % 256]) := rfl
theorem one_size (n : Int) : (strOfNums [n]).size = 1 := by rw [strOfNums_size]; rfl
theorem impl_in_eq (x a b : Int) : impl_in.f x a b = some (decide (a ≤ x ∧ x ≤ b)) := in_dec x a b
theorem impl_valueOk_eq (kind num : Int) (s : ByteArray) : impl_valueOk.f kind num s = some (valueOkR kind num s) := by
  unfold impl_valueOk.f valueOkR
  by_cases c : kind = 1
  · rw [if_pos c, if_pos c, impl_in_eq, Option.bind_some]
    cases decide (0 ≤ num ∧ num ≤ 999999) with
    | false => rfl
    | true => rw [if_pos rfl, toList_empty_iff]; rfl
  · rw [if_neg c, if_neg c]
    by_cases c1 : kind = 2
    · rw [if_pos c1, decide_eq_true c1]
      by_cases c2 : num = 0
      · rw [if_pos c2, decide_eq_true c2]
        by_cases c3 : (s.size : Int) ≤ 6
        · rw [if_pos c3, decide_eq_true c3]
          unfold strings_Contains.f
          rw [if_pos rfl, Option.bind_some, noZero_index, Bool.not_not]
          rfl
        · rw [if_neg c3, decide_eq_false c3]; rfl
      · rw [if_neg c2, decide_eq_false c2]; rfl
    · rw [if_neg c1, decide_eq_false c1]; rfl
theorem impl_KeyText_eq (kind num : Int) (s : ByteArray) (hs : s.size ≤ 1048576) : impl_KeyText.f kind num s = some (keyR kind num s) := by
  unfold impl_KeyText.f keyR
  rw [impl_valueOk_eq, Option.bind_some]
  cases h : valueOkR kind num s with
  | false => rfl
  | true =>
    rw [if_pos rfl, if_pos rfl]
    by_cases c : kind = 1
    · rw [if_pos c, if_pos c, impl_oneByte_eq, Option.bind_some, impl_oneByte_eq, Option.bind_some, if_pos (by rw [one_size, one_size]; omega), impl_oneByte_eq, Option.bind_some, if_pos (by rw [ByteArray.size_append, one_size, one_size, one_size]; omega)]
      have : strOfNums [num / 65536 % 256] ++ strOfNums [num / 256 % 256] ++ strOfNums [num % 256] = strOfNums [num / 65536 % 256, num / 256 % 256, num % 256] := by
        apply ByteArray.ext
        rw [ByteArray.data_append, ByteArray.data_append]
        rfl
      rw [this]
    · rw [if_neg c, if_neg c, if_pos (by omega)]
end Go.Proofs.Ytdgefpifohfcgaa.VFnExactKeyText
namespace Go.Proofs.Ytdgefpifohfcgaa.Pure
open Go.Proofs.Ytdgefpifohfcgaa.VFnExactKeyText
set_option linter.unusedVariables false
set_option linter.unusedSimpArgs false
open Go Go.RowKit Go.Proofs.YtdgefpifohfcgaaW.PrintWords Go.Proofs.YtdgefpifohfcgaaW.PrintLast Go.Proofs.YtdgefpifohfcgaaW.PrintMore
theorem FnExactKeyText (kind num : Int) (s : ByteArray) (_ : (Lit.int .i64 kind).wf = true) (_ : (Lit.int .i64 num).wf = true) (hs : s.size ≤ 9223372036854775807) : ∃ k, laws_FnExactKeyText.f k kind num s = some true := by
  have hsz : laws_szValue.f num s 1048576 = some (if (1048576 : Int) - (s.size : Int) < 0 then -1 else 1048576 - (s.size : Int)) := laws_szValue_eq num s 1048576 (by omega) (by omega) (by omega)
  by_cases c : (1048576 : Int) - (s.size : Int) < 0
  · rw [if_pos c] at hsz
    refine ⟨0, ?_⟩
    unfold laws_FnExactKeyText.f
    rw [hsz, Option.bind_some, if_pos (by decide)]
  · rw [if_neg c] at hsz
    obtain ⟨K1, e1⟩ := spec_KeyText_fev kind num s (by omega)
    dsimp only at e1
    refine ⟨K1, ?_⟩
    unfold laws_FnExactKeyText.f
    rw [hsz, Option.bind_some, if_neg c, laws_toValue_eq, Option.bind_some, e1 _ (Nat.le_refl _), Option.bind_some, Option.bind_some, impl_KeyText_eq kind num s (by omega), Option.bind_some, if_pos rfl, bne_self_eq_false, if_neg (by decide)]
end Go.Proofs.Ytdgefpifohfcgaa.Pure
