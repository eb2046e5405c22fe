/- The printed form of FnExactDecimal answers true at every input that its bounds let in; no other conditions. -/
import Derived.Test.YteokilffbcbllaaDoorVFnExactDecimalx1
import Derived.Test.YteokilffbcbllaaDoorG
import Derived.Lib.Bytealg
import Derived.Lib.AtoiTie
import Derived.Lib.AtoiAllCases
import Derived.Lib.Fields
namespace Go.Proofs.YteokilffbcbllaaDoor.VFnExactDecimal
set_option linter.unusedVariables false
set_option linter.unusedSimpArgs false
open Go Go.RowKit Go.Proofs.YteokilffbcbllaaDoorW.PrintWords Go.Proofs.YteokilffbcbllaaDoorW.PrintLast Go.Proofs.YteokilffbcbllaaDoorW.PrintMore
theorem w64 {n : Int} (h : -9223372036854775808 ≤ n) (h' : n ≤ 9223372036854775807) : wrap64 n = n := by
  unfold wrap64; omega
theorem ev_some {α : Type} {g : Nat → Option α} {r : α} (h : ∀ k, g k = some r) : Ev g r := ⟨0, fun k _ => h k⟩
theorem ev_succ {α : Type} {g : Nat → Option α} {r : α} (h : ∃ K, ∀ k, K ≤ k → g (k + 1) = some r) : Ev g r := by
  obtain ⟨K, h⟩ := h
  refine ⟨K + 1, fun k hk => ?_⟩
  obtain ⟨m, rfl⟩ : ∃ m, k = m + 1 := ⟨k - 1, by omega⟩
  exact h m (by omega)
/-- One round that goes on. -/
theorem ev_go {α : Type} {g f : Nat → Option α} {r : α} (hf : Ev f r) (h : ∀ k, g (k + 1) = f k) : Ev g r := Ev.step h hf
/-- One round that ends. -/
theorem ev_end {α : Type} {g : Nat → Option α} {r : α} (h : ∀ k, g (k + 1) = some r) : Ev g r := ev_succ ⟨0, fun k _ => h k⟩
theorem strOfNums_toList (xs : List Int) : (strOfNums xs).toList = xs.map fun n => UInt8.ofNat n.toNat := by
  rw [ByteArray.toList_eq, strOfNums_data]
theorem wf_i64 {x : Int} (h : (Lit.int .i64 x).wf = true) : -9223372036854775808 ≤ x ∧ x ≤ 9223372036854775807 := by
  simp [Lit.wf, IntKind.min, IntKind.max, IntKind.bits, IntKind.signed] at h
  omega
section
variable {α β : Type}
end
theorem dd_small {u : Nat} (h : u < 10) : Lib.decDigits u = [UInt8.ofNat (48 + u)] := by rw [Lib.decDigits, dif_pos h]
theorem dd_big {u : Nat} (h : ¬ u < 10) : Lib.decDigits u = Lib.decDigits (u / 10) ++ [UInt8.ofNat (48 + u % 10)] := by rw [Lib.decDigits, dif_neg h]
/-- The digits of u, none for 0. -/
def ddL (u : Nat) : List UInt8 := if u = 0 then [] else Lib.decDigits u
theorem ddL_step {u : Nat} (h : u ≠ 0) : ddL u = ddL (u / 10) ++ [UInt8.ofNat (48 + u % 10)] := by
  unfold ddL
  rw [if_neg h]
  by_cases c : u < 10
  · rw [if_pos (by omega), dd_small c, List.nil_append, show u % 10 = u by omega]
  · rw [if_neg (by omega), dd_big c]
def itoaB (n : Int) : ByteArray := ⟨(Lib.itoa n).toArray⟩
theorem ba_eq (l : List UInt8) (b : ByteArray) (h : b.data.toList = l) : b = ⟨l.toArray⟩ := by
  cases b
  subst h
  rfl
theorem strOne (t : Int) : (strOfNums [t]).data.toList = [UInt8.ofNat t.toNat] := by
  have := strOfNums_toList [t]
  rw [Lib.toList_data] at this
  exact this
theorem data_append (a b : ByteArray) : (a ++ b).data.toList = a.data.toList ++ b.data.toList := by
  rw [ByteArray.data_append, Array.toList_append]
theorem itoa_nat (u : Nat) : Lib.itoa (u : Int) = Lib.decDigits u := by
  unfold Lib.itoa
  rw [if_neg (by omega), Int.toNat_natCast]
theorem impl_Decimal_is (n : Int) (h : -9223372036854775808 ≤ n ∧ n ≤ 9223372036854775807) : impl_Decimal.f n = some (itoaB n) := by
  unfold impl_Decimal.f
  rw [if_pos h]
  rfl
theorem spec_Decimal_loop (neg : Bool) : ∀ (j m : Nat) (acc : ByteArray), m < 10 ^ j → m ≤ 9223372036854775808 → (neg = false → m ≤ 9223372036854775807) → acc.size + j ≤ 100 →
    Ev (fun k => spec_Decimal.l0 k (if neg then -(m : Int) else (m : Int)) neg acc) ⟨((if neg then [45] else []) ++ (ddL m ++ acc.data.toList)).toArray⟩ := by
  intro j
  induction j with
  | zero =>
    intro m acc hm _ _ ha
    obtain rfl : m = 0 := by simpa using hm
    refine ev_end fun k => ?_
    rw [spec_Decimal.l0, if_pos (by cases neg <;> rfl)]
    cases neg with
    | true =>
      rw [if_pos rfl, if_pos (by omega)]
      exact congrArg some (ba_eq _ _ (by rw [data_append]; rfl))
    | false =>
      rw [if_neg (by decide)]
      exact congrArg some (ba_eq _ _ rfl)
  | succ j ih =>
    intro m acc hm h1 h2 ha
    by_cases c : m = 0
    · subst c
      refine ev_end fun k => ?_
      rw [spec_Decimal.l0, if_pos (by cases neg <;> rfl)]
      cases neg with
      | true =>
        rw [if_pos rfl, if_pos (by omega)]
        exact congrArg some (ba_eq _ _ (by rw [data_append]; rfl))
      | false =>
        rw [if_neg (by decide)]
        exact congrArg some (ba_eq _ _ rfl)
    · have hd : m / 10 < 10 ^ j := by rw [Nat.pow_succ] at hm; exact Nat.div_lt_of_lt_mul (by omega)
      have hs : (strOfNums [(48 + (m : Int) % 10) % 256]).size = 1 := by rw [strOfNums_size]; rfl
      have hi := ih (m / 10) (strOfNums [(48 + (m : Int) % 10) % 256] ++ acc) hd (by omega) (by intro h; have := h2 h; omega) (by rw [ByteArray.size_append, hs]; omega)
      rw [data_append, strOne, show ((48 + (m : Int) % 10) % 256).toNat = 48 + m % 10 by omega, ← List.append_assoc (ddL (m / 10)), ← ddL_step c] at hi
      refine ev_go hi fun k => ?_
      have fg : ∀ d : Int, 0 ≤ d → d < 10 → spec_l01Figure.f d = some ((48 + d) % 256) := fun d h0 h1 => by
        unfold spec_l01Figure.f
        rw [if_pos h1, w64 (by omega) (by omega)]
      cases neg with
      | true =>
        have e1 : Int.tmod (-(m : Int)) 10 = -((m : Int) % 10) := by rw [Int.neg_tmod, Int.tmod_eq_emod_of_nonneg (by omega)]
        have e2 : wrap64 (Int.tdiv (-(m : Int)) 10) = -((m / 10 : Nat) : Int) := by
          rw [Int.neg_tdiv, Int.tdiv_eq_ediv_of_nonneg (by omega), w64 (by omega) (by omega)]
          omega
        simp only [if_true]
        rw [spec_Decimal.l0, if_neg (by omega), e1, e2]
        by_cases c0 : -((m : Int) % 10) < 0
        · rw [if_pos c0, w64 (by omega) (by omega), Int.neg_neg, fg _ (by omega) (by omega), Option.bind_some, Option.bind_some, if_pos (by rw [hs]; omega)]
        · rw [if_neg c0, show -((m : Int) % 10) = (m : Int) % 10 by omega, fg _ (by omega) (by omega), Option.bind_some, Option.bind_some, if_pos (by rw [hs]; omega)]
      | false =>
        have h3 := h2 rfl
        have e1 : Int.tmod (m : Int) 10 = (m : Int) % 10 := Int.tmod_eq_emod_of_nonneg (by omega)
        have e2 : wrap64 (Int.tdiv (m : Int) 10) = ((m / 10 : Nat) : Int) := by
          rw [Int.tdiv_eq_ediv_of_nonneg (by omega), w64 (by omega) (by omega)]
          omega
        simp only [Bool.false_eq_true, if_false]
        rw [spec_Decimal.l0, if_neg (by omega), e1, e2, if_neg (by omega), fg _ (by omega) (by omega), Option.bind_some, Option.bind_some, if_pos (by rw [hs]; omega)]
theorem spec_Decimal_fev (n : Int) (h : -9223372036854775808 ≤ n ∧ n ≤ 9223372036854775807) : Ev (fun k => spec_Decimal.f k n) (itoaB n) := by
  by_cases c : n = 0
  · subst c
    refine ev_some fun k => ?_
    unfold spec_Decimal.f
    rw [if_pos rfl]
    refine congrArg some (ba_eq _ _ ?_)
    rw [show (0 : Int) = ((0 : Nat) : Int) by rfl, itoa_nat, dd_small (by omega)]
    rfl
  · by_cases g : n < 0
    · have := spec_Decimal_loop true 20 n.natAbs ⟨#[]⟩ (by omega) (by omega) (by intro h; cases h) (by decide)
      rw [if_pos rfl, show -((n.natAbs : Nat) : Int) = n by omega] at this
      have e : itoaB n = ⟨((if true = true then [45] else []) ++ (ddL n.natAbs ++ (⟨#[]⟩ : ByteArray).data.toList)).toArray⟩ := by
        unfold itoaB Lib.itoa ddL
        rw [if_pos g, if_pos rfl, if_neg (by omega)]
        simp
      rw [e]
      refine Ev.congr (fun k => ?_) this
      unfold spec_Decimal.f
      rw [if_neg c, decide_eq_true g]
    · have := spec_Decimal_loop false 20 n.toNat ⟨#[]⟩ (by omega) (by omega) (by omega) (by decide)
      rw [if_neg (by decide), show ((n.toNat : Nat) : Int) = n by omega] at this
      have e : itoaB n = ⟨((if false = true then [45] else []) ++ (ddL n.toNat ++ (⟨#[]⟩ : ByteArray).data.toList)).toArray⟩ := by
        unfold itoaB Lib.itoa ddL
        rw [if_neg g, if_neg (by decide), if_neg (by omega)]
        simp
      rw [e]
      refine Ev.congr (fun k => ?_) this
      unfold spec_Decimal.f
      rw [if_neg c, decide_eq_false g]
end Go.Proofs.YteokilffbcbllaaDoor.VFnExactDecimal
namespace Go.Proofs.YteokilffbcbllaaDoor.Pure
open Go.Proofs.YteokilffbcbllaaDoor.VFnExactDecimal
set_option linter.unusedVariables false
set_option linter.unusedSimpArgs false
open Go Go.RowKit Go.Proofs.YteokilffbcbllaaDoorW.PrintWords Go.Proofs.YteokilffbcbllaaDoorW.PrintLast Go.Proofs.YteokilffbcbllaaDoorW.PrintMore
theorem FnExactDecimal : laws_FnExactDecimal.Pure := by
  intro n hn
  have hb := wf_i64 hn
  obtain ⟨K, e⟩ := spec_Decimal_fev n hb
  refine ⟨K, ?_⟩
  unfold laws_FnExactDecimal.f
  have e' := e K (Nat.le_refl _)
  dsimp only at e'
  rw [e', Option.bind_some, impl_Decimal_is n hb, Option.bind_some, if_pos rfl]
end Go.Proofs.YteokilffbcbllaaDoor.Pure
