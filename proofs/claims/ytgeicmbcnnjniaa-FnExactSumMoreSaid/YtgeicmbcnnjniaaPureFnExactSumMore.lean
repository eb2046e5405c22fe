/- The printed form of FnExactSumMore answers true at every input that its bounds let in; no other conditions. -/
import Derived.Test.YtgeicmbcnnjniaaPFnExactSumMorex1
import Derived.Test.YtgeicmbcnnjniaaM
namespace Go.Proofs.Ytgeicmbcnnjniaa.PFnExactSumMore
open Go Go.RowKit Go.Proofs.YtgeicmbcnnjniaaW.PrintWords Go.Proofs.YtgeicmbcnnjniaaW.PrintLast Go.Proofs.YtgeicmbcnnjniaaW.PrintMore
theorem spec_SumMore_steps (s : ByteArray) (i : Int) (r : Int) : ∀ (d : Nat) (x : Int) (j : Int), j + d = 8 → 0 ≤ j → 0 ≤ x ∧ x < 4294967296 → Ev (fun k => spec_SumMore.l0 k (sumSteps d x) s (wrap64 (i + 1))) r → Ev (fun k => spec_SumMore.l1 k x s i j) r := by
  intro d
  induction d with
  | zero =>
    intro x j hj h0 hx h
    refine ev_go h fun k => ?_
    rw [spec_SumMore.l1, if_neg (by omega)]
    rfl
  | succ d ih =>
    intro x j hj h0 hx h
    refine ev_go (ih (sumStep x) (j + 1) (by omega) (by omega) (sumStep_range x hx) h) fun k => ?_
    rw [spec_SumMore.l1, if_pos (by omega), Int.tmod_eq_emod_of_nonneg hx.1, Int.tdiv_eq_ediv_of_nonneg hx.1, w64 (n := j + 1) (by omega) (by omega), show x / 2 % 4294967296 = x / 2 by omega]
    unfold sumStep
    by_cases c : x % 2 = 1
    · rw [if_pos c, if_pos c]
    · rw [if_neg c, if_neg c]
theorem spec_SumMore_loop (s : ByteArray) (hs : s.size ≤ 140737488351232) : ∀ (d : Nat) (x : Int) (i : Nat), i + d = s.size → 0 ≤ x ∧ x < 4294967296 → Ev (fun k => spec_SumMore.l0 k x s (i : Int)) (sumL x ((bytesOf s).drop i)) := by
  intro d
  induction d with
  | zero =>
    intro x i hi hx
    refine ev_end fun k => ?_
    rw [spec_SumMore.l0, if_neg (by omega), List.drop_eq_nil_of_le (by rw [bytesOf_length]; omega)]
    rfl
  | succ d ih =>
    intro x i hi hx
    have hb := bt_lo s i
    have hb' := bt_hi s i
    rw [bytesOf_drop s i (by omega)]
    have hn := ih (sumByte x (bt s i)) (i + 1) (by omega) (sumByte_range _ _)
    refine ev_go (spec_SumMore_steps s i _ 8 (Go.bits .xor .u32 x (bt s i)) 0 (by omega) (by omega) (bits_u32_range _ _ _ rfl) ?_) fun k => ?_
    · rw [w64 (by omega) (by omega)]
      exact hn
    · rw [spec_SumMore.l0, if_pos (by omega), if_pos (by omega), show bt s i % 4294967296 = bt s i by omega]
theorem spec_SumMore_fev (x : Int) (hx : 0 ≤ x ∧ x < 4294967296) (s : ByteArray) (hs : s.size ≤ 140737488351232) : Ev (fun k => spec_SumMore.f k x s) (sumR x s) :=
  spec_SumMore_loop s hs s.size x 0 (by omega) hx
theorem impl_SumMore_steps (s : ByteArray) (i : Int) (r : Int) : ∀ (d : Nat) (x : Int) (j : Int), j + d = 8 → 0 ≤ j → 0 ≤ x ∧ x < 4294967296 → Ev (fun k => impl_SumMore.l0 k (sumSteps d x) s (s.size : Int) (wrap64 (i + 1))) r → Ev (fun k => impl_SumMore.l1 k x s (s.size : Int) i j) r := by
  intro d
  induction d with
  | zero =>
    intro x j hj h0 hx h
    refine ev_go h fun k => ?_
    rw [impl_SumMore.l1, if_neg (by omega)]
    rfl
  | succ d ih =>
    intro x j hj h0 hx h
    refine ev_go (ih (sumStep x) (j + 1) (by omega) (by omega) (sumStep_range x hx) h) fun k => ?_
    rw [impl_SumMore.l1, if_pos (by omega), u32_and1 x hx, w64 (n := j + 1) (by omega) (by omega)]
    unfold sumStep
    by_cases c : x % 2 = 1
    · rw [if_pos c, if_pos c]
    · rw [if_neg c, if_neg c]
theorem impl_SumMore_loop (s : ByteArray) (hs : s.size ≤ 140737488351232) : ∀ (d : Nat) (x : Int) (i : Nat), i + d = s.size → 0 ≤ x ∧ x < 4294967296 → Ev (fun k => impl_SumMore.l0 k x s (s.size : Int) (i : Int)) (sumL x ((bytesOf s).drop i)) := by
  intro d
  induction d with
  | zero =>
    intro x i hi hx
    refine ev_end fun k => ?_
    rw [impl_SumMore.l0, if_neg (by omega), List.drop_eq_nil_of_le (by rw [bytesOf_length]; omega)]
    rfl
  | succ d ih =>
    intro x i hi hx
    have hb := bt_lo s i
    have hb' := bt_hi s i
    rw [bytesOf_drop s i (by omega)]
    have hn := ih (sumByte x (bt s i)) (i + 1) (by omega) (sumByte_range _ _)
    refine ev_go (impl_SumMore_steps s i _ 8 (Go.bits .xor .u32 x (bt s i)) 0 (by omega) (by omega) (bits_u32_range _ _ _ rfl) ?_) fun k => ?_
    · rw [w64 (by omega) (by omega)]
      exact hn
    · rw [impl_SumMore.l0, if_pos (by omega), if_pos (by omega), if_pos (by omega), show bt s i % 4294967296 = bt s i by omega]
theorem impl_SumMore_fev (x : Int) (hx : 0 ≤ x ∧ x < 4294967296) (s : ByteArray) (hs : s.size ≤ 140737488351232) : Ev (fun k => impl_SumMore.f k x s) (sumR x s) :=
  impl_SumMore_loop s hs s.size x 0 (by omega) hx
end Go.Proofs.Ytgeicmbcnnjniaa.PFnExactSumMore
namespace Go.Proofs.Ytgeicmbcnnjniaa.Pure
open Go.Proofs.Ytgeicmbcnnjniaa.PFnExactSumMore
open Go Go.RowKit Go.Proofs.YtgeicmbcnnjniaaW.PrintWords Go.Proofs.YtgeicmbcnnjniaaW.PrintLast Go.Proofs.YtgeicmbcnnjniaaW.PrintMore
theorem FnExactSumMore : laws_FnExactSumMore.Pure := by
  intro x s hx hs
  have hx' := wf_u32 hx
  obtain ⟨k, h1, h2⟩ := ev_pair (spec_SumMore_fev x hx' s hs) (impl_SumMore_fev x hx' s hs)
  refine ⟨k, ?_⟩
  unfold laws_FnExactSumMore.f
  rw [h1, h2]
  simp
end Go.Proofs.Ytgeicmbcnnjniaa.Pure
