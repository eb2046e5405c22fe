/- The printed form of FnExactUnsealed answers true at every input that its bounds let in; no other conditions. -/
import Derived.Test.YtdgefpifohfcgaaPFnExactUnsealedx2
import Derived.Test.YtdgefpifohfcgaaM
namespace Go.Proofs.Ytdgefpifohfcgaa.PFnExactUnsealed
open Go Go.RowKit Go.Proofs.YtdgefpifohfcgaaW.PrintWords Go.Proofs.YtdgefpifohfcgaaW.PrintLast Go.Proofs.YtdgefpifohfcgaaW.PrintMore
theorem spec_SumMore_steps (s : ByteArray) (i : Int) (r : Int) : ∀ (d : Nat) (x : Int) (j : Int), j + d = 8 → 0 ≤ j → 0 ≤ x ∧ x < 4294967296 → Ev (fun k => spec_SumMore.l0 k (sumSteps d x) s (wrap64 (i + 1))) r → Ev (fun k => spec_SumMore.l1 k x s i j) r := by
  intro d
  induction d with
  | zero =>
    intro x j hj h0 hx h
    refine ev_go h fun k => ?_
    rw [spec_SumMore.l1, if_neg (by omega)]
    rfl
  | succ d ih =>
    intro x j hj h0 hx h
    refine ev_go (ih (sumStep x) (j + 1) (by omega) (by omega) (sumStep_range x hx) h) fun k => ?_
    rw [spec_SumMore.l1, if_pos (by omega), Int.tmod_eq_emod_of_nonneg hx.1, Int.tdiv_eq_ediv_of_nonneg hx.1, w64 (n := j + 1) (by omega) (by omega), show x / 2 % 4294967296 = x / 2 by omega]
    unfold sumStep
    by_cases c : x % 2 = 1
    · rw [if_pos c, if_pos c]
    · rw [if_neg c, if_neg c]
theorem spec_SumMore_loop (s : ByteArray) (hs : s.size ≤ 140737488351232) : ∀ (d : Nat) (x : Int) (i : Nat), i + d = s.size → 0 ≤ x ∧ x < 4294967296 → Ev (fun k => spec_SumMore.l0 k x s (i : Int)) (sumL x ((bytesOf s).drop i)) := by
  intro d
  induction d with
  | zero =>
    intro x i hi hx
    refine ev_end fun k => ?_
    rw [spec_SumMore.l0, if_neg (by omega), List.drop_eq_nil_of_le (by rw [bytesOf_length]; omega)]
    rfl
  | succ d ih =>
    intro x i hi hx
    have hb := bt_lo s i
    have hb' := bt_hi s i
    rw [bytesOf_drop s i (by omega)]
    have hn := ih (sumByte x (bt s i)) (i + 1) (by omega) (sumByte_range _ _)
    refine ev_go (spec_SumMore_steps s i _ 8 (Go.bits .xor .u32 x (bt s i)) 0 (by omega) (by omega) (bits_u32_range _ _ _ rfl) ?_) fun k => ?_
    · rw [w64 (by omega) (by omega)]
      exact hn
    · rw [spec_SumMore.l0, if_pos (by omega), if_pos (by omega), show bt s i % 4294967296 = bt s i by omega]
theorem spec_SumMore_fev (x : Int) (hx : 0 ≤ x ∧ x < 4294967296) (s : ByteArray) (hs : s.size ≤ 140737488351232) : Ev (fun k => spec_SumMore.f k x s) (sumR x s) :=
  spec_SumMore_loop s hs s.size x 0 (by omega) hx
theorem spec_SumOf_fev (s : ByteArray) (hs : s.size ≤ 140737488351232) : Ev (fun k => spec_SumOf.f k s) (sumR 4294967295 s) :=
  ev_call (spec_SumMore_fev 4294967295 (by omega) s hs) (Ev.now _) fun _ => rfl
theorem spec_Unsealed_fev (s : ByteArray) (hs : s.size ≤ 140737488351232) : Ev (fun k => spec_Unsealed.f k s) (unsealedR s) := by
  unfold unsealedR
  by_cases c : 4 ≤ s.size ∧ s.size ≤ 20004
  · have hw : wrap64 ((s.size : Int) - 4) = (s.size : Int) - 4 := w64 (by omega) (by omega)
    have hx := extract_size_le s 0 (s.size - 4)
    have hn : ((s.size : Int) - 4).toNat = s.size - 4 := by omega
    refine ev_call (spec_SumOf_fev (s.extract 0 (s.size - 4)) (by omega)) (c := fun _ t105 => ((spec_l02Four.f t105).bind fun t106 => (if (s.extract (s.size - 4) s.size).toList = t106.toList then (some (s.extract 0 (s.size - 4), true)) else (some ((⟨#[]⟩ : ByteArray), false))))) (ev_some fun k => ?_) (fun k => ?_)
    · unfold spec_l02Four.f
      rw [Option.bind_some]
      change (if (s.extract (s.size - 4) s.size).toList = (sealB (s.extract 0 (s.size - 4))).toList then _ else _) = _
      by_cases c2 : s.extract (s.size - 4) s.size = sealB (s.extract 0 (s.size - 4))
      · rw [if_pos ((toList_eq_iff _ _).2 c2), if_pos ⟨c.1, c.2, c2⟩]
      · rw [if_neg (fun h => c2 ((toList_eq_iff _ _).1 h)), if_neg (fun h => c2 h.2.2)]
    · unfold spec_Unsealed.f
      rw [hw, if_neg (by omega), if_neg (by omega), if_pos (by omega), if_pos (by omega), hn]
  · rw [if_neg (fun h => c ⟨h.1, h.2.1⟩)]
    refine ev_some fun k => ?_
    unfold spec_Unsealed.f
    rw [w64 (by omega) (by omega)]
    by_cases c1 : (s.size : Int) - 4 < 0
    · rw [if_pos c1]
    · rw [if_neg c1, if_pos (by omega)]
theorem impl_SumMore_steps (s : ByteArray) (i : Int) (r : Int) : ∀ (d : Nat) (x : Int) (j : Int), j + d = 8 → 0 ≤ j → 0 ≤ x ∧ x < 4294967296 → Ev (fun k => impl_SumMore.l0 k (sumSteps d x) s (s.size : Int) (wrap64 (i + 1))) r → Ev (fun k => impl_SumMore.l1 k x s (s.size : Int) i j) r := by
  intro d
  induction d with
  | zero =>
    intro x j hj h0 hx h
    refine ev_go h fun k => ?_
    rw [impl_SumMore.l1, if_neg (by omega)]
    rfl
  | succ d ih =>
    intro x j hj h0 hx h
    refine ev_go (ih (sumStep x) (j + 1) (by omega) (by omega) (sumStep_range x hx) h) fun k => ?_
    rw [impl_SumMore.l1, if_pos (by omega), u32_and1 x hx, w64 (n := j + 1) (by omega) (by omega)]
    unfold sumStep
    by_cases c : x % 2 = 1
    · rw [if_pos c, if_pos c]
    · rw [if_neg c, if_neg c]
theorem impl_SumMore_loop (s : ByteArray) (hs : s.size ≤ 140737488351232) : ∀ (d : Nat) (x : Int) (i : Nat), i + d = s.size → 0 ≤ x ∧ x < 4294967296 → Ev (fun k => impl_SumMore.l0 k x s (s.size : Int) (i : Int)) (sumL x ((bytesOf s).drop i)) := by
  intro d
  induction d with
  | zero =>
    intro x i hi hx
    refine ev_end fun k => ?_
    rw [impl_SumMore.l0, if_neg (by omega), List.drop_eq_nil_of_le (by rw [bytesOf_length]; omega)]
    rfl
  | succ d ih =>
    intro x i hi hx
    have hb := bt_lo s i
    have hb' := bt_hi s i
    rw [bytesOf_drop s i (by omega)]
    have hn := ih (sumByte x (bt s i)) (i + 1) (by omega) (sumByte_range _ _)
    refine ev_go (impl_SumMore_steps s i _ 8 (Go.bits .xor .u32 x (bt s i)) 0 (by omega) (by omega) (bits_u32_range _ _ _ rfl) ?_) fun k => ?_
    · rw [w64 (by omega) (by omega)]
      exact hn
    · rw [impl_SumMore.l0, if_pos (by omega), if_pos (by omega), if_pos (by omega), show bt s i % 4294967296 = bt s i by omega]
theorem impl_SumMore_fev (x : Int) (hx : 0 ≤ x ∧ x < 4294967296) (s : ByteArray) (hs : s.size ≤ 140737488351232) : Ev (fun k => impl_SumMore.f k x s) (sumR x s) :=
  impl_SumMore_loop s hs s.size x 0 (by omega) hx
theorem impl_SumOf_fev (s : ByteArray) (hs : s.size ≤ 140737488351232) : Ev (fun k => impl_SumOf.f k s) (sumR 4294967295 s) :=
  ev_call (impl_SumMore_fev 4294967295 (by omega) s hs) (Ev.now _) fun _ => rfl
theorem impl_seal_fev (s : ByteArray) (hs : s.size ≤ 140737488351232) : Ev (fun k => impl_seal.f k s) (sealB s) :=
  ev_call (impl_SumOf_fev s hs) (Ev.now _) fun _ => rfl
theorem impl_Unsealed_fev (s : ByteArray) (hs : s.size ≤ 140737488351232) : Ev (fun k => impl_Unsealed.f k s) (unsealedR s) := by
  unfold unsealedR
  have hw : wrap64 ((s.size : Int) - 4) = (s.size : Int) - 4 := w64 (by omega) (by omega)
  by_cases c : 4 ≤ s.size ∧ s.size ≤ 20004
  · have hx := extract_size_le s 0 (s.size - 4)
    have hn : ((s.size : Int) - 4).toNat = s.size - 4 := by omega
    refine ev_call (impl_seal_fev (s.extract 0 (s.size - 4)) (by omega)) (c := fun _ t106 => (if (s.extract (s.size - 4) s.size).toList = t106.toList then (some (s.extract 0 (s.size - 4), true)) else (some ((⟨#[]⟩ : ByteArray), false)))) (ev_some fun k => ?_) (fun k => ?_)
    · by_cases c2 : s.extract (s.size - 4) s.size = sealB (s.extract 0 (s.size - 4))
      · rw [if_pos ((toList_eq_iff _ _).2 c2), if_pos ⟨c.1, c.2, c2⟩]
      · rw [if_neg (fun h => c2 ((toList_eq_iff _ _).1 h)), if_neg (fun h => c2 h.2.2)]
    · unfold impl_Unsealed.f impl_in.f
      rw [hw, if_pos (by omega), Option.bind_some, decide_eq_true (by omega), if_pos rfl, if_pos (by omega), if_pos (by omega), hn]
  · rw [if_neg (fun h => c ⟨h.1, h.2.1⟩)]
    refine ev_some fun k => ?_
    unfold impl_Unsealed.f impl_in.f
    rw [hw]
    by_cases c1 : (s.size : Int) - 4 ≥ 0
    · rw [if_pos c1, Option.bind_some, decide_eq_false (by omega), if_neg (by decide)]
    · rw [if_neg c1, Option.bind_some, if_neg (by decide)]
end Go.Proofs.Ytdgefpifohfcgaa.PFnExactUnsealed
namespace Go.Proofs.Ytdgefpifohfcgaa.Pure
open Go.Proofs.Ytdgefpifohfcgaa.PFnExactUnsealed
open Go Go.RowKit Go.Proofs.YtdgefpifohfcgaaW.PrintWords Go.Proofs.YtdgefpifohfcgaaW.PrintLast Go.Proofs.YtdgefpifohfcgaaW.PrintMore
theorem FnExactUnsealed : laws_FnExactUnsealed.Pure := by
  intro s hs
  obtain ⟨k, h1, h2⟩ := ev_pair (spec_Unsealed_fev s hs) (impl_Unsealed_fev s hs)
  refine ⟨k, ?_⟩
  unfold laws_FnExactUnsealed.f
  rw [h1, h2]
  simp
end Go.Proofs.Ytdgefpifohfcgaa.Pure
