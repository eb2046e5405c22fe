/- The printed form of FnExactShortText answers true at every input that its bounds let in; no other conditions. -/
import Derived.Test.YtgeicmbcnnjniaaPFnExactShortTextx1
import Derived.Test.YtgeicmbcnnjniaaM
namespace Go.Proofs.Ytgeicmbcnnjniaa.PFnExactShortText
open Go Go.RowKit Go.Proofs.YtgeicmbcnnjniaaW.PrintWords Go.Proofs.YtgeicmbcnnjniaaW.PrintLast Go.Proofs.YtgeicmbcnnjniaaW.PrintMore
theorem spec_l01Var_ev : ∀ (n : Nat) (acc : List Int), n ≤ 9223372036854775807 → acc.length + n ≤ 140737488355327 → Ev (fun k => spec_l01Var.l0 k (n : Int) acc) (strOfNums (acc ++ varL n)) := by
  intro n
  induction n using Nat.strongRecOn with
  | ind n ih =>
    intro acc hn hl
    by_cases h : n > 127
    · refine ev_go (f := fun k => spec_l01Var.l0 k ((n / 128 : Nat) : Int) (acc ++ [(n : Int) % 128 + 128])) ?_ ?_
      · have := ih (n / 128) (by omega) (acc ++ [(n : Int) % 128 + 128]) (by omega) (by rw [List.length_append, List.length_singleton]; omega)
        rw [List.append_assoc, List.singleton_append, ← varL_big h] at this
        exact this
      · intro k
        have e1 : wrap64 (Int.tdiv (n : Int) 128) = ((n / 128 : Nat) : Int) := by rw [Int.tdiv_eq_ediv_of_nonneg (by omega), w64 (by omega) (by omega)]; omega
        have e2 : (wrap64 (Int.tmod (n : Int) 128 + 128)) % 256 = (n : Int) % 128 + 128 := by rw [Int.tmod_eq_emod_of_nonneg (by omega), w64 (by omega) (by omega)]; omega
        rw [spec_l01Var.l0, if_pos (by omega), if_pos (by omega), e1, e2]
    · refine ev_end fun k => ?_
      rw [spec_l01Var.l0, if_neg (by omega), if_pos (by omega), varL_small h]
      rw [show (n : Int) % 256 = (n : Int) by omega]
theorem spec_l01Var_fev (n : Int) (h0 : 0 ≤ n) (h : n ≤ 140737488355327) : Ev (fun k => spec_l01Var.f k n) (varB n.toNat) := by
  have := spec_l01Var_ev n.toNat [] (by omega) (by simp; omega)
  rw [Int.toNat_of_nonneg h0, List.nil_append] at this
  exact this
theorem spec_ShortText_fev (s : ByteArray) (hs : s.size ≤ 140737488351232) : Ev (fun k => spec_ShortText.f k s) (shortR s) := by
  unfold shortR
  by_cases c : (s.size : Int) > 20000
  · rw [if_pos c]
    exact ev_some fun k => by unfold spec_ShortText.f; rw [if_pos c]
  · rw [if_neg c]
    refine ev_call (spec_l01Var_fev (s.size : Int) (by omega) (by omega)) (ev_some fun k => ?_) fun k => by unfold spec_ShortText.f; rw [if_neg c]
    have h4 := varB_size_le s.size (by omega)
    rw [Int.toNat_natCast, if_pos (by omega)]
    rfl
theorem impl_varText_ev : ∀ (n : Nat) (acc : List Int), n ≤ 9223372036854775807 → acc.length + n ≤ 140737488355327 → Ev (fun k => impl_varText.l0 k (n : Int) acc) (strOfNums (acc ++ varL n)) := by
  intro n
  induction n using Nat.strongRecOn with
  | ind n ih =>
    intro acc hn hl
    by_cases h : n > 127
    · refine ev_go (f := fun k => impl_varText.l0 k ((n / 128 : Nat) : Int) (acc ++ [(n : Int) % 128 + 128])) ?_ ?_
      · have := ih (n / 128) (by omega) (acc ++ [(n : Int) % 128 + 128]) (by omega) (by rw [List.length_append, List.length_singleton]; omega)
        rw [List.append_assoc, List.singleton_append, ← varL_big h] at this
        exact this
      · intro k
        have e1 : (n : Int) / 128 = ((n / 128 : Nat) : Int) := by omega
        have e2 : (Go.bits .or .i64 (Go.bits .and .i64 (n : Int) 127) 128) % 256 = (n : Int) % 128 + 128 := by rw [i64_and127 _ (by omega) (by omega), i64_or128 _ (by omega) (by omega)]; omega
        rw [impl_varText.l0, if_pos (by omega), if_pos (by omega), e1, e2]
    · refine ev_end fun k => ?_
      rw [impl_varText.l0, if_neg (by omega), if_pos (by omega), varL_small h]
      rw [show (n : Int) % 256 = (n : Int) by omega]
theorem impl_varText_fev (n : Int) (h0 : 0 ≤ n) (h : n ≤ 140737488355327) : Ev (fun k => impl_varText.f k n) (varB n.toNat) := by
  have := impl_varText_ev n.toNat [] (by omega) (by simp; omega)
  rw [Int.toNat_of_nonneg h0, List.nil_append] at this
  exact this
theorem impl_ShortText_fev (s : ByteArray) (hs : s.size ≤ 140737488351232) : Ev (fun k => impl_ShortText.f k s) (shortR s) := by
  unfold shortR
  by_cases c : (s.size : Int) > 20000
  · rw [if_pos c]
    exact ev_some fun k => by unfold impl_ShortText.f; rw [if_pos c]
  · rw [if_neg c]
    refine ev_call (impl_varText_fev (s.size : Int) (by omega) (by omega)) (ev_some fun k => ?_) fun k => by unfold impl_ShortText.f; rw [if_neg c]
    have h4 := varB_size_le s.size (by omega)
    rw [Int.toNat_natCast, if_pos (by omega)]
    rfl
end Go.Proofs.Ytgeicmbcnnjniaa.PFnExactShortText
namespace Go.Proofs.Ytgeicmbcnnjniaa.Pure
open Go.Proofs.Ytgeicmbcnnjniaa.PFnExactShortText
open Go Go.RowKit Go.Proofs.YtgeicmbcnnjniaaW.PrintWords Go.Proofs.YtgeicmbcnnjniaaW.PrintLast Go.Proofs.YtgeicmbcnnjniaaW.PrintMore
theorem FnExactShortText : laws_FnExactShortText.Pure := by
  intro s hs
  obtain ⟨k, h1, h2⟩ := ev_pair (spec_ShortText_fev s hs) (impl_ShortText_fev s hs)
  refine ⟨k, ?_⟩
  unfold laws_FnExactShortText.f
  rw [h1, h2]
  simp
end Go.Proofs.Ytgeicmbcnnjniaa.Pure
