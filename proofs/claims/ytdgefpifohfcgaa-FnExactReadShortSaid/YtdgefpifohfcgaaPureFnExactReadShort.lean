/- The printed form of FnExactReadShort answers true at every input that its bounds let in; no other conditions. -/
import Derived.Test.YtdgefpifohfcgaaPFnExactReadShortx2
import Derived.Test.YtdgefpifohfcgaaM
namespace Go.Proofs.Ytdgefpifohfcgaa.PFnExactReadShort
open Go Go.RowKit Go.Proofs.YtdgefpifohfcgaaW.PrintWords Go.Proofs.YtdgefpifohfcgaaW.PrintLast Go.Proofs.YtdgefpifohfcgaaW.PrintMore
theorem spec_l01Var_ev : ∀ (n : Nat) (acc : List Int), n ≤ 9223372036854775807 → acc.length + n ≤ 140737488355327 → Ev (fun k => spec_l01Var.l0 k (n : Int) acc) (strOfNums (acc ++ varL n)) := by
  intro n
  induction n using Nat.strongRecOn with
  | ind n ih =>
    intro acc hn hl
    by_cases h : n > 127
    · refine ev_go (f := fun k => spec_l01Var.l0 k ((n / 128 : Nat) : Int) (acc ++ [(n : Int) % 128 + 128])) ?_ ?_
      · have := ih (n / 128) (by omega) (acc ++ [(n : Int) % 128 + 128]) (by omega) (by rw [List.length_append, List.length_singleton]; omega)
        rw [List.append_assoc, List.singleton_append, ← varL_big h] at this
        exact this
      · intro k
        have e1 : wrap64 (Int.tdiv (n : Int) 128) = ((n / 128 : Nat) : Int) := by rw [Int.tdiv_eq_ediv_of_nonneg (by omega), w64 (by omega) (by omega)]; omega
        have e2 : (wrap64 (Int.tmod (n : Int) 128 + 128)) % 256 = (n : Int) % 128 + 128 := by rw [Int.tmod_eq_emod_of_nonneg (by omega), w64 (by omega) (by omega)]; omega
        rw [spec_l01Var.l0, if_pos (by omega), if_pos (by omega), e1, e2]
    · refine ev_end fun k => ?_
      rw [spec_l01Var.l0, if_neg (by omega), if_pos (by omega), varL_small h]
      rw [show (n : Int) % 256 = (n : Int) by omega]
theorem spec_l01Var_fev (n : Int) (h0 : 0 ≤ n) (h : n ≤ 140737488355327) : Ev (fun k => spec_l01Var.f k n) (varB n.toNat) := by
  have := spec_l01Var_ev n.toNat [] (by omega) (by simp; omega)
  rw [Int.toNat_of_nonneg h0, List.nil_append] at this
  exact this
theorem spec_ReadVar_ev (s : ByteArray) (hs : s.size ≤ 140737488351232) (a : Nat) (ha : a ≤ s.size) : ∀ (d j : Nat) (n : Int), 5 - j = d → j ≤ 5 → a + j ≤ s.size → 0 ≤ n → n < 128 ^ j → decAt ((bytesOf s).drop a) j n →
    Ev (fun k => spec_ReadVar.l0 k s (a : Int) n (128 ^ j) ((a : Int) + j)) (rvL a ((bytesOf s).drop a)) := by
  intro d
  induction d with
  | zero =>
    intro j n hd hj hl h0 h1 hD
    obtain rfl : j = 5 := by omega
    rw [rvL_none (decAt_over hD)]
    refine ev_succ ⟨1, fun k hk => ?_⟩
    obtain ⟨k, rfl⟩ : ∃ m, k = m + 1 := ⟨k - 1, by omega⟩
    rw [spec_ReadVar.l0]
    by_cases c : (a : Int) + (5 : Nat) < (s.size : Int)
    · rw [if_pos c, w64 (by omega) (by omega), decide_eq_false (by omega), spec_ReadVar.j1, if_neg (by decide)]
    · rw [if_neg c, spec_ReadVar.j1, if_neg (by decide)]
  | succ d ih =>
    intro j n hd hj hl h0 h1 hD
    by_cases c : a + j < s.size
    · have hdrop : ((bytesOf s).drop a).drop j = bt s ((a : Int) + j) :: ((bytesOf s).drop (a + j + 1)) := by
        rw [List.drop_drop, bytesOf_drop s (a + j) c]
        rw [show ((a + j : Nat) : Int) = (a : Int) + j by omega]
      have hb0 := bt_lo s ((a : Int) + j)
      have hb1 := bt_hi s ((a : Int) + j)
      obtain ⟨m1, m2, m3, m4⟩ := rv_mul j (by omega) n (bt s ((a : Int) + j)) h0 h1 hb0 hb1
      by_cases cb : bt s ((a : Int) + j) < 128
      · have hE := decAt_end hD (by omega) hdrop cb
        rw [show bt s ((a : Int) + j) % 128 = bt s ((a : Int) + j) by omega] at m1 m2 m3 m4
        by_cases cm : n + 128 ^ j * bt s ((a : Int) + j) > 1000000000
        · rw [rvL_bad hE (by omega)]
          refine ev_succ ⟨1, fun k hk => ?_⟩
          obtain ⟨k, rfl⟩ : ∃ m, k = m + 1 := ⟨k - 1, by omega⟩
          rw [spec_ReadVar.l0, if_pos (by omega), w64 (n := (a : Int) + 5) (by omega) (by omega), decide_eq_true (by omega), spec_ReadVar.j1, if_pos rfl, if_pos (by omega), if_pos (by omega), if_pos cb, m1, if_pos cm]
        · obtain ⟨K, hK⟩ := spec_l01Var_fev (n + 128 ^ j * bt s ((a : Int) + j)) m2 (by omega)
          dsimp only at hK
          refine ev_succ ⟨K + 1, fun k hk => ?_⟩
          obtain ⟨k, rfl⟩ : ∃ m, k = m + 1 := ⟨k - 1, by omega⟩
          rw [spec_ReadVar.l0, if_pos (by omega), w64 (n := (a : Int) + 5) (by omega) (by omega), decide_eq_true (by omega), spec_ReadVar.j1, if_pos rfl, if_pos (by omega), if_pos (by omega), if_pos cb, m1, if_neg cm]
          rw [hK k (by omega), Option.bind_some, w64 (n := (a : Int) + j + 1) (by omega) (by omega), if_pos (by omega), if_pos (by omega), if_pos (by omega)]
          have he : ((varB (n + 128 ^ j * bt s ((a : Int) + j)).toNat).toList = (s.extract (a : Int).toNat ((a : Int) + j + 1).toNat).toList) ↔ varL (n + 128 ^ j * bt s ((a : Int) + j)).toNat = ((bytesOf s).drop a).take (1 + j) := by
            rw [toList_eq_iff, varB, strOfNums_eq_iff _ _ (varL_range _), bytesOf_extract]
            rw [show (a : Int).toNat = a by omega, show ((a : Int) + j + 1).toNat - a = 1 + j by omega]
          by_cases ce : varL (n + 128 ^ j * bt s ((a : Int) + j)).toNat = ((bytesOf s).drop a).take (1 + j)
          · rw [if_pos (he.2 ce), rvL_good hE (by omega) ce]
            simp only [Option.some.injEq, Prod.mk.injEq, and_true, true_and]
            omega
          · rw [if_neg (fun h => ce (he.1 h)), rvL_bad hE (fun h => ce h.2)]
      · have hN := decAt_next hD (by omega) hdrop cb
        rw [show bt s ((a : Int) + j) % 128 = bt s ((a : Int) + j) - 128 by omega] at m1 m2 m3 m4
        have hsc : wrap64 (128 ^ j * 128) = 128 ^ (j + 1) := by
          rw [Int.pow_succ]
          rcases pow128 j (by omega) with ⟨h, _⟩ | ⟨h, _⟩ | ⟨h, _⟩ | ⟨h, _⟩ | ⟨h, _⟩ <;> (rw [h]; exact w64 (by omega) (by omega))
        have hi := ih (j + 1) _ (by omega) (by omega) (by omega) m2 m3 hN
        obtain ⟨K, hK⟩ := hi
        refine ev_succ ⟨K + 1, fun k hk => ?_⟩
        obtain ⟨k, rfl⟩ : ∃ m, k = m + 1 := ⟨k - 1, by omega⟩
        rw [spec_ReadVar.l0, if_pos (by omega), w64 (n := (a : Int) + 5) (by omega) (by omega), decide_eq_true (by omega), spec_ReadVar.j1, if_pos rfl, if_pos (by omega), if_pos (by omega), if_neg cb, m1, hsc, w64 (n := (a : Int) + j + 1) (by omega) (by omega)]
        have := hK k (by omega)
        simp only [Int.natCast_add, Int.natCast_one] at this
        rw [Int.add_assoc]
        exact this
    · have hdrop : ((bytesOf s).drop a).drop j = [] := by
        rw [List.drop_drop, List.drop_eq_nil_iff, bytesOf_length]; omega
      rw [rvL_none (decAt_short hD hdrop)]
      refine ev_succ ⟨1, fun k hk => ?_⟩
      obtain ⟨k, rfl⟩ : ∃ m, k = m + 1 := ⟨k - 1, by omega⟩
      rw [spec_ReadVar.l0, if_neg (by omega), spec_ReadVar.j1, if_neg (by decide)]
theorem spec_ReadVar_fev (s : ByteArray) (hs : s.size ≤ 140737488351232) (a : Int) : Ev (fun k => spec_ReadVar.f k s a) (rvR s a) := by
  unfold rvR
  by_cases c : 0 ≤ a ∧ a ≤ (s.size : Int)
  · rw [if_pos c]
    have := spec_ReadVar_ev s hs a.toNat (by omega) 5 0 0 (by omega) (by omega) (by omega) (by omega) (by simp) (decAt_zero _)
    rw [show ((a.toNat : Nat) : Int) = a by omega] at this
    simp only [Int.pow_zero, Int.natCast_zero, Int.add_zero] at this
    refine Ev.congr (fun k => ?_) this
    unfold spec_ReadVar.f spec_l01In.f
    rw [if_pos (by omega), Option.bind_some, decide_eq_true (by omega), if_pos rfl]
  · rw [if_neg c]
    refine ev_some fun k => ?_
    unfold spec_ReadVar.f spec_l01In.f
    by_cases c1 : a ≥ 0
    · rw [if_pos c1, Option.bind_some, decide_eq_false (by omega), if_neg (by decide)]
    · rw [if_neg c1, Option.bind_some, if_neg (by decide)]
theorem spec_ReadShort_fev (s : ByteArray) (hs : s.size ≤ 140737488351232) (a : Int) : Ev (fun k => spec_ReadShort.f k s a) (rsR s a) := by
  refine ev_call (spec_ReadVar_fev s hs a) (ev_some fun k => ?_) (fun k => rfl)
  unfold rsR
  rcases hr : rvR s a with ⟨n, nx, ok⟩
  cases ok with
  | false => simp
  | true =>
    obtain ⟨u, h1, h2, h3, h4, h5, h6, h7, h8⟩ := rvR_tells s a n nx hr
    simp only [if_true, true_and]
    rw [w64 (n := (s.size : Int) - nx) (by omega) (by omega)]
    by_cases c : n ≤ 20000
    · rw [if_neg (by omega)]
      by_cases c2 : n ≤ (s.size : Int) - nx
      · rw [if_neg (by omega), if_pos (by omega), w64 (n := nx + n) (by omega) (by omega), if_pos (by omega), if_pos (by omega), if_pos ⟨c, c2⟩]
      · rw [if_pos (by omega), if_neg (by omega)]
    · rw [if_pos (by omega), if_neg (by omega)]
theorem impl_ReadVar_ev (s : ByteArray) (hs : s.size ≤ 140737488351232) (a : Nat) (ha : a ≤ s.size) : ∀ (d j : Nat) (n : Int), 5 - j = d → j ≤ 5 → a + j ≤ s.size → 0 ≤ n → n < 128 ^ j → decAt ((bytesOf s).drop a) j n →
    Ev (fun k => impl_ReadVar.l0 k s (a : Int) n (j : Int)) (rvL a ((bytesOf s).drop a)) := by
  have hrange : ∀ x ∈ (bytesOf s).drop a, 0 ≤ x ∧ x ≤ 255 := fun x hx => bytesOf_range s x (List.mem_of_mem_drop hx)
  intro d
  induction d with
  | zero =>
    intro j n hd hj hl h0 h1 hD
    obtain rfl : j = 5 := by omega
    rw [rvL_none (decAt_over hD)]
    refine ev_succ ⟨1, fun k hk => ?_⟩
    obtain ⟨k, rfl⟩ : ∃ m, k = m + 1 := ⟨k - 1, by omega⟩
    rw [impl_ReadVar.l0, if_neg (by omega), impl_ReadVar.j1, if_neg (by decide)]
  | succ d ih =>
    intro j n hd hj hl h0 h1 hD
    by_cases c : a + j < s.size
    · have hdrop : ((bytesOf s).drop a).drop j = bt s ((a : Int) + j) :: ((bytesOf s).drop (a + j + 1)) := by
        rw [List.drop_drop, bytesOf_drop s (a + j) c]
        rw [show ((a + j : Nat) : Int) = (a : Int) + j by omega]
      have hget : ((bytesOf s).drop a).getD j 0 = bt s ((a : Int) + j) := by
        have : ((bytesOf s).drop a)[j]? = some (bt s ((a : Int) + j)) := by
          have := congrArg (fun l : List Int => l[0]?) hdrop
          simpa using this
        rw [List.getD_eq_getElem?_getD, this]
        rfl
      have hb0 := bt_lo s ((a : Int) + j)
      have hb1 := bt_hi s ((a : Int) + j)
      obtain ⟨m1, m2, m3, m4⟩ := rv_mul j (by omega) n (bt s ((a : Int) + j)) h0 h1 hb0 hb1
      have m0 := rv_or j (by omega) n (bt s ((a : Int) + j)) h0 h1 hb0 hb1
      have hw : wrap64 (bt s ((a : Int) + j)) = bt s ((a : Int) + j) := w64 (by omega) (by omega)
      rw [hw] at m0
      by_cases cb : bt s ((a : Int) + j) < 128
      · have hE := decAt_end hD (by omega) hdrop cb
        have hC := decL_canon 5 _ _ _ hrange hE
        rw [show 1 + j - 1 = j by omega, hget] at hC
        rw [show bt s ((a : Int) + j) % 128 = bt s ((a : Int) + j) by omega] at m0 m1 m2 m3 m4
        refine ev_succ ⟨1, fun k hk => ?_⟩
        obtain ⟨k, rfl⟩ : ∃ m, k = m + 1 := ⟨k - 1, by omega⟩
        rw [impl_ReadVar.l0, if_pos (by omega), w64 (n := (a : Int) + j) (by omega) (by omega), decide_eq_true (by omega), impl_ReadVar.j1, if_pos rfl, w64 (n := (a : Int) + j) (by omega) (by omega), if_pos (by omega), if_pos (by omega), w64 (n := 7 * (j : Int)) (by omega) (by omega), if_pos (by omega), hw, if_neg (by omega)]
        rw [w64 (n := 7 * (j : Int)) (by omega) (by omega)] at m0
        rw [m0, w64 (n := (a : Int) + j + 1) (by omega) (by omega)]
        have hN : ¬ (n + 128 ^ j * bt s ((a : Int) + j) > 1000000000) → ¬ (bt s ((a : Int) + j) = 0 ∧ j > 0) → rvL a ((bytesOf s).drop a) = (n + 128 ^ j * bt s ((a : Int) + j), (a : Int) + j + 1, true) := by
          intro g1 g2
          rw [rvL_good hE (by omega) (hC.2 (fun h => g2 ⟨h.2, by omega⟩))]
          simp only [Prod.mk.injEq, and_true, true_and]
          omega
        have hM : n + 128 ^ j * bt s ((a : Int) + j) > 1000000000 → rvL a ((bytesOf s).drop a) = (0, 0, false) := fun g => rvL_bad hE (fun h => by omega)
        by_cases cz : bt s ((a : Int) + j) = 0
        · rw [if_pos cz]
          by_cases cj : (j : Int) > 0
          · rw [if_pos cj, rvL_bad hE]
            intro h
            exact hC.1 h.2 ⟨by omega, cz⟩
          · rw [if_neg cj]
            by_cases cm : n + 128 ^ j * bt s ((a : Int) + j) > 1000000000
            · rw [if_pos cm, hM cm]
            · rw [if_neg cm, hN cm (by omega)]
        · rw [if_neg cz]
          by_cases cm : n + 128 ^ j * bt s ((a : Int) + j) > 1000000000
          · rw [if_pos cm, hM cm]
          · rw [if_neg cm, hN cm (by omega)]
      · have hN := decAt_next hD (by omega) hdrop cb
        rw [show bt s ((a : Int) + j) % 128 = bt s ((a : Int) + j) - 128 by omega] at m0 m1 m2 m3 m4
        have hi := ih (j + 1) _ (by omega) (by omega) (by omega) m2 m3 hN
        obtain ⟨K, hK⟩ := hi
        dsimp only at hK
        refine ev_succ ⟨K + 1, fun k hk => ?_⟩
        obtain ⟨k, rfl⟩ : ∃ m, k = m + 1 := ⟨k - 1, by omega⟩
        rw [w64 (n := 7 * (j : Int)) (by omega) (by omega)] at m0
        rw [impl_ReadVar.l0, if_pos (by omega), w64 (n := (a : Int) + j) (by omega) (by omega), decide_eq_true (by omega), impl_ReadVar.j1, if_pos rfl, w64 (n := (a : Int) + j) (by omega) (by omega), if_pos (by omega), if_pos (by omega), w64 (n := 7 * (j : Int)) (by omega) (by omega), if_pos (by omega), hw, if_pos (by omega), m0, w64 (n := (j : Int) + 1) (by omega) (by omega)]
        have := hK k (by omega)
        simp only [Int.natCast_add, Int.natCast_one] at this
        exact this
    · have hdrop : ((bytesOf s).drop a).drop j = [] := by
        rw [List.drop_drop, List.drop_eq_nil_iff, bytesOf_length]; omega
      rw [rvL_none (decAt_short hD hdrop)]
      refine ev_succ ⟨1, fun k hk => ?_⟩
      obtain ⟨k, rfl⟩ : ∃ m, k = m + 1 := ⟨k - 1, by omega⟩
      rw [impl_ReadVar.l0, if_pos (by omega), w64 (n := (a : Int) + j) (by omega) (by omega), decide_eq_false (by omega), impl_ReadVar.j1, if_neg (by decide)]
theorem impl_ReadVar_fev (s : ByteArray) (hs : s.size ≤ 140737488351232) (a : Int) : Ev (fun k => impl_ReadVar.f k s a) (rvR s a) := by
  unfold rvR
  by_cases c : 0 ≤ a ∧ a ≤ (s.size : Int)
  · rw [if_pos c]
    have := impl_ReadVar_ev s hs a.toNat (by omega) 5 0 0 (by omega) (by omega) (by omega) (by omega) (by simp) (decAt_zero _)
    rw [show ((a.toNat : Nat) : Int) = a by omega] at this
    simp only [Int.natCast_zero] at this
    refine Ev.congr (fun k => ?_) this
    unfold impl_ReadVar.f impl_in.f
    rw [if_pos (by omega), Option.bind_some, decide_eq_true (by omega), if_pos rfl]
  · rw [if_neg c]
    refine ev_some fun k => ?_
    unfold impl_ReadVar.f impl_in.f
    by_cases c1 : a ≥ 0
    · rw [if_pos c1, Option.bind_some, decide_eq_false (by omega), if_neg (by decide)]
    · rw [if_neg c1, Option.bind_some, if_neg (by decide)]
theorem impl_ReadShort_fev (s : ByteArray) (hs : s.size ≤ 140737488351232) (a : Int) : Ev (fun k => impl_ReadShort.f k s a) (rsR s a) := by
  refine ev_call (impl_ReadVar_fev s hs a) (ev_some fun k => ?_) (fun k => rfl)
  unfold rsR
  rcases hr : rvR s a with ⟨n, nx, ok⟩
  cases ok with
  | false => simp
  | true =>
    obtain ⟨u, h1, h2, h3, h4, h5, h6, h7, h8⟩ := rvR_tells s a n nx hr
    simp only [if_true, true_and]
    rw [w64 (n := (s.size : Int) - nx) (by omega) (by omega)]
    by_cases c : n ≤ 20000
    · rw [if_neg (by omega)]
      by_cases c2 : n ≤ (s.size : Int) - nx
      · rw [if_neg (by omega), if_pos (by omega), w64 (n := nx + n) (by omega) (by omega), if_pos (by omega), if_pos (by omega), if_pos ⟨c, c2⟩]
      · rw [if_pos (by omega), if_neg (by omega)]
    · rw [if_pos (by omega), if_neg (by omega)]
end Go.Proofs.Ytdgefpifohfcgaa.PFnExactReadShort
namespace Go.Proofs.Ytdgefpifohfcgaa.Pure
open Go.Proofs.Ytdgefpifohfcgaa.PFnExactReadShort
open Go Go.RowKit Go.Proofs.YtdgefpifohfcgaaW.PrintWords Go.Proofs.YtdgefpifohfcgaaW.PrintLast Go.Proofs.YtdgefpifohfcgaaW.PrintMore
theorem FnExactReadShort : laws_FnExactReadShort.Pure := by
  intro s a hs _
  obtain ⟨k, h1, h2⟩ := ev_pair (spec_ReadShort_fev s hs a) (impl_ReadShort_fev s hs a)
  refine ⟨k, ?_⟩
  unfold laws_FnExactReadShort.f
  rw [h1, h2]
  simp
end Go.Proofs.Ytdgefpifohfcgaa.Pure
