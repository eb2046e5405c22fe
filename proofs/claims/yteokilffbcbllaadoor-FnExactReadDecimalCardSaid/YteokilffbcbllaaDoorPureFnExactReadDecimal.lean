/- The printed form of FnExactReadDecimal answers true at every input that its bounds let in; no other conditions. -/
import Derived.Test.YteokilffbcbllaaDoorVFnExactReadDecimalx1
import Derived.Test.YteokilffbcbllaaDoorG
import Derived.Lib.Bytealg
import Derived.Lib.AtoiTie
import Derived.Lib.AtoiAllCases
import Derived.Lib.Fields
namespace Go.Proofs.YteokilffbcbllaaDoor.VFnExactReadDecimal
set_option linter.unusedVariables false
set_option linter.unusedSimpArgs false
open Go Go.RowKit Go.Proofs.YteokilffbcbllaaDoorW.PrintWords Go.Proofs.YteokilffbcbllaaDoorW.PrintLast Go.Proofs.YteokilffbcbllaaDoorW.PrintMore
theorem w64 {n : Int} (h : -9223372036854775808 ≤ n) (h' : n ≤ 9223372036854775807) : wrap64 n = n := by
  unfold wrap64; omega
theorem ev_some {α : Type} {g : Nat → Option α} {r : α} (h : ∀ k, g k = some r) : Ev g r := ⟨0, fun k _ => h k⟩
theorem ev_succ {α : Type} {g : Nat → Option α} {r : α} (h : ∃ K, ∀ k, K ≤ k → g (k + 1) = some r) : Ev g r := by
  obtain ⟨K, h⟩ := h
  refine ⟨K + 1, fun k hk => ?_⟩
  obtain ⟨m, rfl⟩ : ∃ m, k = m + 1 := ⟨k - 1, by omega⟩
  exact h m (by omega)
/-- One round that goes on. -/
theorem ev_go {α : Type} {g f : Nat → Option α} {r : α} (hf : Ev f r) (h : ∀ k, g (k + 1) = f k) : Ev g r := Ev.step h hf
/-- One round that ends. -/
theorem ev_end {α : Type} {g : Nat → Option α} {r : α} (h : ∀ k, g (k + 1) = some r) : Ev g r := ev_succ ⟨0, fun k _ => h k⟩
theorem bt_lo (s : ByteArray) (i : Int) : 0 ≤ bt s i := (bt_range s i).1
theorem bt_hi (s : ByteArray) (i : Int) : bt s i ≤ 255 := (bt_range s i).2
theorem strOfNums_toList (xs : List Int) : (strOfNums xs).toList = xs.map fun n => UInt8.ofNat n.toNat := by
  rw [ByteArray.toList_eq, strOfNums_data]
theorem bytesOf_append (s t : ByteArray) : bytesOf (s ++ t) = bytesOf s ++ bytesOf t := by
  unfold bytesOf
  rw [ByteArray.data_append, Array.toList_append, List.map_append]
section
variable {α β : Type}
end
theorem in_dec (x a b : Int) : (if x ≥ a then some (decide (x ≤ b)) else some false) = some (decide (a ≤ x ∧ x ≤ b)) := by
  by_cases c : x ≥ a
  · rw [if_pos c]
    congr 1
    by_cases d : x ≤ b
    · rw [decide_eq_true d, decide_eq_true ⟨c, d⟩]
    · rw [decide_eq_false d, decide_eq_false (fun h => d h.2)]
  · rw [if_neg c, decide_eq_false (fun h => c h.1)]
def Took (s : ByteArray) (a b : Int) (x : ByteArray) : Prop := 0 ≤ a ∧ b ≤ (s.size : Int) ∧ b = a + (x.size : Int) ∧ (bytesOf s).drop a.toNat = bytesOf x ++ (bytesOf s).drop b.toNat
theorem Took.trans {s : ByteArray} {a b c : Int} {x y : ByteArray} (h : Took s a b x) (g : Took s b c y) : Took s a c (x ++ y) := by
  obtain ⟨h1, h2, h3, h4⟩ := h
  obtain ⟨g1, g2, g3, g4⟩ := g
  refine ⟨h1, g2, by rw [ByteArray.size_append]; omega, ?_⟩
  rw [h4, g4, bytesOf_append, List.append_assoc]
theorem dd_small {u : Nat} (h : u < 10) : Lib.decDigits u = [UInt8.ofNat (48 + u)] := by rw [Lib.decDigits, dif_pos h]
theorem dd_big {u : Nat} (h : ¬ u < 10) : Lib.decDigits u = Lib.decDigits (u / 10) ++ [UInt8.ofNat (48 + u % 10)] := by rw [Lib.decDigits, dif_neg h]
/-- The digits of u, none for 0. -/
def ddL (u : Nat) : List UInt8 := if u = 0 then [] else Lib.decDigits u
theorem ddL_step {u : Nat} (h : u ≠ 0) : ddL u = ddL (u / 10) ++ [UInt8.ofNat (48 + u % 10)] := by
  unfold ddL
  rw [if_neg h]
  by_cases c : u < 10
  · rw [if_pos (by omega), dd_small c, List.nil_append, show u % 10 = u by omega]
  · rw [if_neg (by omega), dd_big c]
def itoaB (n : Int) : ByteArray := ⟨(Lib.itoa n).toArray⟩
theorem ba_eq (l : List UInt8) (b : ByteArray) (h : b.data.toList = l) : b = ⟨l.toArray⟩ := by
  cases b
  subst h
  rfl
theorem itoaB_toList (n : Int) : (itoaB n).toList = Lib.itoa n := by rw [Lib.toList_data]; rfl
theorem strOne (t : Int) : (strOfNums [t]).data.toList = [UInt8.ofNat t.toNat] := by
  have := strOfNums_toList [t]
  rw [Lib.toList_data] at this
  exact this
theorem data_append (a b : ByteArray) : (a ++ b).data.toList = a.data.toList ++ b.data.toList := by
  rw [ByteArray.data_append, Array.toList_append]
/-- A digit's byte, read back. -/
theorem digitVal_dig (d : Nat) (h : d < 10) : Lib.digitVal (UInt8.ofNat (48 + d)) = some d := by
  have e : (UInt8.ofNat (48 + d)).toNat = 48 + d := by
    rw [UInt8.toNat_ofNat']
    omega
  unfold Lib.digitVal
  rw [e, if_pos (by omega)]
  congr 1
  omega
theorem decFrom_snoc : ∀ (l : List UInt8) (acc n : Nat) (b : UInt8) (d : Nat), Lib.decFrom acc l = some n → Lib.digitVal b = some d → Lib.decFrom acc (l ++ [b]) = some (n * 10 + d)
  | [], acc, n, b, d, h, hb => by
    unfold Lib.decFrom at h
    obtain rfl := Option.some.inj h
    simp [Lib.decFrom, hb]
  | c :: l, acc, n, b, d, h, hb => by
    rw [List.cons_append]
    unfold Lib.decFrom at h ⊢
    cases hc : Lib.digitVal c with
    | none => rw [hc] at h; cases h
    | some e =>
      rw [hc] at h
      exact decFrom_snoc l _ n b d h hb
theorem decFrom_dd (u : Nat) : Lib.decFrom 0 (Lib.decDigits u) = some u := by
  induction u using Nat.strongRecOn with
  | ind u ih =>
    by_cases c : u < 10
    · rw [dd_small c]
      have := decFrom_snoc [] 0 0 (UInt8.ofNat (48 + u)) u rfl (digitVal_dig u c)
      simpa using this
    · rw [dd_big c, decFrom_snoc _ 0 (u / 10) _ (u % 10) (ih _ (by omega)) (digitVal_dig _ (by omega))]
      congr 1
      omega
theorem dd_ne (u : Nat) : Lib.decDigits u ≠ [] := by
  by_cases c : u < 10
  · rw [dd_small c]; simp
  · rw [dd_big c]; simp
theorem dd_length_le (j : Nat) : ∀ u : Nat, u < 10 ^ j → (Lib.decDigits u).length ≤ max j 1 := by
  induction j with
  | zero => intro u h; simp at h; subst h; rw [dd_small (by omega)]; simp
  | succ j ih =>
    intro u h
    by_cases c : u < 10
    · rw [dd_small c]; simp only [List.length_singleton]; omega
    · have h2 : u / 10 < 10 ^ j := by rw [Nat.pow_succ] at h; exact Nat.div_lt_of_lt_mul (by omega)
      have := ih _ h2
      rw [dd_big c, List.length_append, List.length_singleton]
      cases j with
      | zero => omega
      | succ j => omega
theorem dd_head (u : Nat) : ∃ b r, Lib.decDigits u = b :: r ∧ 48 ≤ b.toNat ∧ b.toNat ≤ 57 := by
  cases h : Lib.decDigits u with
  | nil => exact absurd h (dd_ne u)
  | cons b r =>
    have h1 := decFrom_dd u
    rw [h] at h1
    unfold Lib.decFrom at h1
    cases hb : Lib.digitVal b with
    | none => rw [hb] at h1; cases h1
    | some e =>
      obtain ⟨p, q, _⟩ := Lib.digitVal_eq hb
      exact ⟨b, r, rfl, p, q⟩
theorem atoi_dd (u : Nat) : Lib.atoi (Lib.decDigits u) = some (u : Int) := by
  obtain ⟨b, r, h, p, q⟩ := dd_head u
  have h1 := decFrom_dd u
  rw [h] at h1 ⊢
  show (if b == 45 then (Lib.decNat r).map (fun (m : Nat) => -(m : Int)) else if b == 43 then (Lib.decNat r).map (fun (m : Nat) => (m : Int)) else (Lib.decNat (b :: r)).map (fun (m : Nat) => (m : Int))) = some (u : Int)
  have b45 : (b == 45) = false := by
    rw [beq_eq_false_iff_ne]
    rintro rfl
    exact absurd p (by decide)
  have b43 : (b == 43) = false := by
    rw [beq_eq_false_iff_ne]
    rintro rfl
    exact absurd p (by decide)
  rw [b45, b43, if_neg (by decide), if_neg (by decide)]
  unfold Lib.decNat
  rw [List.isEmpty_cons, if_neg (by decide), h1]
  rfl
theorem atoiAll_dd (u : Nat) (h : u ≤ 1000000000) : Lib.atoiAll (Lib.decDigits u) = .ok (u : Int) := by
  have hl := dd_length_le 10 u (by omega)
  rw [Lib.atoiAll_short _ (by omega), atoi_dd]
  rfl
theorem itoa_nat (u : Nat) : Lib.itoa (u : Int) = Lib.decDigits u := by
  unfold Lib.itoa
  rw [if_neg (by omega), Int.toNat_natCast]
/-- What ReadDecimal answers. -/
def rdR (s : ByteArray) : Int × Bool :=
  match Lib.decFrom 0 s.data.toList with
  | some u => if u ≤ 1000000000 ∧ Lib.decDigits u = s.data.toList then ((u : Int), true) else (0, false)
  | none => (0, false)
theorem rdR_yes (s : ByteArray) (u : Nat) (h : u ≤ 1000000000) (e : Lib.decDigits u = s.data.toList) : rdR s = ((u : Int), true) := by
  unfold rdR
  rw [← e, decFrom_dd]
  exact if_pos ⟨h, rfl⟩
theorem rdR_no (s : ByteArray) (h : ∀ u, u ≤ 1000000000 → Lib.decDigits u ≠ s.data.toList) : rdR s = (0, false) := by
  unfold rdR
  cases Lib.decFrom 0 s.data.toList with
  | none => rfl
  | some u => exact if_neg (fun q => h u q.1 q.2)
theorem rdR_cases (s : ByteArray) : (∃ u, u ≤ 1000000000 ∧ Lib.decDigits u = s.data.toList ∧ rdR s = ((u : Int), true)) ∨ ((∀ u, u ≤ 1000000000 → Lib.decDigits u ≠ s.data.toList) ∧ rdR s = (0, false)) := by
  by_cases h : ∃ u, u ≤ 1000000000 ∧ Lib.decDigits u = s.data.toList
  · obtain ⟨u, h1, h2⟩ := h
    exact .inl ⟨u, h1, h2, rdR_yes s u h1 h2⟩
  · have h' : ∀ u, u ≤ 1000000000 → Lib.decDigits u ≠ s.data.toList := fun u h1 h2 => h ⟨u, h1, h2⟩
    exact .inr ⟨h', rdR_no s h'⟩
theorem spec_Decimal_loop (neg : Bool) : ∀ (j m : Nat) (acc : ByteArray), m < 10 ^ j → m ≤ 9223372036854775808 → (neg = false → m ≤ 9223372036854775807) → acc.size + j ≤ 100 →
    Ev (fun k => spec_Decimal.l0 k (if neg then -(m : Int) else (m : Int)) neg acc) ⟨((if neg then [45] else []) ++ (ddL m ++ acc.data.toList)).toArray⟩ := by
  intro j
  induction j with
  | zero =>
    intro m acc hm _ _ ha
    obtain rfl : m = 0 := by simpa using hm
    refine ev_end fun k => ?_
    rw [spec_Decimal.l0, if_pos (by cases neg <;> rfl)]
    cases neg with
    | true =>
      rw [if_pos rfl, if_pos (by omega)]
      exact congrArg some (ba_eq _ _ (by rw [data_append]; rfl))
    | false =>
      rw [if_neg (by decide)]
      exact congrArg some (ba_eq _ _ rfl)
  | succ j ih =>
    intro m acc hm h1 h2 ha
    by_cases c : m = 0
    · subst c
      refine ev_end fun k => ?_
      rw [spec_Decimal.l0, if_pos (by cases neg <;> rfl)]
      cases neg with
      | true =>
        rw [if_pos rfl, if_pos (by omega)]
        exact congrArg some (ba_eq _ _ (by rw [data_append]; rfl))
      | false =>
        rw [if_neg (by decide)]
        exact congrArg some (ba_eq _ _ rfl)
    · have hd : m / 10 < 10 ^ j := by rw [Nat.pow_succ] at hm; exact Nat.div_lt_of_lt_mul (by omega)
      have hs : (strOfNums [(48 + (m : Int) % 10) % 256]).size = 1 := by rw [strOfNums_size]; rfl
      have hi := ih (m / 10) (strOfNums [(48 + (m : Int) % 10) % 256] ++ acc) hd (by omega) (by intro h; have := h2 h; omega) (by rw [ByteArray.size_append, hs]; omega)
      rw [data_append, strOne, show ((48 + (m : Int) % 10) % 256).toNat = 48 + m % 10 by omega, ← List.append_assoc (ddL (m / 10)), ← ddL_step c] at hi
      refine ev_go hi fun k => ?_
      have fg : ∀ d : Int, 0 ≤ d → d < 10 → spec_l01Figure.f d = some ((48 + d) % 256) := fun d h0 h1 => by
        unfold spec_l01Figure.f
        rw [if_pos h1, w64 (by omega) (by omega)]
      cases neg with
      | true =>
        have e1 : Int.tmod (-(m : Int)) 10 = -((m : Int) % 10) := by rw [Int.neg_tmod, Int.tmod_eq_emod_of_nonneg (by omega)]
        have e2 : wrap64 (Int.tdiv (-(m : Int)) 10) = -((m / 10 : Nat) : Int) := by
          rw [Int.neg_tdiv, Int.tdiv_eq_ediv_of_nonneg (by omega), w64 (by omega) (by omega)]
          omega
        simp only [if_true]
        rw [spec_Decimal.l0, if_neg (by omega), e1, e2]
        by_cases c0 : -((m : Int) % 10) < 0
        · rw [if_pos c0, w64 (by omega) (by omega), Int.neg_neg, fg _ (by omega) (by omega), Option.bind_some, Option.bind_some, if_pos (by rw [hs]; omega)]
        · rw [if_neg c0, show -((m : Int) % 10) = (m : Int) % 10 by omega, fg _ (by omega) (by omega), Option.bind_some, Option.bind_some, if_pos (by rw [hs]; omega)]
      | false =>
        have h3 := h2 rfl
        have e1 : Int.tmod (m : Int) 10 = (m : Int) % 10 := Int.tmod_eq_emod_of_nonneg (by omega)
        have e2 : wrap64 (Int.tdiv (m : Int) 10) = ((m / 10 : Nat) : Int) := by
          rw [Int.tdiv_eq_ediv_of_nonneg (by omega), w64 (by omega) (by omega)]
          omega
        simp only [Bool.false_eq_true, if_false]
        rw [spec_Decimal.l0, if_neg (by omega), e1, e2, if_neg (by omega), fg _ (by omega) (by omega), Option.bind_some, Option.bind_some, if_pos (by rw [hs]; omega)]
theorem spec_Decimal_fev (n : Int) (h : -9223372036854775808 ≤ n ∧ n ≤ 9223372036854775807) : Ev (fun k => spec_Decimal.f k n) (itoaB n) := by
  by_cases c : n = 0
  · subst c
    refine ev_some fun k => ?_
    unfold spec_Decimal.f
    rw [if_pos rfl]
    refine congrArg some (ba_eq _ _ ?_)
    rw [show (0 : Int) = ((0 : Nat) : Int) by rfl, itoa_nat, dd_small (by omega)]
    rfl
  · by_cases g : n < 0
    · have := spec_Decimal_loop true 20 n.natAbs ⟨#[]⟩ (by omega) (by omega) (by intro h; cases h) (by decide)
      rw [if_pos rfl, show -((n.natAbs : Nat) : Int) = n by omega] at this
      have e : itoaB n = ⟨((if true = true then [45] else []) ++ (ddL n.natAbs ++ (⟨#[]⟩ : ByteArray).data.toList)).toArray⟩ := by
        unfold itoaB Lib.itoa ddL
        rw [if_pos g, if_pos rfl, if_neg (by omega)]
        simp
      rw [e]
      refine Ev.congr (fun k => ?_) this
      unfold spec_Decimal.f
      rw [if_neg c, decide_eq_true g]
    · have := spec_Decimal_loop false 20 n.toNat ⟨#[]⟩ (by omega) (by omega) (by omega) (by decide)
      rw [if_neg (by decide), show ((n.toNat : Nat) : Int) = n by omega] at this
      have e : itoaB n = ⟨((if false = true then [45] else []) ++ (ddL n.toNat ++ (⟨#[]⟩ : ByteArray).data.toList)).toArray⟩ := by
        unfold itoaB Lib.itoa ddL
        rw [if_neg g, if_neg (by decide), if_neg (by omega)]
        simp
      rw [e]
      refine Ev.congr (fun k => ?_) this
      unfold spec_Decimal.f
      rw [if_neg c, decide_eq_false g]
theorem dg_drop (s : ByteArray) (i : Nat) (h : i < s.size) : s.data.toList.drop i = UInt8.ofNat (bt s (i : Int)).toNat :: s.data.toList.drop (i + 1) := by
  have hl : i < s.data.toList.length := by rw [Array.length_toList]; exact h
  rw [List.drop_eq_getElem_cons hl]
  congr 1
  unfold bt
  rw [dif_pos (show (i : Int).toNat < s.size from h), Int.toNat_natCast, UInt8.ofNat_toNat]
  rfl
theorem spec_ReadDecimal_loop (s : ByteArray) (hs : s.size ≤ 10) : ∀ (d i n : Nat), i + d = s.size → n < 10 ^ i → (∀ u, Lib.decFrom n (s.data.toList.drop i) = some u ↔ Lib.decFrom 0 s.data.toList = some u) →
    Ev (fun k => spec_ReadDecimal.l0 k s (n : Int) (i : Int)) (rdR s) := by
  intro d
  induction d with
  | zero =>
    intro i n hi hn hu
    have e : Lib.decFrom 0 s.data.toList = some n := by
      refine (hu n).1 ?_
      rw [List.drop_eq_nil_of_le (by rw [Array.length_toList]; have : s.data.size = s.size := rfl; omega)]
      rfl
    have hp : n < 10 ^ 10 := Nat.lt_of_lt_of_le hn (Nat.pow_le_pow_right (by decide) (by omega))
    have hr : rdR s = if n ≤ 1000000000 ∧ Lib.decDigits n = s.data.toList then ((n : Int), true) else (0, false) := by
      unfold rdR
      rw [e]
    rw [hr]
    by_cases c : n ≤ 1000000000
    · obtain ⟨K, eK⟩ := spec_Decimal_fev (n : Int) (by omega)
      dsimp only at eK
      refine ev_succ ⟨K, fun k hk => ?_⟩
      rw [spec_ReadDecimal.l0, if_neg (by omega), if_neg (by omega), eK k hk, Option.bind_some, itoaB_toList, itoa_nat, Lib.toList_data]
      by_cases c2 : Lib.decDigits n = s.data.toList
      · rw [if_pos c2, if_pos ⟨c, c2⟩]
      · rw [if_neg c2, if_neg (fun h => c2 h.2)]
    · refine ev_end fun k => ?_
      rw [spec_ReadDecimal.l0, if_neg (by omega), if_pos (by omega), if_neg (fun h => c h.1)]
  | succ d ih =>
    intro i n hi hn hu
    have hb := bt_lo s (i : Int)
    have hb' := bt_hi s (i : Int)
    have hd := dg_drop s i (by omega)
    have hp : n < 10 ^ 9 := Nat.lt_of_lt_of_le hn (Nat.pow_le_pow_right (by decide) (by omega))
    have bad : ¬ (48 ≤ bt s (i : Int) ∧ bt s (i : Int) ≤ 57) → rdR s = (0, false) := by
      intro hx
      refine rdR_no s fun u h1 h2 => ?_
      have h3 := decFrom_dd u
      rw [h2] at h3
      have h4 := (hu u).2 h3
      rw [hd] at h4
      unfold Lib.decFrom at h4
      have e : Lib.digitVal (UInt8.ofNat (bt s (i : Int)).toNat) = none := by
        unfold Lib.digitVal
        rw [UInt8.toNat_ofNat', if_neg (by omega)]
      rw [e] at h4
      cases h4
    by_cases c1 : bt s (i : Int) < 48
    · rw [bad (by omega)]
      refine ev_end fun k => ?_
      rw [spec_ReadDecimal.l0, if_pos (by omega), if_pos (by omega), if_pos c1]
    · by_cases c2 : bt s (i : Int) > 57
      · rw [bad (by omega)]
        refine ev_end fun k => ?_
        rw [spec_ReadDecimal.l0, if_pos (by omega), if_pos (by omega), if_neg c1, if_pos c2]
      · obtain ⟨e, he⟩ : ∃ e : Nat, bt s (i : Int) = 48 + (e : Int) := ⟨(bt s (i : Int)).toNat - 48, by omega⟩
        have hv : Lib.digitVal (UInt8.ofNat (bt s (i : Int)).toNat) = some e := by
          rw [show (bt s (i : Int)).toNat = 48 + e by omega]
          exact digitVal_dig e (by omega)
        have hi' := ih (i + 1) (n * 10 + e) (by omega) (by rw [Nat.pow_succ]; omega) (fun u => by
          rw [← hu u, hd]
          conv => rhs; unfold Lib.decFrom
          rw [hv])
        refine ev_go hi' fun k => ?_
        rw [spec_ReadDecimal.l0, if_pos (by omega), if_pos (by omega), if_neg c1, if_neg c2, he, w64 (n := 10 * (n : Int)) (by omega) (by omega), w64 (n := 48 + (e : Int)) (by omega) (by omega), w64 (n := 10 * (n : Int) + (48 + (e : Int))) (by omega) (by omega), w64 (n := 10 * (n : Int) + (48 + (e : Int)) - 48) (by omega) (by omega), w64 (n := (i : Int) + 1) (by omega) (by omega), show 10 * (n : Int) + (48 + (e : Int)) - 48 = ((n * 10 + e : Nat) : Int) by omega]
        rfl
theorem spec_ReadDecimal_fev (s : ByteArray) : Ev (fun k => spec_ReadDecimal.f k s) (rdR s) := by
  by_cases c : (s.size : Int) > 10
  · rw [rdR_no s (fun u h1 h2 => by
      have hl := dd_length_le 10 u (by omega)
      rw [h2, Array.length_toList] at hl
      have : s.data.size = s.size := rfl
      omega)]
    refine ev_some fun k => ?_
    unfold spec_ReadDecimal.f
    rw [if_pos c]
  · refine Ev.congr (fun k => ?_) (spec_ReadDecimal_loop s (by omega) s.size 0 0 (by omega) (by decide) (fun u => Iff.rfl))
    unfold spec_ReadDecimal.f
    rw [if_neg c]
    rfl
theorem impl_Decimal_is (n : Int) (h : -9223372036854775808 ≤ n ∧ n ≤ 9223372036854775807) : impl_Decimal.f n = some (itoaB n) := by
  unfold impl_Decimal.f
  rw [if_pos h]
  rfl
theorem impl_in_eq (x a b : Int) : impl_in.f x a b = some (decide (a ≤ x ∧ x ≤ b)) := in_dec x a b
theorem impl_ReadDecimal_is (s : ByteArray) (hs : s.size ≤ 281474976710656) : impl_ReadDecimal.f s = some (rdR s) := by
  unfold impl_ReadDecimal.f
  rw [if_pos hs]
  rcases rdR_cases s with ⟨u, h1, h2, h3⟩ | ⟨h1, h2⟩
  · rw [h3, ← h2, atoiAll_dd u h1]
    dsimp only
    rw [if_pos ⟨by omega, by omega, itoa_nat u⟩]
  · rw [h2]
    rcases Lib.atoiAll s.data.toList with v | _ | _
    · dsimp only
      rw [if_neg]
      rintro ⟨p, q, e⟩
      obtain ⟨u, rfl⟩ := Int.eq_ofNat_of_zero_le p
      exact h1 u (by omega) ((itoa_nat u).symm.trans e)
    · rfl
    · rfl
end Go.Proofs.YteokilffbcbllaaDoor.VFnExactReadDecimal
namespace Go.Proofs.YteokilffbcbllaaDoor.Pure
open Go.Proofs.YteokilffbcbllaaDoor.VFnExactReadDecimal
set_option linter.unusedVariables false
set_option linter.unusedSimpArgs false
open Go Go.RowKit Go.Proofs.YteokilffbcbllaaDoorW.PrintWords Go.Proofs.YteokilffbcbllaaDoorW.PrintLast Go.Proofs.YteokilffbcbllaaDoorW.PrintMore
theorem FnExactReadDecimal : laws_FnExactReadDecimal.Pure := by
  intro s hs
  obtain ⟨K, e⟩ := spec_ReadDecimal_fev s
  refine ⟨K, ?_⟩
  unfold laws_FnExactReadDecimal.f
  by_cases c : (s.size : Int) > 1048576
  · rw [if_pos c]
  · have e' := e K (Nat.le_refl _)
    dsimp only at e'
    rw [if_neg c, e', Option.bind_some, impl_ReadDecimal_is s (by omega), Option.bind_some]
    simp
end Go.Proofs.YteokilffbcbllaaDoor.Pure
