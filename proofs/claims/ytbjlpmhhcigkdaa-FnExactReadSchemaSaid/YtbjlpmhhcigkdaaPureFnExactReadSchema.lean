/- The printed form of FnExactReadSchema answers true at every input that its bounds let in; no other conditions. -/
import Derived.Test.YtbjlpmhhcigkdaaVFnExactReadSchemax7
import Derived.Test.YtbjlpmhhcigkdaaG
import Derived.Lib.Bytealg
namespace Go.Proofs.Ytbjlpmhhcigkdaa.VFnExactReadSchema
set_option linter.unusedVariables false
set_option linter.unusedSimpArgs false
open Go Go.RowKit Go.Proofs.YtbjlpmhhcigkdaaW.PrintWords Go.Proofs.YtbjlpmhhcigkdaaW.PrintLast Go.Proofs.YtbjlpmhhcigkdaaW.PrintMore
theorem w64 {n : Int} (h : -9223372036854775808 ≤ n) (h' : n ≤ 9223372036854775807) : wrap64 n = n := by
  unfold wrap64; omega
theorem ev_some {α : Type} {g : Nat → Option α} {r : α} (h : ∀ k, g k = some r) : Ev g r := ⟨0, fun k _ => h k⟩
theorem ev_succ {α : Type} {g : Nat → Option α} {r : α} (h : ∃ K, ∀ k, K ≤ k → g (k + 1) = some r) : Ev g r := by
  obtain ⟨K, h⟩ := h
  refine ⟨K + 1, fun k hk => ?_⟩
  obtain ⟨m, rfl⟩ : ∃ m, k = m + 1 := ⟨k - 1, by omega⟩
  exact h m (by omega)
/-- One round that goes on. -/
theorem ev_go {α : Type} {g f : Nat → Option α} {r : α} (hf : Ev f r) (h : ∀ k, g (k + 1) = f k) : Ev g r := Ev.step h hf
/-- One round that ends. -/
theorem ev_end {α : Type} {g : Nat → Option α} {r : α} (h : ∀ k, g (k + 1) = some r) : Ev g r := ev_succ ⟨0, fun k _ => h k⟩
/-- One call, then the rest. -/
theorem ev_call {α β : Type} {g : Nat → Option α} {f : Nat → Option β} {c : Nat → β → Option α} {b : β} {r : α} (hf : Ev f b) (hc : Ev (fun k => c k b) r) (h : ∀ k, g k = (f k).bind (c k)) : Ev g r :=
  Ev.congr h (Ev.bind hf hc)
theorem bt_lo (s : ByteArray) (i : Int) : 0 ≤ bt s i := (bt_range s i).1
theorem bt_hi (s : ByteArray) (i : Int) : bt s i ≤ 255 := (bt_range s i).2
theorem bytesOf_drop (s : ByteArray) (i : Nat) (h : i < s.size) : (bytesOf s).drop i = bt s (i : Int) :: (bytesOf s).drop (i + 1) := by
  have hl : i < (bytesOf s).length := by rw [bytesOf_length]; exact h
  rw [List.drop_eq_getElem_cons hl]
  congr 1
  rw [← rd_bytesOf s (i : Int)]
  unfold rd
  rw [Int.toNat_natCast]
  simp [List.getD, hl]
theorem bytesOf_range (s : ByteArray) : ∀ x ∈ bytesOf s, 0 ≤ x ∧ x ≤ 255 := by
  intro x hx
  unfold bytesOf at hx
  obtain ⟨b, _, rfl⟩ := List.mem_map.1 hx
  have := b.toNat_lt
  omega
theorem toList_inj {s t : ByteArray} (h : s.toList = t.toList) : s = t := by
  rw [ByteArray.toList_eq, ByteArray.toList_eq] at h
  exact ByteArray.ext (Array.toList_inj.1 h)
theorem strOfNums_bytesOf (s : ByteArray) : strOfNums (bytesOf s) = s := by
  apply ByteArray.ext
  apply Array.toList_inj.1
  rw [strOfNums_data]
  unfold bytesOf
  rw [List.map_map]
  conv => rhs; rw [← List.map_id s.data.toList]
  apply List.map_congr_left
  intro b _
  simp
theorem bytesOf_strOfNums (xs : List Int) (h : ∀ x ∈ xs, 0 ≤ x ∧ x ≤ 255) : bytesOf (strOfNums xs) = xs := by
  unfold bytesOf
  rw [strOfNums_data, List.map_map]
  conv => rhs; rw [← List.map_id xs]
  apply List.map_congr_left
  intro b hb
  have := h b hb
  simp only [Function.comp, UInt8.toNat_ofNat', id]
  omega
theorem bytesOf_extract (s : ByteArray) (a b : Nat) : bytesOf (s.extract a b) = ((bytesOf s).drop a).take (b - a) := by
  unfold bytesOf
  rw [ByteArray.data_extract, Array.toList_extract, List.extract_eq_take_drop, List.map_take, List.map_drop]
theorem bytesOf_append (s t : ByteArray) : bytesOf (s ++ t) = bytesOf s ++ bytesOf t := by
  unfold bytesOf
  rw [ByteArray.data_append, Array.toList_append, List.map_append]
theorem bytesOf_inj {s t : ByteArray} (h : bytesOf s = bytesOf t) : s = t := by
  rw [← strOfNums_bytesOf s, ← strOfNums_bytesOf t, h]
theorem toList_eq_iff (s t : ByteArray) : s.toList = t.toList ↔ s = t := ⟨toList_inj, fun h => by rw [h]⟩
theorem strOfNums_eq_iff (xs : List Int) (t : ByteArray) (h : ∀ x ∈ xs, 0 ≤ x ∧ x ≤ 255) : strOfNums xs = t ↔ xs = bytesOf t :=
  ⟨fun e => by rw [← e, bytesOf_strOfNums xs h], fun e => by rw [e, strOfNums_bytesOf]⟩
theorem bytesOf_length_drop (s : ByteArray) (i : Nat) : ((bytesOf s).drop i).length = s.size - i := by rw [List.length_drop, bytesOf_length]
def varL (n : Nat) : List Int := if n > 127 then ((n : Int) % 128 + 128) :: varL (n / 128) else [(n : Int)]
termination_by n
decreasing_by omega
theorem varL_big {n : Nat} (h : n > 127) : varL n = ((n : Int) % 128 + 128) :: varL (n / 128) := by rw [varL, if_pos h]
theorem varL_small {n : Nat} (h : ¬ n > 127) : varL n = [(n : Int)] := by rw [varL, if_neg h]
theorem varL_range (n : Nat) : ∀ x ∈ varL n, 0 ≤ x ∧ x ≤ 255 := by
  induction n using Nat.strongRecOn with
  | ind n ih =>
    intro x hx
    by_cases h : n > 127
    · rw [varL_big h] at hx
      rcases List.mem_cons.1 hx with rfl | hx
      · omega
      · exact ih _ (by omega) x hx
    · rw [varL_small h] at hx
      have := List.mem_singleton.1 hx
      omega
theorem varL_length_le (j : Nat) : ∀ n : Nat, n < 128 ^ j → (varL n).length ≤ max j 1 := by
  induction j with
  | zero => intro n hn; simp at hn; subst hn; rw [varL_small (by omega)]; simp
  | succ j ih =>
    intro n hn
    by_cases h : n > 127
    · rw [varL_big h]
      have : n / 128 < 128 ^ j := by rw [Nat.pow_succ] at hn; exact Nat.div_lt_of_lt_mul (by omega)
      have := ih _ this
      cases j with
      | zero => omega
      | succ j => simp only [List.length_cons]; omega
    · rw [varL_small h, List.length_singleton]; omega
def varB (n : Nat) : ByteArray := strOfNums (varL n)
theorem varB_size (n : Nat) : (varB n).size = (varL n).length := strOfNums_size _
theorem varB_size_le (n : Nat) (h : n ≤ 9223372036854775807) : (varB n).size ≤ 10 := by
  rw [varB_size]
  have := varL_length_le 10 n (by omega)
  omega
theorem i64_and127 (x : Int) (h₀ : 0 ≤ x) (h₁ : x ≤ 9223372036854775807) : Go.bits .and .i64 x 127 = x % 128 :=
  Go.bits_mask .i64 63 (by decide) (fun n a b => by rw [IntKind.wrap_i64]; omega) 7 (by decide) x h₀ (by omega)
theorem i64_or_join (i : Nat) (x y : Int) (hx₀ : 0 ≤ x) (hx : x % 2 ^ i = 0) (hx₁ : x ≤ 9223372036854775807) (hy₀ : 0 ≤ y) (hy : y < 2 ^ i) (hy₁ : y ≤ 9223372036854775807) : Go.bits .or .i64 x y = x + y :=
  Go.bits_join .i64 63 (by decide) (fun n a b => by rw [IntKind.wrap_i64]; omega) i x y hx₀ hx (by omega) hy₀ hy (by omega)
theorem i64_or_comm (x y : Int) : Go.bits .or .i64 x y = Go.bits .or .i64 y x := by
  unfold Go.bits
  simp only [BitVec.or_comm]
def shortB (s : ByteArray) : ByteArray := varB s.size ++ s
def decL : Nat → List Int → Option (Int × Nat)
  | 0, _ => none
  | _ + 1, [] => none
  | f + 1, b :: t => if b < 128 then some (b, 1) else (decL f t).map fun p => (b - 128 + 128 * p.1, p.2 + 1)
def rvL (at_ : Int) (L : List Int) : Int × Int × Bool :=
  match decL 5 L with
  | none => (0, 0, false)
  | some p => if p.1 ≤ 1000000000 ∧ varL p.1.toNat = L.take p.2 then (p.1, at_ + p.2, true) else (0, 0, false)
def rvR (s : ByteArray) (a : Int) : Int × Int × Bool :=
  if 0 ≤ a ∧ a ≤ (s.size : Int) then rvL a ((bytesOf s).drop a.toNat) else (0, 0, false)
theorem decL_pos (f : Nat) : ∀ (l : List Int) (m : Int) (u : Nat), (∀ x ∈ l, 0 ≤ x ∧ x ≤ 255) → decL f l = some (m, u) → 0 ≤ m ∧ m < 128 ^ f ∧ 1 ≤ u ∧ u ≤ f ∧ u ≤ l.length := by
  induction f with
  | zero => intro l m u _ h; simp [decL] at h
  | succ f ih =>
    intro l m u hr h
    cases l with
    | nil => simp [decL] at h
    | cons b t =>
      have hb := hr b (by simp)
      simp only [decL] at h
      have hp : (1 : Int) ≤ 128 ^ f := by have := Nat.one_le_two_pow (n := 7 * f); rw [Nat.pow_mul] at this; exact_mod_cast this
      by_cases c : b < 128
      · rw [if_pos c] at h
        simp only [Option.some.injEq, Prod.mk.injEq] at h
        obtain ⟨rfl, rfl⟩ := h
        refine ⟨hb.1, ?_, by omega, by omega, by simp⟩
        rw [Int.pow_succ]; omega
      · rw [if_neg c] at h
        obtain ⟨⟨m', u'⟩, h1, h2⟩ := Option.map_eq_some_iff.1 h
        simp only [Prod.mk.injEq] at h2
        obtain ⟨rfl, rfl⟩ := h2
        obtain ⟨g1, g2, g3, g4, g5⟩ := ih t m' u' (fun x hx => hr x (by simp [hx])) h1
        refine ⟨by omega, ?_, by omega, by omega, by simp only [List.length_cons]; omega⟩
        rw [Int.pow_succ]; omega
theorem decL_zero (f : Nat) : ∀ (l : List Int) (m : Int) (u : Nat), (∀ x ∈ l, 0 ≤ x ∧ x ≤ 255) → decL f l = some (m, u) → m = 0 → l.getD (u - 1) 0 = 0 := by
  induction f with
  | zero => intro l m u _ h; simp [decL] at h
  | succ f ih =>
    intro l m u hr h hm
    cases l with
    | nil => simp
    | cons b t =>
      have hb := hr b (by simp)
      simp only [decL] at h
      by_cases c : b < 128
      · rw [if_pos c] at h
        simp only [Option.some.injEq, Prod.mk.injEq] at h
        obtain ⟨rfl, rfl⟩ := h
        simpa using hm
      · rw [if_neg c] at h
        obtain ⟨⟨m', u'⟩, h1, h2⟩ := Option.map_eq_some_iff.1 h
        simp only [Prod.mk.injEq] at h2
        obtain ⟨rfl, rfl⟩ := h2
        have hr' : ∀ x ∈ t, 0 ≤ x ∧ x ≤ 255 := fun x hx => hr x (by simp [hx])
        obtain ⟨g1, g2, g3, g4, g5⟩ := decL_pos f t m' u' hr' h1
        have := ih t m' u' hr' h1 (by omega)
        obtain ⟨v, rfl⟩ : ∃ v, u' = v + 1 := ⟨u' - 1, by omega⟩
        simpa using this
theorem decL_canon (f : Nat) : ∀ (l : List Int) (m : Int) (u : Nat), (∀ x ∈ l, 0 ≤ x ∧ x ≤ 255) → decL f l = some (m, u) → (varL m.toNat = l.take u ↔ ¬ (u > 1 ∧ l.getD (u - 1) 0 = 0)) := by
  induction f with
  | zero => intro l m u _ h; simp [decL] at h
  | succ f ih =>
    intro l m u hr h
    cases l with
    | nil => simp [decL] at h
    | cons b t =>
      have hb := hr b (by simp)
      simp only [decL] at h
      by_cases c : b < 128
      · rw [if_pos c] at h
        simp only [Option.some.injEq, Prod.mk.injEq] at h
        obtain ⟨rfl, rfl⟩ := h
        rw [varL_small (by omega)]
        simp
        omega
      · rw [if_neg c] at h
        obtain ⟨⟨m', u'⟩, h1, h2⟩ := Option.map_eq_some_iff.1 h
        simp only [Prod.mk.injEq] at h2
        obtain ⟨rfl, rfl⟩ := h2
        have hr' : ∀ x ∈ t, 0 ≤ x ∧ x ≤ 255 := fun x hx => hr x (by simp [hx])
        obtain ⟨g1, g2, g3, g4, g5⟩ := decL_pos f t m' u' hr' h1
        have hi := ih t m' u' hr' h1
        have hz := decL_zero f t m' u' hr' h1
        obtain ⟨v, rfl⟩ : ∃ v, u' = v + 1 := ⟨u' - 1, by omega⟩
        have e0 : (b :: t).getD (v + 1 + 1 - 1) 0 = t.getD v 0 := by simp
        rw [e0, List.take_succ_cons]
        simp only [Nat.add_sub_cancel] at hi hz
        by_cases z : m' = 0
        · have := hz z
          rw [varL_small (by omega)]
          constructor
          · intro h
            have := (List.cons.inj h).1
            omega
          · intro h
            exact absurd ⟨by omega, this⟩ h
        · rw [varL_big (by omega), show (b - 128 + 128 * m').toNat / 128 = m'.toNat by omega, show (((b - 128 + 128 * m').toNat : Int) % 128 + 128) = b by omega]
          rw [List.cons_inj_right, hi]
          by_cases hv : v = 0
          · subst hv
            have : t.getD 0 0 ≠ 0 := by
              cases f with
              | zero => simp [decL] at h1
              | succ f =>
                cases t with
                | nil => simp [decL] at h1
                | cons y t =>
                  simp only [decL] at h1
                  by_cases c2 : y < 128
                  · rw [if_pos c2] at h1
                    simp only [Option.some.injEq, Prod.mk.injEq] at h1
                    simp; omega
                  · simp; omega
            constructor
            · intro _ h; exact this h.2
            · intro _ h; omega
          · constructor
            · intro h ⟨_, h2⟩; exact h ⟨by omega, h2⟩
            · intro h ⟨_, h2⟩; exact h ⟨by omega, h2⟩
theorem decL_varL (f : Nat) : ∀ (n : Nat) (t : List Int), n < 128 ^ f → 0 < f → decL f (varL n ++ t) = some ((n : Int), (varL n).length) := by
  induction f with
  | zero => intro n t _ h; omega
  | succ f ih =>
    intro n t hn _
    by_cases c : n > 127
    · rw [varL_big c, List.cons_append]
      simp only [decL]
      rw [if_neg (by omega)]
      have h1 : n / 128 < 128 ^ f := by rw [Nat.pow_succ] at hn; exact Nat.div_lt_of_lt_mul (by omega)
      cases f with
      | zero => simp at hn; omega
      | succ f =>
        rw [ih (n / 128) t h1 (by omega)]
        simp only [Option.map_some, List.length_cons, Option.some.injEq, Prod.mk.injEq, and_true]
        omega
    · rw [varL_small c]
      simp only [List.cons_append, List.nil_append, decL]
      rw [if_pos (by omega)]
      simp
theorem decL_step (b : Int) (t : List Int) (f : Nat) : decL (f + 1) (b :: t) = if b < 128 then some (b, 1) else (decL f t).map fun p => (b - 128 + 128 * p.1, p.2 + 1) := rfl
theorem decL_nil (f : Nat) : decL f [] = none := by cases f <;> rfl
/-- What is left to read behind j bytes that go on. -/
def decAt (L : List Int) (j : Nat) (n : Int) : Prop := decL 5 L = (decL (5 - j) (L.drop j)).map fun p => (n + 128 ^ j * p.1, p.2 + j)
theorem decAt_zero (L : List Int) : decAt L 0 0 := by
  unfold decAt
  simp
theorem decAt_end {L : List Int} {j : Nat} {n b : Int} {t : List Int} (h : decAt L j n) (hj : j < 5) (ht : L.drop j = b :: t) (hb : b < 128) : decL 5 L = some (n + 128 ^ j * b, 1 + j) := by
  unfold decAt at h
  rw [h, ht, show 5 - j = (4 - j) + 1 by omega, decL_step, if_pos hb]
  rfl
theorem decAt_next {L : List Int} {j : Nat} {n b : Int} {t : List Int} (h : decAt L j n) (hj : j < 5) (ht : L.drop j = b :: t) (hb : ¬ b < 128) : decAt L (j + 1) (n + 128 ^ j * (b - 128)) := by
  unfold decAt at h ⊢
  have hd : L.drop (j + 1) = t := by rw [← List.drop_drop, ht]; simp
  rw [h, ht, hd, show 5 - j = (4 - j) + 1 by omega, decL_step, if_neg hb, Option.map_map, show 5 - (j + 1) = 4 - j by omega]
  congr 1
  funext p
  simp only [Function.comp, Prod.mk.injEq]
  refine ⟨?_, by omega⟩
  rw [Int.pow_succ, Int.mul_add, Int.mul_assoc, Int.add_assoc]
theorem decAt_short {L : List Int} {j : Nat} {n : Int} (h : decAt L j n) (ht : L.drop j = []) : decL 5 L = none := by
  unfold decAt at h
  rw [h, ht, decL_nil]
  rfl
theorem decAt_over {L : List Int} {n : Int} (h : decAt L 5 n) : decL 5 L = none := by
  unfold decAt at h
  rw [h]
  rfl
theorem rvL_none {a : Int} {L : List Int} (h : decL 5 L = none) : rvL a L = (0, 0, false) := by unfold rvL; rw [h]
theorem rvL_good {a : Int} {L : List Int} {n : Int} {u : Nat} (h : decL 5 L = some (n, u)) (h1 : n ≤ 1000000000) (h2 : varL n.toNat = L.take u) : rvL a L = (n, a + u, true) := by
  unfold rvL; rw [h]; simp only; rw [if_pos ⟨h1, h2⟩]
theorem rvL_bad {a : Int} {L : List Int} {n : Int} {u : Nat} (h : decL 5 L = some (n, u)) (h1 : ¬ (n ≤ 1000000000 ∧ varL n.toNat = L.take u)) : rvL a L = (0, 0, false) := by
  unfold rvL; rw [h]; simp only; rw [if_neg h1]
theorem rvL_tells {a : Int} {L : List Int} {n nx : Int} (hr : ∀ x ∈ L, 0 ≤ x ∧ x ≤ 255) (h : rvL a L = (n, nx, true)) : ∃ u : Nat, 0 ≤ n ∧ n ≤ 1000000000 ∧ varL n.toNat = L.take u ∧ nx = a + u ∧ 1 ≤ u ∧ u ≤ L.length ∧ u ≤ 5 := by
  unfold rvL at h
  cases h5 : decL 5 L with
  | none => rw [h5] at h; simp at h
  | some p =>
    obtain ⟨m, u⟩ := p
    rw [h5] at h
    simp only at h
    by_cases c : m ≤ 1000000000 ∧ varL m.toNat = L.take u
    · rw [if_pos c] at h
      simp only [Prod.mk.injEq, and_true] at h
      obtain ⟨rfl, rfl⟩ := h
      obtain ⟨g1, g2, g3, g4, g5⟩ := decL_pos 5 L m u hr h5
      exact ⟨u, g1, c.1, c.2, rfl, g3, g5, g4⟩
    · rw [if_neg c] at h
      simp at h
theorem rvL_reads (a : Int) (n : Nat) (t : List Int) (h : n ≤ 1000000000) : rvL a (varL n ++ t) = ((n : Int), a + (varL n).length, true) :=
  rvL_good (decL_varL 5 n t (by omega) (by omega)) (by omega) (by simp)
theorem pow128 (j : Nat) (hj : j < 5) : (128 : Int) ^ j = 1 ∧ j = 0 ∨ (128 : Int) ^ j = 128 ∧ j = 1 ∨ (128 : Int) ^ j = 16384 ∧ j = 2 ∨ (128 : Int) ^ j = 2097152 ∧ j = 3 ∨ (128 : Int) ^ j = 268435456 ∧ j = 4 := by
  have : j = 0 ∨ j = 1 ∨ j = 2 ∨ j = 3 ∨ j = 4 := by omega
  rcases this with rfl | rfl | rfl | rfl | rfl <;> simp
theorem rv_mul (j : Nat) (hj : j < 5) (n b : Int) (hn0 : 0 ≤ n) (hn : n < 128 ^ j) (hb0 : 0 ≤ b) (hb : b ≤ 255) :
    wrap64 (n + wrap64 (Int.tmod (wrap64 b) 128 * 128 ^ j)) = n + 128 ^ j * (b % 128) ∧ 0 ≤ n + 128 ^ j * (b % 128) ∧ n + 128 ^ j * (b % 128) < 128 ^ (j + 1) ∧ n + 128 ^ j * (b % 128) ≤ 34359738368 := by
  rw [w64 (n := b) (by omega) (by omega), Int.tmod_eq_emod_of_nonneg hb0, Int.pow_succ]
  rcases pow128 j hj with ⟨h, _⟩ | ⟨h, _⟩ | ⟨h, _⟩ | ⟨h, _⟩ | ⟨h, _⟩ <;> (rw [h] at hn ⊢; rw [w64 (n := b % 128 * _) (by omega) (by omega), w64 (by omega) (by omega)]; omega)
theorem rv_or (j : Nat) (hj : j < 5) (n b : Int) (hn0 : 0 ≤ n) (hn : n < 128 ^ j) (hb0 : 0 ≤ b) (hb : b ≤ 255) :
    Go.bits .or .i64 n (shl .i64 (Go.bits .and .i64 (wrap64 b) 127) (wrap64 (7 * (j : Int)))) = n + 128 ^ j * (b % 128) := by
  rw [w64 (n := b) (by omega) (by omega), w64 (n := 7 * (j : Int)) (by omega) (by omega), i64_and127 b hb0 (by omega)]
  unfold shl
  rw [IntKind.wrap_i64]
  have e : min (7 * (j : Int)).toNat IntKind.i64.bits = 7 * j := by
    have : IntKind.i64.bits = 64 := rfl
    omega
  rw [e, i64_or_comm]
  have hj' : j = 0 ∨ j = 1 ∨ j = 2 ∨ j = 3 ∨ j = 4 := by omega
  rcases hj' with rfl | rfl | rfl | rfl | rfl
  · simp only [Nat.mul_zero, Int.pow_zero, Int.mul_one, Int.one_mul] at hn ⊢
    rw [show n = 0 by omega, show (b % 128 + 9223372036854775808) % 18446744073709551616 - 9223372036854775808 = b % 128 by omega, i64_or_join 0 (b % 128) 0 (by omega) (by simp) (by omega) (by omega) (by omega) (by omega)]
    omega
  · rw [show (128 : Int) ^ 1 = 128 by decide] at hn ⊢
    rw [show (b % 128 * 2 ^ (7 * 1) + 9223372036854775808) % 18446744073709551616 - 9223372036854775808 = 128 * (b % 128) by omega, i64_or_join 7 (128 * (b % 128)) n (by omega) (by omega) (by omega) (by omega) (by omega) (by omega)]
    omega
  · rw [show (128 : Int) ^ 2 = 16384 by decide] at hn ⊢
    rw [show (b % 128 * 2 ^ (7 * 2) + 9223372036854775808) % 18446744073709551616 - 9223372036854775808 = 16384 * (b % 128) by omega, i64_or_join 14 (16384 * (b % 128)) n (by omega) (by omega) (by omega) (by omega) (by omega) (by omega)]
    omega
  · rw [show (128 : Int) ^ 3 = 2097152 by decide] at hn ⊢
    rw [show (b % 128 * 2 ^ (7 * 3) + 9223372036854775808) % 18446744073709551616 - 9223372036854775808 = 2097152 * (b % 128) by omega, i64_or_join 21 (2097152 * (b % 128)) n (by omega) (by omega) (by omega) (by omega) (by omega) (by omega)]
    omega
  · rw [show (128 : Int) ^ 4 = 268435456 by decide] at hn ⊢
    rw [show (b % 128 * 2 ^ (7 * 4) + 9223372036854775808) % 18446744073709551616 - 9223372036854775808 = 268435456 * (b % 128) by omega, i64_or_join 28 (268435456 * (b % 128)) n (by omega) (by omega) (by omega) (by omega) (by omega) (by omega)]
    omega
theorem rvR_tells (s : ByteArray) (a n nx : Int) (h : rvR s a = (n, nx, true)) : ∃ u : Nat, 0 ≤ a ∧ 0 ≤ n ∧ n ≤ 1000000000 ∧ nx = a + u ∧ 1 ≤ u ∧ u ≤ 5 ∧ nx ≤ (s.size : Int) ∧ varL n.toNat = ((bytesOf s).drop a.toNat).take u := by
  unfold rvR at h
  by_cases c : 0 ≤ a ∧ a ≤ (s.size : Int)
  · rw [if_pos c] at h
    obtain ⟨u, h1, h2, h3, h4, h5, h6, h7⟩ := rvL_tells (fun x hx => bytesOf_range s x (List.mem_of_mem_drop hx)) h
    rw [bytesOf_length_drop] at h6
    exact ⟨u, c.1, h1, h2, h4, h5, h7, by omega, h3⟩
  · rw [if_neg c] at h
    simp at h
def rsR (s : ByteArray) (a : Int) : ByteArray × Int × Bool :=
  if (rvR s a).2.2 = true ∧ (rvR s a).1 ≤ 20000 ∧ (rvR s a).1 ≤ (s.size : Int) - (rvR s a).2.1 then (s.extract (rvR s a).2.1.toNat ((rvR s a).2.1 + (rvR s a).1).toNat, (rvR s a).2.1 + (rvR s a).1, true) else (⟨#[]⟩, 0, false)
section
variable {α β : Type}
theorem drop_rdOf (d : α) (xs : List α) (i : Nat) (h : i < xs.length) : xs.drop i = rdOf d xs (i : Int) :: xs.drop (i + 1) := by
  rw [List.drop_eq_getElem_cons h]
  congr 1
  unfold rdOf
  rw [Int.toNat_natCast]
  simp [List.getD, h]
theorem rdOf_get (d : α) (xs : List α) (i : Nat) (h : i < xs.length) : rdOf d xs (i : Int) = xs[i] := by
  unfold rdOf
  rw [Int.toNat_natCast]
  simp [List.getD, h]
theorem rdOf_mem (d : α) (xs : List α) (i : Nat) (h : i < xs.length) : rdOf d xs (i : Int) ∈ xs := by
  rw [rdOf_get d xs i h]; exact List.getElem_mem h
theorem set_mid (pre t : List α) (x v : α) (i : Nat) (h : pre.length = i) : (pre ++ x :: t).set i v = pre ++ v :: t := by
  subst h
  rw [List.set_append_right _ _ (Nat.le_refl _)]
  simp
theorem rdOf_mid (d : α) (pre t : List α) (x : α) (i : Nat) (h : pre.length = i) : rdOf d (pre ++ x :: t) (i : Int) = x := by
  subst h
  unfold rdOf
  rw [Int.toNat_natCast]
  simp [List.getD]
end
def mtB (n : Nat) (acc : ByteArray) : ByteArray := if n = 0 then (⟨#[109]⟩ : ByteArray) ++ acc else mtB (n / 10) (strOfNums [(48 + (n : Int) % 10) % 256] ++ acc)
termination_by n
decreasing_by omega
def mtR (k : Int) : ByteArray := if k ≤ 0 then ⟨#[109, 48]⟩ else mtB k.toNat ⟨#[]⟩
theorem mtB_zero (acc : ByteArray) : mtB 0 acc = (⟨#[109]⟩ : ByteArray) ++ acc := by rw [mtB, if_pos rfl]
theorem mtB_pos {n : Nat} (h : n ≠ 0) (acc : ByteArray) : mtB n acc = mtB (n / 10) (strOfNums [(48 + (n : Int) % 10) % 256] ++ acc) := by rw [mtB, if_neg h]
/-- Each key ends, with a figure nought behind it, ahead of all later ones. -/
def Asc (l : List ByteArray) : Prop := ∀ i j : Nat, (hij : i < j) → (hj : j < l.length) → Op.bytesLess ((l[i]'(by omega)).toList ++ [48]) (l[j]).toList = true
theorem Asc.nil : Asc [] := fun i j _ hj => by simp at hj
def lettersL (l : List Int) : Bool := l.all fun b => decide (97 ≤ b ∧ b ≤ 122)
def wordR (s : ByteArray) (most : Int) : Bool := lettersL (bytesOf s) && decide (1 ≤ (s.size : Int) ∧ (s.size : Int) ≤ most)
theorem lettersL_cons (b : Int) (t : List Int) : lettersL (b :: t) = (decide (97 ≤ b ∧ b ≤ 122) && lettersL t) := rfl
theorem idxP_step {α : Type} (p : α → Bool) (x : α) (t : List α) (i : Int) : idxP p (x :: t) i = if p x = true then i else idxP p t (i + 1) := rfl
theorem idxP_append {α : Type} (p : α → Bool) (l m : List α) : ∀ i : Int, idxP p (l ++ m) i = if l.any p = true then idxP p l i else idxP p m (i + l.length) := by
  induction l with
  | nil => intro i; simp
  | cons x t ih =>
    intro i
    rw [List.cons_append, idxP_step, idxP_step, List.any_cons]
    by_cases c : p x = true
    · rw [if_pos c, c]; simp
    · rw [if_neg c, ih (i + 1), if_neg c]
      have : p x = false := by simpa using c
      rw [this, Bool.false_or]
      have e : i + 1 + (t.length : Int) = i + ((x :: t).length : Int) := by simp only [List.length_cons]; omega
      rw [e]
theorem idxP_lt {α : Type} (p : α → Bool) (l : List α) : ∀ i : Int, idxP p l i < i + l.length ∨ idxP p l i = -1 := by
  induction l with
  | nil => intro i; exact .inr rfl
  | cons x t ih =>
    intro i
    rw [idxP_step]
    by_cases c : p x = true
    · rw [if_pos c]; simp only [List.length_cons]; omega
    · rw [if_neg c]
      have := ih (i + 1)
      simp only [List.length_cons]
      omega
/-- The first place at which p holds is that of x itself, if and only if p holds of nothing ahead. -/
theorem idxP_own {α : Type} (p : α → Bool) (pre t : List α) (x : α) (hx : p x = true) : idxP p (pre ++ x :: t) 0 = (pre.length : Int) ↔ pre.any p = false := by
  rw [idxP_append]
  by_cases c : pre.any p = true
  · rw [if_pos c, c]
    have := idxP_lt p pre 0
    constructor
    · intro h; omega
    · intro h; cases h
  · rw [if_neg c, idxP_step, if_pos hx]
    have : pre.any p = false := by simpa using c
    rw [this]
    simp
theorem in_dec (x a b : Int) : (if x ≥ a then some (decide (x ≤ b)) else some false) = some (decide (a ≤ x ∧ x ≤ b)) := by
  by_cases c : x ≥ a
  · rw [if_pos c]
    congr 1
    by_cases d : x ≤ b
    · rw [decide_eq_true d, decide_eq_true ⟨c, d⟩]
    · rw [decide_eq_false d, decide_eq_false (fun h => d h.2)]
  · rw [if_neg c, decide_eq_false (fun h => c h.1)]
def Took (s : ByteArray) (a b : Int) (x : ByteArray) : Prop := 0 ≤ a ∧ b ≤ (s.size : Int) ∧ b = a + (x.size : Int) ∧ (bytesOf s).drop a.toNat = bytesOf x ++ (bytesOf s).drop b.toNat
theorem Took.nil (s : ByteArray) (a : Int) (h : 0 ≤ a ∧ a ≤ (s.size : Int)) : Took s a a ⟨#[]⟩ := ⟨h.1, h.2, by show a = a + 0; omega, rfl⟩
theorem Took.trans {s : ByteArray} {a b c : Int} {x y : ByteArray} (h : Took s a b x) (g : Took s b c y) : Took s a c (x ++ y) := by
  obtain ⟨h1, h2, h3, h4⟩ := h
  obtain ⟨g1, g2, g3, g4⟩ := g
  refine ⟨h1, g2, by rw [ByteArray.size_append]; omega, ?_⟩
  rw [h4, g4, bytesOf_append, List.append_assoc]
theorem Took.whole {s : ByteArray} {b : Int} {x : ByteArray} (h : Took s 0 b x) (hb : b = (s.size : Int)) : x = s := by
  obtain ⟨h1, h2, h3, h4⟩ := h
  have e : (bytesOf s).drop b.toNat = [] := List.drop_eq_nil_of_le (by rw [bytesOf_length]; omega)
  rw [e, List.append_nil] at h4
  exact (bytesOf_inj h4).symm
theorem Took.all (s x t : ByteArray) : Took (s ++ x ++ t) (s.size : Int) ((s.size : Int) + (x.size : Int)) x := by
  refine ⟨by omega, by rw [ByteArray.size_append, ByteArray.size_append]; omega, rfl, ?_⟩
  have e1 : (bytesOf s).length = s.size := bytesOf_length s
  have e2 : (bytesOf x).length = x.size := bytesOf_length x
  have e3 : ((s.size : Int) + (x.size : Int)).toNat = s.size + x.size := by omega
  have l1 : ((bytesOf s) ++ (bytesOf x ++ bytesOf t)).drop s.size = bytesOf x ++ bytesOf t := List.drop_left' e1
  have l2 : ((bytesOf s) ++ (bytesOf x ++ bytesOf t)).drop (s.size + x.size) = bytesOf t := by rw [← List.drop_drop, l1]; exact List.drop_left' e2
  rw [bytesOf_append, bytesOf_append, List.append_assoc, Int.toNat_natCast, e3, l1, l2]
theorem Took.extract {s : ByteArray} {a b : Int} {x : ByteArray} (h : Took s a b x) : s.extract a.toNat b.toNat = x := by
  obtain ⟨h1, h2, h3, h4⟩ := h
  apply bytesOf_inj
  rw [bytesOf_extract, h4, show b.toNat - a.toNat = (bytesOf x).length by rw [bytesOf_length]; omega, List.take_left']
  rfl
theorem Took.of_extract (s : ByteArray) (a b : Int) (h0 : 0 ≤ a) (h1 : a ≤ b) (h2 : b ≤ (s.size : Int)) : Took s a b (s.extract a.toNat b.toNat) := by
  have hz : (s.extract a.toNat b.toNat).size = b.toNat - a.toNat := by
    rw [← bytesOf_length, bytesOf_extract, List.length_take, bytesOf_length_drop]; omega
  refine ⟨h0, h2, by rw [hz]; omega, ?_⟩
  have e : (bytesOf s).drop b.toNat = ((bytesOf s).drop a.toNat).drop (b.toNat - a.toNat) := by rw [List.drop_drop]; congr 1; omega
  rw [bytesOf_extract, e, List.take_append_drop]
theorem bytesOf_varB (n : Nat) : bytesOf (varB n) = varL n := bytesOf_strOfNums _ (varL_range n)
theorem rvR_took {s : ByteArray} {a n nx : Int} (h : rvR s a = (n, nx, true)) : Took s a nx (varB n.toNat) ∧ 0 ≤ n ∧ n ≤ 1000000000 := by
  obtain ⟨u, h1, h2, h3, h4, h5, h6, h7, h8⟩ := rvR_tells s a n nx h
  have hl : (((bytesOf s).drop a.toNat).take u).length = u := by rw [List.length_take, bytesOf_length_drop]; omega
  refine ⟨⟨h1, h7, ?_, ?_⟩, h2, h3⟩
  · rw [varB_size, h8, hl]; exact h4
  · rw [bytesOf_varB, h8, h4, show (a + (u : Int)).toNat = a.toNat + u by omega, ← List.drop_drop, List.take_append_drop]
theorem rvR_reads {s : ByteArray} {a b : Int} {n : Nat} (h : Took s a b (varB n)) (hn : n ≤ 1000000000) : rvR s a = ((n : Int), b, true) := by
  obtain ⟨h1, h2, h3, h4⟩ := h
  unfold rvR
  rw [if_pos ⟨h1, by omega⟩, h4, bytesOf_varB, rvL_reads a n _ hn, h3, varB_size]
theorem rsR_took {s t : ByteArray} {a nx : Int} (h : rsR s a = (t, nx, true)) : Took s a nx (shortB t) ∧ t.size ≤ 20000 := by
  unfold rsR at h
  rcases hr : rvR s a with ⟨n, b, ok⟩
  rw [hr] at h
  dsimp only at h
  by_cases c : ok = true ∧ n ≤ 20000 ∧ n ≤ (s.size : Int) - b
  · rw [if_pos c] at h
    obtain ⟨rfl, c2, c3⟩ := c
    obtain ⟨h1, h2, h3⟩ := rvR_took hr
    have hb : 0 ≤ b := by have := h1.1; have := h1.2.2.1; omega
    have ht := Took.of_extract s b (b + n) hb (by omega) (by omega)
    simp only [Prod.mk.injEq, and_true] at h
    obtain ⟨e1, e2⟩ := h
    rw [e1, e2] at ht
    have hz : (t.size : Int) = n := by have := ht.2.2.1; omega
    refine ⟨?_, by omega⟩
    have := h1.trans ht
    unfold shortB
    rwa [show n.toNat = t.size by omega] at this
  · rw [if_neg c] at h
    simp at h
theorem Took.split {s x y : ByteArray} {a c : Int} (h : Took s a c (x ++ y)) : Took s a (a + (x.size : Int)) x ∧ Took s (a + (x.size : Int)) c y := by
  obtain ⟨h1, h2, h3, h4⟩ := h
  rw [ByteArray.size_append] at h3
  rw [bytesOf_append, List.append_assoc] at h4
  have e : (bytesOf s).drop (a + (x.size : Int)).toNat = bytesOf y ++ (bytesOf s).drop c.toNat := by
    rw [show (a + (x.size : Int)).toNat = a.toNat + x.size by omega, ← List.drop_drop, h4, ← bytesOf_length x, List.drop_left']
    rfl
  exact ⟨⟨h1, by omega, rfl, by rw [e]; exact h4⟩, ⟨by omega, h2, by omega, e⟩⟩
theorem rsR_reads {s t : ByteArray} {a b : Int} (h : Took s a b (shortB t)) (ht : t.size ≤ 20000) : rsR s a = (t, b, true) := by
  obtain ⟨g1, g2⟩ := Took.split (x := varB t.size) (y := t) h
  have hr := rvR_reads g1 (by omega)
  unfold rsR
  rw [hr]
  dsimp only
  have hz := g2.2.2.1
  have hb := g2.2.1
  rw [if_pos ⟨rfl, by omega, by omega⟩, ← hz, g2.extract]
def txtR (s : ByteArray) (at_ : Int) (bad : Bool) : ByteArray × Int × Bool :=
  if bad = false ∧ (rsR s at_).2.2 = true then ((rsR s at_).1, (rsR s at_).2.1, false) else (⟨#[]⟩, at_, true)
theorem txtR_no {s : ByteArray} {a : Int} {bad : Bool} (h : (txtR s a bad).2.2 = true) : txtR s a bad = (⟨#[]⟩, a, true) := by
  unfold txtR at h ⊢
  split
  · rename_i c; rw [if_pos c] at h; cases h
  · rfl
theorem txtR_took {s t : ByteArray} {a b : Int} {bad : Bool} (h : txtR s a bad = (t, b, false)) : bad = false ∧ Took s a b (shortB t) ∧ t.size ≤ 20000 := by
  unfold txtR at h
  rcases hr : rsR s a with ⟨m, c, ok⟩
  rw [hr] at h
  dsimp only at h
  split at h
  · rename_i q
    obtain ⟨q1, rfl⟩ := q
    simp only [Prod.mk.injEq, and_true] at h
    obtain ⟨rfl, rfl⟩ := h
    obtain ⟨h1, h2⟩ := rsR_took hr
    exact ⟨q1, h1, h2⟩
  · simp at h
theorem txtR_reads {s t : ByteArray} {a b : Int} (h : Took s a b (shortB t)) (ht : t.size ≤ 20000) : txtR s a false = (t, b, false) := by
  unfold txtR
  rw [rsR_reads h ht, if_pos ⟨rfl, rfl⟩]
theorem Took.byte (s : ByteArray) (a : Int) (h0 : 0 ≤ a) (h1 : a < (s.size : Int)) : Took s a (a + 1) (strOfNums [bt s a]) := by
  obtain ⟨i, rfl⟩ := Int.eq_ofNat_of_zero_le h0
  refine ⟨h0, by omega, by rw [strOfNums_size]; rfl, ?_⟩
  have hb := bt_range s (i : Int)
  rw [bytesOf_strOfNums [bt s (i : Int)] (by intro x hx; rw [List.mem_singleton.1 hx]; exact hb), Int.toNat_natCast, bytesOf_drop s i (by omega), show ((i : Int) + 1).toNat = i + 1 by omega]
  rfl
theorem Took.byte_tells {s : ByteArray} {a b n : Int} (hn : 0 ≤ n ∧ n ≤ 255) (h : Took s a b (strOfNums [n])) : b = a + 1 ∧ a < (s.size : Int) ∧ bt s a = n := by
  obtain ⟨h1, h2, h3, h4⟩ := h
  rw [strOfNums_size] at h3
  have h3' : b = a + 1 := h3
  obtain ⟨i, rfl⟩ := Int.eq_ofNat_of_zero_le h1
  rw [bytesOf_strOfNums [n] (by intro x hx; rw [List.mem_singleton.1 hx]; exact hn), Int.toNat_natCast, bytesOf_drop s i (by omega)] at h4
  exact ⟨h3', by omega, (List.cons.inj h4).1⟩
theorem Took.self (s : ByteArray) : Took s 0 (s.size : Int) s := by
  have := Took.all ⟨#[]⟩ s ⟨#[]⟩
  rw [show (⟨#[]⟩ : ByteArray) ++ s = s from ByteArray.empty_append, show s ++ (⟨#[]⟩ : ByteArray) = s from ByteArray.append_empty] at this
  have z : (⟨#[]⟩ : ByteArray).size = 0 := rfl
  rw [z] at this
  simpa using this
theorem txtR_size (s : ByteArray) (a : Int) (bad : Bool) : (txtR s a bad).1.size ≤ 20000 := by
  rcases h : txtR s a bad with ⟨t, b, ok⟩
  cases ok with
  | false => exact (txtR_took h).2.2
  | true =>
    have e := txtR_no (by rw [h] : (txtR s a bad).2.2 = true)
    rw [h] at e
    cases e
    exact Nat.zero_le _
theorem txtR_at (s : ByteArray) (a : Int) (bad : Bool) (ha : 0 ≤ a ∧ a ≤ (s.size : Int)) : 0 ≤ (txtR s a bad).2.1 ∧ (txtR s a bad).2.1 ≤ (s.size : Int) := by
  rcases h : txtR s a bad with ⟨t, b, ok⟩
  cases ok with
  | false => have := (txtR_took h).2.1; have h1 := this.1; have h2 := this.2.1; have h3 := this.2.2.1; exact ⟨by dsimp only; omega, h2⟩
  | true =>
    have e := txtR_no (by rw [h] : (txtR s a bad).2.2 = true)
    rw [h] at e
    cases e
    exact ha
def faR (l : List S85) (name : ByteArray) : Int := idxP (fun x : S85 => x.f0.toList == name.toList) l 0
/-- A field that is right but for the others. -/
def fieldOkR (x : S85) : Bool := wordR x.f0 4 && decide (1 ≤ x.f1 ∧ x.f1 ≤ 2)
def soL (n : Int) : List S85 → List S85 → Bool
  | _, [] => decide (1 ≤ n ∧ n ≤ 3)
  | pre, x :: t => if fieldOkR x = true then (if pre.any (fun y => y.f0.toList == x.f0.toList) = true then false else soL n (pre ++ [x]) t) else false
def soR (l : List S85) : Bool := soL (l.length : Int) [] l
theorem soL_tells (n : Int) (rest : List S85) : ∀ pre, soL n pre rest = true → 1 ≤ n ∧ n ≤ 3 ∧ ∀ x ∈ rest, fieldOkR x = true := by
  induction rest with
  | nil => intro pre h; unfold soL at h; have := of_decide_eq_true h; exact ⟨this.1, this.2, fun x hx => by cases hx⟩
  | cons x t ih =>
    intro pre h
    unfold soL at h
    split at h
    · rename_i c
      split at h
      · cases h
      · obtain ⟨h1, h2, h3⟩ := ih _ h
        refine ⟨h1, h2, fun y hy => ?_⟩
        rcases List.mem_cons.1 hy with rfl | hy
        · exact c
        · exact h3 y hy
    · cases h
theorem soR_tells (l : List S85) (h : soR l = true) : 1 ≤ l.length ∧ l.length ≤ 3 ∧ ∀ x ∈ l, fieldOkR x = true := by
  obtain ⟨h1, h2, h3⟩ := soL_tells _ l [] h
  exact ⟨by omega, by omega, h3⟩
theorem fieldOkR_tells (x : S85) (h : fieldOkR x = true) : 1 ≤ x.f0.size ∧ x.f0.size ≤ 4 ∧ 1 ≤ x.f1 ∧ x.f1 ≤ 2 := by
  unfold fieldOkR wordR at h
  simp only [Bool.and_eq_true, decide_eq_true_eq] at h
  omega
def schemaB : List S85 → ByteArray
  | [] => ⟨#[]⟩
  | x :: t => (strOfNums [x.f1 % 256] ++ shortB x.f0) ++ schemaB t
def schemaTextR (l : List S85) : ByteArray × Bool := if soR l = true then (schemaB l, true) else (⟨#[]⟩, false)
theorem shortB_size_le (s : ByteArray) (h : s.size ≤ 140737488351232) : (shortB s).size ≤ 10 + s.size := by
  unfold shortB
  rw [ByteArray.size_append]
  have := varB_size_le s.size (by omega)
  omega
/-- A schema is read, at most so many fields. -/
def schP (t : ByteArray) : Nat → Int → List S85 → Option (List S85)
  | 0, a, out => if a < (t.size : Int) then none else some out
  | d + 1, a, out => if a < (t.size : Int) then (if (rsR t (a + 1)).2.2 = true then schP t d (rsR t (a + 1)).2.1 (out ++ [⟨(rsR t (a + 1)).1, bt t a⟩]) else none) else some out
theorem schP_took (t : ByteArray) (d : Nat) : ∀ (a : Int) (out out' : List S85), 0 ≤ a ∧ a ≤ (t.size : Int) → schP t d a out = some out' → ∃ l, out' = out ++ l ∧ Took t a (t.size : Int) (schemaB l) := by
  have stop : ∀ (a : Int) (out out' : List S85), 0 ≤ a ∧ a ≤ (t.size : Int) → ¬ a < (t.size : Int) → some out = some out' → ∃ l, out' = out ++ l ∧ Took t a (t.size : Int) (schemaB l) := by
    intro a out out' ha c h
    have e : a = (t.size : Int) := by omega
    refine ⟨[], by rw [← Option.some.inj h]; simp, ?_⟩
    rw [← e]
    exact Took.nil t a ha
  induction d with
  | zero =>
    intro a out out' ha h
    unfold schP at h
    split at h
    · cases h
    · exact stop a out out' ha (by assumption) h
  | succ d ih =>
    intro a out out' ha h
    unfold schP at h
    split at h
    · rename_i c
      rcases hr : rsR t (a + 1) with ⟨s, b, ok⟩
      rw [hr] at h
      cases ok with
      | false => rw [if_neg (by simp)] at h; cases h
      | true =>
        rw [if_pos rfl] at h
        obtain ⟨g1, g2⟩ := rsR_took hr
        obtain ⟨l, e, g3⟩ := ih b _ out' ⟨by have := g1.1; have := g1.2.2.1; omega, g1.2.1⟩ h
        refine ⟨⟨s, bt t a⟩ :: l, by rw [e]; simp, ?_⟩
        have := ((Took.byte t a ha.1 c).trans g1).trans g3
        unfold schemaB
        have hb := bt_range t a
        rw [show (⟨s, bt t a⟩ : S85).f1 % 256 = bt t a by show bt t a % 256 = bt t a; omega]
        exact this
    · exact stop a out out' ha (by assumption) h
theorem schP_reads (t : ByteArray) (l : List S85) : ∀ (d : Nat) (a : Int) (out : List S85), l.length ≤ d → (∀ x ∈ l, x.f0.size ≤ 4 ∧ 1 ≤ x.f1 ∧ x.f1 ≤ 2) → Took t a (t.size : Int) (schemaB l) → schP t d a out = some (out ++ l) := by
  induction l with
  | nil =>
    intro d a out _ _ ht
    have hb : (t.size : Int) = a := by have := ht.2.2.1; change _ = a + 0 at this; omega
    cases d <;> simp [schP, hb]
  | cons x l ih =>
    intro d a out hd h ht
    unfold schemaB at ht
    obtain ⟨t1, t2⟩ := Took.split ht
    obtain ⟨t3, t4⟩ := Took.split t1
    obtain ⟨h1, h2, h3⟩ := h x (by simp)
    rw [show x.f1 % 256 = x.f1 by omega] at t1 t2 t3 t4
    obtain ⟨e1, e2, e3⟩ := Took.byte_tells ⟨by omega, by omega⟩ t3
    rw [e1] at t4
    obtain ⟨d, rfl⟩ : ∃ m, d = m + 1 := ⟨d - 1, by rw [List.length_cons] at hd; omega⟩
    unfold schP
    rw [if_pos e2, rsR_reads t4 (by omega), if_pos rfl, e3, ih d _ _ (by rw [List.length_cons] at hd; omega) (fun y hy => h y (by simp [hy])) t2]
    simp
/-- The same, where what is bad stays bad. -/
def schS (t : ByteArray) : Nat → Int → Bool → List S85 → Int × Bool × List S85
  | 0, a, bad, out => (a, bad, out)
  | d + 1, a, bad, out => if a < (t.size : Int) ∧ bad = false then schS t d (txtR t (a + 1) false).2.1 (txtR t (a + 1) false).2.2 (out ++ [⟨(txtR t (a + 1) false).1, bt t a⟩]) else (a, bad, out)
theorem schS_reads (t : ByteArray) (l : List S85) : ∀ (d : Nat) (a : Int) (out : List S85), l.length ≤ d → (∀ x ∈ l, x.f0.size ≤ 4 ∧ 1 ≤ x.f1 ∧ x.f1 ≤ 2) → Took t a (t.size : Int) (schemaB l) → schS t d a false out = ((t.size : Int), false, out ++ l) := by
  induction l with
  | nil =>
    intro d a out _ _ ht
    have hb : (t.size : Int) = a := by have := ht.2.2.1; change _ = a + 0 at this; omega
    cases d <;> simp [schS, hb]
  | cons x l ih =>
    intro d a out hd h ht
    unfold schemaB at ht
    obtain ⟨t1, t2⟩ := Took.split ht
    obtain ⟨t3, t4⟩ := Took.split t1
    obtain ⟨h1, h2, h3⟩ := h x (by simp)
    rw [show x.f1 % 256 = x.f1 by omega] at t1 t2 t3 t4
    obtain ⟨e1, e2, e3⟩ := Took.byte_tells ⟨by omega, by omega⟩ t3
    rw [e1] at t4
    obtain ⟨d, rfl⟩ : ∃ m, d = m + 1 := ⟨d - 1, by rw [List.length_cons] at hd; omega⟩
    unfold schS
    rw [if_pos ⟨e2, rfl⟩, txtR_reads t4 (by omega), e3]
    dsimp only
    rw [ih d _ _ (by rw [List.length_cons] at hd; omega) (fun y hy => h y (by simp [hy])) t2]
    simp
theorem schemaTextR_tells {l : List S85} {t : ByteArray} (h : schemaTextR l = (t, true)) : soR l = true ∧ schemaB l = t := by
  unfold schemaTextR at h
  split at h
  · simp only [Prod.mk.injEq, and_true] at h; exact ⟨by assumption, h⟩
  · simp at h
def readSchemaR (t : ByteArray) : List S85 × Bool :=
  if (schS t 4 0 false []).2.1 = false ∧ schemaTextR (schS t 4 0 false []).2.2 = (t, true) then ((schS t 4 0 false []).2.2, true) else ([], false)
theorem soR_small {l : List S85} (h : soR l = true) : ∀ x ∈ l, x.f0.size ≤ 4 ∧ 1 ≤ x.f1 ∧ x.f1 ≤ 2 := by
  obtain ⟨h1, h2, h3⟩ := soR_tells l h
  intro x hx
  have := fieldOkR_tells x (h3 x hx)
  omega
theorem readSchemaR_text {l : List S85} {t : ByteArray} (h : schemaTextR l = (t, true)) : readSchemaR t = (l, true) := by
  obtain ⟨h1, rfl⟩ := schemaTextR_tells h
  obtain ⟨g1, g2, g3⟩ := soR_tells l h1
  have := schS_reads (schemaB l) l 4 0 [] (by omega) (soR_small h1) (Took.self _)
  unfold readSchemaR
  rw [this]
  dsimp only
  rw [List.nil_append, if_pos ⟨rfl, h⟩]
theorem readSchemaR_tells {l : List S85} {t : ByteArray} (h : readSchemaR t = (l, true)) : schemaTextR l = (t, true) := by
  unfold readSchemaR at h
  split at h
  · rename_i c
    simp only [Prod.mk.injEq, and_true] at h
    rw [← h]; exact c.2
  · simp at h
theorem readSchemaR_no {l : List S85} {t : ByteArray} (h : readSchemaR t = (l, false)) : l = [] := by
  unfold readSchemaR at h
  split at h
  · simp at h
  · simp only [Prod.mk.injEq, and_true] at h; exact h.symm
/-- Both ways to read give the same. -/
theorem readSchemaR_impl (t : ByteArray) : readSchemaR t = match schP t 3 0 [] with | none => ([], false) | some out => if soR out = true then (out, true) else ([], false) := by
  rcases hr : readSchemaR t with ⟨l, ok⟩
  cases ok with
  | true =>
    have h := readSchemaR_tells hr
    obtain ⟨h1, rfl⟩ := schemaTextR_tells h
    obtain ⟨g1, g2, g3⟩ := soR_tells l h1
    rw [schP_reads (schemaB l) l 3 0 [] (by omega) (soR_small h1) (Took.self _), List.nil_append]
    dsimp only
    rw [if_pos h1]
  | false =>
    rw [readSchemaR_no hr]
    cases hp : schP t 3 0 [] with
    | none => rfl
    | some out =>
      dsimp only
      by_cases c : soR out = true
      · obtain ⟨l2, e, ht⟩ := schP_took t 3 0 [] out ⟨Int.le_refl _, by omega⟩ hp
        rw [List.nil_append] at e
        subst e
        have hw := ht.whole rfl
        have : schemaTextR out = (t, true) := by unfold schemaTextR; rw [if_pos c, hw]
        rw [readSchemaR_text this] at hr
        simp at hr
      · rw [if_neg c]
theorem spec_l01In_eq (x a b : Int) : spec_l01In.f x a b = some (decide (a ≤ x ∧ x ≤ b)) := in_dec x a b
theorem spec_l01Var_ev : ∀ (n : Nat) (acc : List Int), n ≤ 9223372036854775807 → acc.length + n ≤ 140737488355327 → Ev (fun k => spec_l01Var.l0 k (n : Int) acc) (strOfNums (acc ++ varL n)) := by
  intro n
  induction n using Nat.strongRecOn with
  | ind n ih =>
    intro acc hn hl
    by_cases h : n > 127
    · refine ev_go (f := fun k => spec_l01Var.l0 k ((n / 128 : Nat) : Int) (acc ++ [(n : Int) % 128 + 128])) ?_ ?_
      · have := ih (n / 128) (by omega) (acc ++ [(n : Int) % 128 + 128]) (by omega) (by rw [List.length_append, List.length_singleton]; omega)
        rw [List.append_assoc, List.singleton_append, ← varL_big h] at this
        exact this
      · intro k
        have e1 : wrap64 (Int.tdiv (n : Int) 128) = ((n / 128 : Nat) : Int) := by rw [Int.tdiv_eq_ediv_of_nonneg (by omega), w64 (by omega) (by omega)]; omega
        have e2 : (wrap64 (Int.tmod (n : Int) 128 + 128)) % 256 = (n : Int) % 128 + 128 := by rw [Int.tmod_eq_emod_of_nonneg (by omega), w64 (by omega) (by omega)]; omega
        rw [spec_l01Var.l0, if_pos (by omega), if_pos (by omega), e1, e2]
    · refine ev_end fun k => ?_
      rw [spec_l01Var.l0, if_neg (by omega), if_pos (by omega), varL_small h]
      rw [show (n : Int) % 256 = (n : Int) by omega]
theorem spec_l01Var_fev (n : Int) (h0 : 0 ≤ n) (h : n ≤ 140737488355327) : Ev (fun k => spec_l01Var.f k n) (varB n.toNat) := by
  have := spec_l01Var_ev n.toNat [] (by omega) (by simp; omega)
  rw [Int.toNat_of_nonneg h0, List.nil_append] at this
  exact this
theorem spec_ReadVar_ev (s : ByteArray) (hs : s.size ≤ 140737488351232) (a : Nat) (ha : a ≤ s.size) : ∀ (d j : Nat) (n : Int), 5 - j = d → j ≤ 5 → a + j ≤ s.size → 0 ≤ n → n < 128 ^ j → decAt ((bytesOf s).drop a) j n →
    Ev (fun k => spec_ReadVar.l0 k s (a : Int) n (128 ^ j) ((a : Int) + j)) (rvL a ((bytesOf s).drop a)) := by
  intro d
  induction d with
  | zero =>
    intro j n hd hj hl h0 h1 hD
    obtain rfl : j = 5 := by omega
    rw [rvL_none (decAt_over hD)]
    refine ev_succ ⟨1, fun k hk => ?_⟩
    obtain ⟨k, rfl⟩ : ∃ m, k = m + 1 := ⟨k - 1, by omega⟩
    rw [spec_ReadVar.l0]
    by_cases c : (a : Int) + (5 : Nat) < (s.size : Int)
    · rw [if_pos c, w64 (by omega) (by omega), decide_eq_false (by omega), spec_ReadVar.j1, if_neg (by decide)]
    · rw [if_neg c, spec_ReadVar.j1, if_neg (by decide)]
  | succ d ih =>
    intro j n hd hj hl h0 h1 hD
    by_cases c : a + j < s.size
    · have hdrop : ((bytesOf s).drop a).drop j = bt s ((a : Int) + j) :: ((bytesOf s).drop (a + j + 1)) := by
        rw [List.drop_drop, bytesOf_drop s (a + j) c]
        rw [show ((a + j : Nat) : Int) = (a : Int) + j by omega]
      have hb0 := bt_lo s ((a : Int) + j)
      have hb1 := bt_hi s ((a : Int) + j)
      obtain ⟨m1, m2, m3, m4⟩ := rv_mul j (by omega) n (bt s ((a : Int) + j)) h0 h1 hb0 hb1
      by_cases cb : bt s ((a : Int) + j) < 128
      · have hE := decAt_end hD (by omega) hdrop cb
        rw [show bt s ((a : Int) + j) % 128 = bt s ((a : Int) + j) by omega] at m1 m2 m3 m4
        by_cases cm : n + 128 ^ j * bt s ((a : Int) + j) > 1000000000
        · rw [rvL_bad hE (by omega)]
          refine ev_succ ⟨1, fun k hk => ?_⟩
          obtain ⟨k, rfl⟩ : ∃ m, k = m + 1 := ⟨k - 1, by omega⟩
          rw [spec_ReadVar.l0, if_pos (by omega), w64 (n := (a : Int) + 5) (by omega) (by omega), decide_eq_true (by omega), spec_ReadVar.j1, if_pos rfl, if_pos (by omega), if_pos (by omega), if_pos cb, m1, if_pos cm]
        · obtain ⟨K, hK⟩ := spec_l01Var_fev (n + 128 ^ j * bt s ((a : Int) + j)) m2 (by omega)
          dsimp only at hK
          refine ev_succ ⟨K + 1, fun k hk => ?_⟩
          obtain ⟨k, rfl⟩ : ∃ m, k = m + 1 := ⟨k - 1, by omega⟩
          rw [spec_ReadVar.l0, if_pos (by omega), w64 (n := (a : Int) + 5) (by omega) (by omega), decide_eq_true (by omega), spec_ReadVar.j1, if_pos rfl, if_pos (by omega), if_pos (by omega), if_pos cb, m1, if_neg cm]
          rw [hK k (by omega), Option.bind_some, w64 (n := (a : Int) + j + 1) (by omega) (by omega), if_pos (by omega), if_pos (by omega), if_pos (by omega)]
          have he : ((varB (n + 128 ^ j * bt s ((a : Int) + j)).toNat).toList = (s.extract (a : Int).toNat ((a : Int) + j + 1).toNat).toList) ↔ varL (n + 128 ^ j * bt s ((a : Int) + j)).toNat = ((bytesOf s).drop a).take (1 + j) := by
            rw [toList_eq_iff, varB, strOfNums_eq_iff _ _ (varL_range _), bytesOf_extract]
            rw [show (a : Int).toNat = a by omega, show ((a : Int) + j + 1).toNat - a = 1 + j by omega]
          by_cases ce : varL (n + 128 ^ j * bt s ((a : Int) + j)).toNat = ((bytesOf s).drop a).take (1 + j)
          · rw [if_pos (he.2 ce), rvL_good hE (by omega) ce]
            simp only [Option.some.injEq, Prod.mk.injEq, and_true, true_and]
            omega
          · rw [if_neg (fun h => ce (he.1 h)), rvL_bad hE (fun h => ce h.2)]
      · have hN := decAt_next hD (by omega) hdrop cb
        rw [show bt s ((a : Int) + j) % 128 = bt s ((a : Int) + j) - 128 by omega] at m1 m2 m3 m4
        have hsc : wrap64 (128 ^ j * 128) = 128 ^ (j + 1) := by
          rw [Int.pow_succ]
          rcases pow128 j (by omega) with ⟨h, _⟩ | ⟨h, _⟩ | ⟨h, _⟩ | ⟨h, _⟩ | ⟨h, _⟩ <;> (rw [h]; exact w64 (by omega) (by omega))
        have hi := ih (j + 1) _ (by omega) (by omega) (by omega) m2 m3 hN
        obtain ⟨K, hK⟩ := hi
        refine ev_succ ⟨K + 1, fun k hk => ?_⟩
        obtain ⟨k, rfl⟩ : ∃ m, k = m + 1 := ⟨k - 1, by omega⟩
        rw [spec_ReadVar.l0, if_pos (by omega), w64 (n := (a : Int) + 5) (by omega) (by omega), decide_eq_true (by omega), spec_ReadVar.j1, if_pos rfl, if_pos (by omega), if_pos (by omega), if_neg cb, m1, hsc, w64 (n := (a : Int) + j + 1) (by omega) (by omega)]
        have := hK k (by omega)
        simp only [Int.natCast_add, Int.natCast_one] at this
        rw [Int.add_assoc]
        exact this
    · have hdrop : ((bytesOf s).drop a).drop j = [] := by
        rw [List.drop_drop, List.drop_eq_nil_iff, bytesOf_length]; omega
      rw [rvL_none (decAt_short hD hdrop)]
      refine ev_succ ⟨1, fun k hk => ?_⟩
      obtain ⟨k, rfl⟩ : ∃ m, k = m + 1 := ⟨k - 1, by omega⟩
      rw [spec_ReadVar.l0, if_neg (by omega), spec_ReadVar.j1, if_neg (by decide)]
theorem spec_ReadVar_fev (s : ByteArray) (hs : s.size ≤ 140737488351232) (a : Int) : Ev (fun k => spec_ReadVar.f k s a) (rvR s a) := by
  unfold rvR
  by_cases c : 0 ≤ a ∧ a ≤ (s.size : Int)
  · rw [if_pos c]
    have := spec_ReadVar_ev s hs a.toNat (by omega) 5 0 0 (by omega) (by omega) (by omega) (by omega) (by simp) (decAt_zero _)
    rw [show ((a.toNat : Nat) : Int) = a by omega] at this
    simp only [Int.pow_zero, Int.natCast_zero, Int.add_zero] at this
    refine Ev.congr (fun k => ?_) this
    unfold spec_ReadVar.f spec_l01In.f
    rw [if_pos (by omega), Option.bind_some, decide_eq_true (by omega), if_pos rfl]
  · rw [if_neg c]
    refine ev_some fun k => ?_
    unfold spec_ReadVar.f spec_l01In.f
    by_cases c1 : a ≥ 0
    · rw [if_pos c1, Option.bind_some, decide_eq_false (by omega), if_neg (by decide)]
    · rw [if_neg c1, Option.bind_some, if_neg (by decide)]
theorem spec_ReadShort_fev (s : ByteArray) (hs : s.size ≤ 140737488351232) (a : Int) : Ev (fun k => spec_ReadShort.f k s a) (rsR s a) := by
  refine ev_call (spec_ReadVar_fev s hs a) (ev_some fun k => ?_) (fun k => rfl)
  unfold rsR
  rcases hr : rvR s a with ⟨n, nx, ok⟩
  cases ok with
  | false => simp
  | true =>
    obtain ⟨u, h1, h2, h3, h4, h5, h6, h7, h8⟩ := rvR_tells s a n nx hr
    simp only [if_true, true_and]
    rw [w64 (n := (s.size : Int) - nx) (by omega) (by omega)]
    by_cases c : n ≤ 20000
    · rw [if_neg (by omega)]
      by_cases c2 : n ≤ (s.size : Int) - nx
      · rw [if_neg (by omega), if_pos (by omega), w64 (n := nx + n) (by omega) (by omega), if_pos (by omega), if_pos (by omega), if_pos ⟨c, c2⟩]
      · rw [if_pos (by omega), if_neg (by omega)]
    · rw [if_pos (by omega), if_neg (by omega)]
theorem spec_l04ReadShort_fev (s : ByteArray) (hs : s.size ≤ 140737488351232) (a : Int) (bad : Bool) : Ev (fun k => spec_l04ReadShort.f k s a bad) ((txtR s a bad).1, s, (txtR s a bad).2.1, (txtR s a bad).2.2) := by
  refine ev_call (spec_ReadShort_fev s hs a) (ev_some fun k => ?_) fun k => rfl
  unfold txtR
  cases bad with
  | true => rw [if_pos rfl, if_neg (by simp)]
  | false =>
    rw [if_neg (by decide)]
    by_cases c : (rsR s a).2.2 = true
    · rw [if_pos c, if_pos ⟨rfl, c⟩]
    · rw [if_neg c, if_neg (fun h => c h.2)]
theorem spec_l04Word_loop (s : ByteArray) (hs : s.size ≤ 9223372036854775807) (most : Int) : ∀ (d i : Nat), i + d = s.size → Ev (fun k => spec_l04Word.l0 k s most (i : Int)) (lettersL ((bytesOf s).drop i) && decide (1 ≤ (s.size : Int) ∧ (s.size : Int) ≤ most)) := by
  intro d
  induction d with
  | zero =>
    intro i hi
    refine ev_end fun k => ?_
    rw [spec_l04Word.l0, if_neg (by omega), spec_l01In_eq, Option.bind_some, List.drop_eq_nil_of_le (by rw [bytesOf_length]; omega)]
    rfl
  | succ d ih =>
    intro i hi
    rw [bytesOf_drop s i (by omega), lettersL_cons]
    by_cases c1 : bt s (i : Int) < 97
    · rw [decide_eq_false (by omega)]
      refine ev_end fun k => ?_
      rw [spec_l04Word.l0, if_pos (by omega), if_pos (by omega), if_pos c1]
      rfl
    · by_cases c2 : bt s (i : Int) > 122
      · rw [decide_eq_false (by omega)]
        refine ev_end fun k => ?_
        rw [spec_l04Word.l0, if_pos (by omega), if_pos (by omega), if_neg c1, if_pos c2]
        rfl
      · rw [decide_eq_true (by omega), Bool.true_and]
        refine ev_go (ih (i + 1) (by omega)) fun k => ?_
        rw [spec_l04Word.l0, if_pos (by omega), if_pos (by omega), if_neg c1, if_neg c2, w64 (by omega) (by omega)]
        rfl
theorem spec_l04Word_fev (s : ByteArray) (hs : s.size ≤ 9223372036854775807) (most : Int) : Ev (fun k => spec_l04Word.f k s most) (wordR s most) :=
  spec_l04Word_loop s hs most s.size 0 (by omega)
theorem spec_SchemaOk_inner (l pre t : List S85) (x : S85) (hl : l = pre ++ x :: t) (hn : l.length ≤ 1048576) (r : Bool) (h : Ev (fun k => spec_SchemaOk.l0 k l ((pre.length : Int) + 1)) r) : ∀ (d i : Nat), i + d = pre.length → Ev (fun k => spec_SchemaOk.l1 k l (pre.length : Int) (i : Int)) (if (pre.drop i).any (fun y => y.f0.toList == x.f0.toList) = true then false else r) := by
  have hlen : l.length = pre.length + 1 + t.length := by rw [hl, List.length_append, List.length_cons]; omega
  have hx : rd_T85 l (pre.length : Int) = x := by rw [hl]; exact rdOf_mid z85 pre t x _ rfl
  intro d
  induction d with
  | zero =>
    intro i hi
    rw [List.drop_eq_nil_of_le (by omega)]
    refine ev_go h fun k => ?_
    rw [spec_SchemaOk.l1, if_neg (by omega), w64 (by omega) (by omega)]
  | succ d ih =>
    intro i hi
    have hy : rd_T85 l (i : Int) = pre[i]'(by omega) := by
      show rdOf z85 l (i : Int) = _
      rw [rdOf_get z85 l i (by omega)]
      subst hl
      exact List.getElem_append_left (by omega)
    rw [List.drop_eq_getElem_cons (by omega : i < pre.length), List.any_cons]
    by_cases c : ((pre[i]'(by omega)).f0).toList = x.f0.toList
    · rw [show ((pre[i]'(by omega)).f0.toList == x.f0.toList) = true from beq_iff_eq.2 c]
      refine ev_end fun k => ?_
      rw [spec_SchemaOk.l1, if_pos (by omega), if_pos (by omega), if_pos (by omega), if_pos (by omega), if_pos (by omega), hx, hy, if_pos c]
      rfl
    · rw [show ((pre[i]'(by omega)).f0.toList == x.f0.toList) = false from beq_eq_false_iff_ne.2 c, Bool.false_or]
      refine ev_go (ih (i + 1) (by omega)) fun k => ?_
      rw [spec_SchemaOk.l1, if_pos (by omega), if_pos (by omega), if_pos (by omega), if_pos (by omega), if_pos (by omega), hx, hy, if_neg c, w64 (by omega) (by omega)]
      rfl
theorem spec_SchemaOk_loop (l : List S85) (hn : l.length ≤ 1048576) (hs : ∀ x ∈ l, x.f0.size ≤ 9223372036854775807) : ∀ (rest pre : List S85), l = pre ++ rest → Ev (fun k => spec_SchemaOk.l0 k l (pre.length : Int)) (soL (l.length : Int) pre rest) := by
  intro rest
  induction rest with
  | nil =>
    intro pre hl
    have : l.length = pre.length := by rw [hl, List.append_nil]
    refine ev_end fun k => ?_
    rw [spec_SchemaOk.l0, if_neg (by omega), spec_l01In_eq, Option.bind_some]
    rfl
  | cons x t ih =>
    intro pre hl
    have hlen : l.length = pre.length + 1 + t.length := by rw [hl, List.length_append, List.length_cons]; omega
    have hx : rd_T85 l (pre.length : Int) = x := by rw [hl]; exact rdOf_mid z85 pre t x _ rfl
    have hxs := hs x (by rw [hl]; simp)
    have hn' := ih (pre ++ [x]) (by rw [hl]; simp)
    rw [List.length_append, List.length_singleton, show ((pre.length + 1 : Nat) : Int) = (pre.length : Int) + 1 by omega] at hn'
    have hin := spec_SchemaOk_inner l pre t x hl hn _ hn' pre.length 0 (by omega)
    obtain ⟨K1, e1⟩ := spec_l04Word_fev x.f0 hxs 4
    obtain ⟨K2, e2⟩ := hin
    dsimp only at e1 e2
    unfold soL fieldOkR
    refine ev_succ ⟨K1 + K2 + 1, fun k hk => ?_⟩
    obtain ⟨k, rfl⟩ : ∃ m, k = m + 1 := ⟨k - 1, by omega⟩
    rw [spec_SchemaOk.l0, if_pos (by omega), if_pos (by omega), hx, e1 _ (by omega), Option.bind_some]
    cases h1 : wordR x.f0 4 with
    | false => rw [if_neg (by decide), spec_SchemaOk.j1, if_pos rfl]; rfl
    | true =>
      rw [if_pos rfl, spec_l01In_eq, Option.bind_some, spec_SchemaOk.j1]
      by_cases h2 : 1 ≤ x.f1 ∧ x.f1 ≤ 2
      · rw [decide_eq_true h2, if_neg (by decide)]
        exact e2 k (by omega)
      · rw [decide_eq_false h2, if_pos (by decide)]
        rfl
theorem spec_SchemaOk_fev (l : List S85) (hn : l.length ≤ 1048576) (hs : ∀ x ∈ l, x.f0.size ≤ 9223372036854775807) : Ev (fun k => spec_SchemaOk.f k l) (soR l) :=
  spec_SchemaOk_loop l hn hs l [] rfl
theorem spec_l04Short_fev (s : ByteArray) (hs : s.size ≤ 140737488351232) : Ev (fun k => spec_l04Short.f k s) (shortB s) := by
  refine ev_call (spec_l01Var_fev (s.size : Int) (by omega) (by omega)) (ev_some fun k => ?_) fun k => rfl
  have h4 := varB_size_le s.size (by omega)
  rw [Int.toNat_natCast, if_pos (by omega)]
  rfl
theorem spec_SchemaText_loop (l : List S85) (hn : l.length ≤ 3) (hs : ∀ x ∈ l, x.f0.size ≤ 4) : ∀ (d i : Nat) (acc : ByteArray), i + d = l.length → acc.size ≤ 100 * i → Ev (fun k => spec_SchemaText.l0 k l acc (i : Int)) (acc ++ schemaB (l.drop i), true) := by
  intro d
  induction d with
  | zero =>
    intro i acc hi ha
    refine ev_end fun k => ?_
    rw [spec_SchemaText.l0, if_neg (by omega), List.drop_eq_nil_of_le (by omega)]
    unfold schemaB
    rw [show acc ++ (⟨#[]⟩ : ByteArray) = acc from ByteArray.append_empty]
  | succ d ih =>
    intro i acc hi ha
    have hx := hs _ (rdOf_mem z85 l i (by omega))
    change (rd_T85 l (i : Int)).f0.size ≤ 4 at hx
    have hz := shortB_size_le _ (by omega : (rd_T85 l (i : Int)).f0.size ≤ 140737488351232)
    have h1 : (strOfNums [(rd_T85 l (i : Int)).f1 % 256]).size = 1 := by rw [strOfNums_size]; rfl
    obtain ⟨K1, e1⟩ := spec_l04Short_fev _ (by omega : (rd_T85 l (i : Int)).f0.size ≤ 140737488351232)
    obtain ⟨K2, e2⟩ := ih (i + 1) ((acc ++ strOfNums [(rd_T85 l (i : Int)).f1 % 256]) ++ shortB (rd_T85 l (i : Int)).f0) (by omega) (by rw [ByteArray.size_append, ByteArray.size_append]; omega)
    dsimp only at e1 e2
    have hd : l.drop i = rd_T85 l (i : Int) :: l.drop (i + 1) := drop_rdOf z85 l i (by omega)
    rw [hd]
    unfold schemaB
    refine ev_succ ⟨K1 + K2, fun k hk => ?_⟩
    rw [spec_SchemaText.l0, if_pos (by omega), if_pos (by omega), Option.bind_some, if_pos (by omega), e1 k (by omega), Option.bind_some, if_pos (by rw [ByteArray.size_append]; omega), w64 (by omega) (by omega)]
    have := e2 k (by omega)
    rw [ByteArray.append_assoc, ByteArray.append_assoc] at this
    rw [ByteArray.append_assoc, ByteArray.append_assoc]
    exact this
theorem spec_SchemaText_fev (l : List S85) (hn : l.length ≤ 1048576) (hs : ∀ x ∈ l, x.f0.size ≤ 9223372036854775807) : Ev (fun k => spec_SchemaText.f k l) (schemaTextR l) := by
  unfold schemaTextR
  refine ev_call (spec_SchemaOk_fev l hn hs) ?_ (fun k => rfl)
  cases h : soR l with
  | false => exact ev_some fun k => rfl
  | true =>
    obtain ⟨h1, h2, h3⟩ := soR_tells l h
    have := spec_SchemaText_loop l h2 (fun x hx => (fieldOkR_tells x (h3 x hx)).2.1) l.length 0 ⟨#[]⟩ (by omega) (Nat.zero_le _)
    rw [List.drop_zero, show (⟨#[]⟩ : ByteArray) ++ schemaB l = schemaB l from ByteArray.empty_append] at this
    exact this
def schFinS (t : ByteArray) (p : Int × Bool × List S85) : List S85 × Bool := if p.2.1 = false ∧ schemaTextR p.2.2 = (t, true) then (p.2.2, true) else ([], false)
theorem schFinS_text (t : ByteArray) (a : Int) (out : List S85) : schFinS t (a, false, out) = if (schemaTextR out).2 = true then (if (schemaTextR out).1.toList = t.toList then (out, true) else ([], false)) else ([], false) := by
  unfold schFinS
  rcases h : schemaTextR out with ⟨s, ok⟩
  dsimp only
  cases ok with
  | false => rw [if_neg (by simp), if_neg (by decide)]
  | true =>
    rw [if_pos rfl]
    by_cases c : s = t
    · rw [if_pos ⟨rfl, by rw [c]⟩, if_pos (by rw [c])]
    · rw [if_neg (by intro q; exact c (Prod.mk.inj q.2).1), if_neg (fun q => c ((toList_eq_iff _ _).1 q))]
theorem spec_ReadSchema_loop (t : ByteArray) (ht : t.size ≤ 140737488351232) : ∀ (d : Nat) (a : Int) (bad : Bool) (out : List S85), out.length + d = 4 → 0 ≤ a ∧ a ≤ (t.size : Int) → (∀ x ∈ out, x.f0.size ≤ 20000) → Ev (fun k => spec_ReadSchema.l0 k t out t a bad) (schFinS t (schS t d a bad out)) := by
  have ends : ∀ (a : Int) (out : List S85), out.length ≤ 4 → (∀ x ∈ out, x.f0.size ≤ 20000) → ∃ K, ∀ k, K ≤ k → spec_SchemaText.f k out = some (schemaTextR out) := by
    intro a out hl hs
    obtain ⟨K, e⟩ := spec_SchemaText_fev out (by omega) (fun x hx => by have := hs x hx; omega)
    exact ⟨K, e⟩
  have bads : ∀ (a : Int) (out : List S85), out.length ≤ 4 → (∀ x ∈ out, x.f0.size ≤ 20000) → Ev (fun k => spec_ReadSchema.l0 k t out t a true) ([], false) := by
    intro a out hl hs
    obtain ⟨K, e⟩ := ends a out hl hs
    refine ev_succ ⟨K, fun k hk => ?_⟩
    rw [spec_ReadSchema.l0]
    by_cases c : a < (t.size : Int)
    · rw [if_pos c, if_pos rfl, e k hk, Option.bind_some]
    · rw [if_neg c, e k hk, Option.bind_some, if_pos rfl]
  have whole : ∀ (a : Int) (out : List S85), out.length ≤ 4 → (∀ x ∈ out, x.f0.size ≤ 20000) → (¬ a < (t.size : Int) ∨ out.length = 4) → Ev (fun k => spec_ReadSchema.l0 k t out t a false) (schFinS t (a, false, out)) := by
    intro a out hl hs c
    obtain ⟨K, e⟩ := ends a out hl hs
    rw [schFinS_text]
    refine ev_succ ⟨K, fun k hk => ?_⟩
    rw [spec_ReadSchema.l0]
    by_cases c1 : a < (t.size : Int)
    · have : out.length = 4 := by rcases c with c | c; exact absurd c1 c; exact c
      rw [if_pos c1, if_neg (by decide), if_neg (by omega), e k hk, Option.bind_some]
      split
      · split <;> rfl
      · rfl
    · rw [if_neg c1, e k hk, Option.bind_some, if_neg (by decide)]
      split
      · split <;> rfl
      · rfl
  intro d
  induction d with
  | zero =>
    intro a bad out hl ha hs
    unfold schS
    cases bad with
    | true => exact bads a out (by omega) hs
    | false => exact whole a out (by omega) hs (.inr (by omega))
  | succ d ih =>
    intro a bad out hl ha hs
    unfold schS
    cases bad with
    | true =>
      rw [if_neg (by simp)]
      exact bads a out (by omega) hs
    | false =>
      by_cases c : a < (t.size : Int)
      · rw [if_pos ⟨c, rfl⟩]
        obtain ⟨K, e⟩ := spec_l04ReadShort_fev t ht (a + 1) false
        have hb := bt_range t a
        obtain ⟨K2, e2⟩ := ih (txtR t (a + 1) false).2.1 (txtR t (a + 1) false).2.2 (out ++ [⟨(txtR t (a + 1) false).1, bt t a⟩]) (by rw [List.length_append, List.length_singleton]; omega) (txtR_at t (a + 1) false ⟨by omega, by omega⟩) (by
          intro x hx
          rcases List.mem_append.1 hx with hx | hx
          · exact hs x hx
          · rw [List.mem_singleton.1 hx]; exact txtR_size t (a + 1) false)
        refine ev_succ ⟨K + K2, fun k hk => ?_⟩
        dsimp only at e e2
        rw [spec_ReadSchema.l0, if_pos c, if_neg (by decide), if_pos (by omega), if_pos ha.1, w64 (n := a + 1) (by omega) (by omega), e k (by omega), Option.bind_some, if_pos (by omega), w64 (n := bt t a) (by omega) (by omega)]
        exact e2 k (by omega)
      · rw [if_neg (fun h => c h.1)]
        exact whole a out (by omega) hs (.inl c)
theorem spec_ReadSchema_fev (t : ByteArray) (ht : t.size ≤ 140737488351232) : Ev (fun k => spec_ReadSchema.f k t) (readSchemaR t) :=
  spec_ReadSchema_loop t ht 4 0 false [] rfl ⟨Int.le_refl _, by omega⟩ (fun x hx => by cases hx)
theorem impl_in_eq (x a b : Int) : impl_in.f x a b = some (decide (a ≤ x ∧ x ≤ b)) := in_dec x a b
theorem impl_ReadVar_ev (s : ByteArray) (hs : s.size ≤ 140737488351232) (a : Nat) (ha : a ≤ s.size) : ∀ (d j : Nat) (n : Int), 5 - j = d → j ≤ 5 → a + j ≤ s.size → 0 ≤ n → n < 128 ^ j → decAt ((bytesOf s).drop a) j n →
    Ev (fun k => impl_ReadVar.l0 k s (a : Int) n (j : Int)) (rvL a ((bytesOf s).drop a)) := by
  have hrange : ∀ x ∈ (bytesOf s).drop a, 0 ≤ x ∧ x ≤ 255 := fun x hx => bytesOf_range s x (List.mem_of_mem_drop hx)
  intro d
  induction d with
  | zero =>
    intro j n hd hj hl h0 h1 hD
    obtain rfl : j = 5 := by omega
    rw [rvL_none (decAt_over hD)]
    refine ev_succ ⟨1, fun k hk => ?_⟩
    obtain ⟨k, rfl⟩ : ∃ m, k = m + 1 := ⟨k - 1, by omega⟩
    rw [impl_ReadVar.l0, if_neg (by omega), impl_ReadVar.j1, if_neg (by decide)]
  | succ d ih =>
    intro j n hd hj hl h0 h1 hD
    by_cases c : a + j < s.size
    · have hdrop : ((bytesOf s).drop a).drop j = bt s ((a : Int) + j) :: ((bytesOf s).drop (a + j + 1)) := by
        rw [List.drop_drop, bytesOf_drop s (a + j) c]
        rw [show ((a + j : Nat) : Int) = (a : Int) + j by omega]
      have hget : ((bytesOf s).drop a).getD j 0 = bt s ((a : Int) + j) := by
        have : ((bytesOf s).drop a)[j]? = some (bt s ((a : Int) + j)) := by
          have := congrArg (fun l : List Int => l[0]?) hdrop
          simpa using this
        rw [List.getD_eq_getElem?_getD, this]
        rfl
      have hb0 := bt_lo s ((a : Int) + j)
      have hb1 := bt_hi s ((a : Int) + j)
      obtain ⟨m1, m2, m3, m4⟩ := rv_mul j (by omega) n (bt s ((a : Int) + j)) h0 h1 hb0 hb1
      have m0 := rv_or j (by omega) n (bt s ((a : Int) + j)) h0 h1 hb0 hb1
      have hw : wrap64 (bt s ((a : Int) + j)) = bt s ((a : Int) + j) := w64 (by omega) (by omega)
      rw [hw] at m0
      by_cases cb : bt s ((a : Int) + j) < 128
      · have hE := decAt_end hD (by omega) hdrop cb
        have hC := decL_canon 5 _ _ _ hrange hE
        rw [show 1 + j - 1 = j by omega, hget] at hC
        rw [show bt s ((a : Int) + j) % 128 = bt s ((a : Int) + j) by omega] at m0 m1 m2 m3 m4
        refine ev_succ ⟨1, fun k hk => ?_⟩
        obtain ⟨k, rfl⟩ : ∃ m, k = m + 1 := ⟨k - 1, by omega⟩
        rw [impl_ReadVar.l0, if_pos (by omega), w64 (n := (a : Int) + j) (by omega) (by omega), decide_eq_true (by omega), impl_ReadVar.j1, if_pos rfl, w64 (n := (a : Int) + j) (by omega) (by omega), if_pos (by omega), if_pos (by omega), w64 (n := 7 * (j : Int)) (by omega) (by omega), if_pos (by omega), hw, if_neg (by omega)]
        rw [w64 (n := 7 * (j : Int)) (by omega) (by omega)] at m0
        rw [m0, w64 (n := (a : Int) + j + 1) (by omega) (by omega)]
        have hN : ¬ (n + 128 ^ j * bt s ((a : Int) + j) > 1000000000) → ¬ (bt s ((a : Int) + j) = 0 ∧ j > 0) → rvL a ((bytesOf s).drop a) = (n + 128 ^ j * bt s ((a : Int) + j), (a : Int) + j + 1, true) := by
          intro g1 g2
          rw [rvL_good hE (by omega) (hC.2 (fun h => g2 ⟨h.2, by omega⟩))]
          simp only [Prod.mk.injEq, and_true, true_and]
          omega
        have hM : n + 128 ^ j * bt s ((a : Int) + j) > 1000000000 → rvL a ((bytesOf s).drop a) = (0, 0, false) := fun g => rvL_bad hE (fun h => by omega)
        by_cases cz : bt s ((a : Int) + j) = 0
        · rw [if_pos cz]
          by_cases cj : (j : Int) > 0
          · rw [if_pos cj, rvL_bad hE]
            intro h
            exact hC.1 h.2 ⟨by omega, cz⟩
          · rw [if_neg cj]
            by_cases cm : n + 128 ^ j * bt s ((a : Int) + j) > 1000000000
            · rw [if_pos cm, hM cm]
            · rw [if_neg cm, hN cm (by omega)]
        · rw [if_neg cz]
          by_cases cm : n + 128 ^ j * bt s ((a : Int) + j) > 1000000000
          · rw [if_pos cm, hM cm]
          · rw [if_neg cm, hN cm (by omega)]
      · have hN := decAt_next hD (by omega) hdrop cb
        rw [show bt s ((a : Int) + j) % 128 = bt s ((a : Int) + j) - 128 by omega] at m0 m1 m2 m3 m4
        have hi := ih (j + 1) _ (by omega) (by omega) (by omega) m2 m3 hN
        obtain ⟨K, hK⟩ := hi
        dsimp only at hK
        refine ev_succ ⟨K + 1, fun k hk => ?_⟩
        obtain ⟨k, rfl⟩ : ∃ m, k = m + 1 := ⟨k - 1, by omega⟩
        rw [w64 (n := 7 * (j : Int)) (by omega) (by omega)] at m0
        rw [impl_ReadVar.l0, if_pos (by omega), w64 (n := (a : Int) + j) (by omega) (by omega), decide_eq_true (by omega), impl_ReadVar.j1, if_pos rfl, w64 (n := (a : Int) + j) (by omega) (by omega), if_pos (by omega), if_pos (by omega), w64 (n := 7 * (j : Int)) (by omega) (by omega), if_pos (by omega), hw, if_pos (by omega), m0, w64 (n := (j : Int) + 1) (by omega) (by omega)]
        have := hK k (by omega)
        simp only [Int.natCast_add, Int.natCast_one] at this
        exact this
    · have hdrop : ((bytesOf s).drop a).drop j = [] := by
        rw [List.drop_drop, List.drop_eq_nil_iff, bytesOf_length]; omega
      rw [rvL_none (decAt_short hD hdrop)]
      refine ev_succ ⟨1, fun k hk => ?_⟩
      obtain ⟨k, rfl⟩ : ∃ m, k = m + 1 := ⟨k - 1, by omega⟩
      rw [impl_ReadVar.l0, if_pos (by omega), w64 (n := (a : Int) + j) (by omega) (by omega), decide_eq_false (by omega), impl_ReadVar.j1, if_neg (by decide)]
theorem impl_ReadVar_fev (s : ByteArray) (hs : s.size ≤ 140737488351232) (a : Int) : Ev (fun k => impl_ReadVar.f k s a) (rvR s a) := by
  unfold rvR
  by_cases c : 0 ≤ a ∧ a ≤ (s.size : Int)
  · rw [if_pos c]
    have := impl_ReadVar_ev s hs a.toNat (by omega) 5 0 0 (by omega) (by omega) (by omega) (by omega) (by simp) (decAt_zero _)
    rw [show ((a.toNat : Nat) : Int) = a by omega] at this
    simp only [Int.natCast_zero] at this
    refine Ev.congr (fun k => ?_) this
    unfold impl_ReadVar.f impl_in.f
    rw [if_pos (by omega), Option.bind_some, decide_eq_true (by omega), if_pos rfl]
  · rw [if_neg c]
    refine ev_some fun k => ?_
    unfold impl_ReadVar.f impl_in.f
    by_cases c1 : a ≥ 0
    · rw [if_pos c1, Option.bind_some, decide_eq_false (by omega), if_neg (by decide)]
    · rw [if_neg c1, Option.bind_some, if_neg (by decide)]
theorem impl_ReadShort_fev (s : ByteArray) (hs : s.size ≤ 140737488351232) (a : Int) : Ev (fun k => impl_ReadShort.f k s a) (rsR s a) := by
  refine ev_call (impl_ReadVar_fev s hs a) (ev_some fun k => ?_) (fun k => rfl)
  unfold rsR
  rcases hr : rvR s a with ⟨n, nx, ok⟩
  cases ok with
  | false => simp
  | true =>
    obtain ⟨u, h1, h2, h3, h4, h5, h6, h7, h8⟩ := rvR_tells s a n nx hr
    simp only [if_true, true_and]
    rw [w64 (n := (s.size : Int) - nx) (by omega) (by omega)]
    by_cases c : n ≤ 20000
    · rw [if_neg (by omega)]
      by_cases c2 : n ≤ (s.size : Int) - nx
      · rw [if_neg (by omega), if_pos (by omega), w64 (n := nx + n) (by omega) (by omega), if_pos (by omega), if_pos (by omega), if_pos ⟨c, c2⟩]
      · rw [if_pos (by omega), if_neg (by omega)]
    · rw [if_pos (by omega), if_neg (by omega)]
theorem impl_FieldAt_eq (l : List S85) (name : ByteArray) : impl_FieldAt.f l name = some (faR l name) := rfl
theorem impl_lettersOk_loop (s : ByteArray) (hs : s.size ≤ 9223372036854775807) (most : Int) : ∀ (d i : Nat), i + d = s.size → Ev (fun k => impl_lettersOk.l0 k s most (s.size : Int) (i : Int)) (lettersL ((bytesOf s).drop i) && decide (1 ≤ (s.size : Int) ∧ (s.size : Int) ≤ most)) := by
  intro d
  induction d with
  | zero =>
    intro i hi
    refine ev_end fun k => ?_
    rw [impl_lettersOk.l0, if_neg (by omega), impl_in_eq, Option.bind_some, List.drop_eq_nil_of_le (by rw [bytesOf_length]; omega)]
    rfl
  | succ d ih =>
    intro i hi
    rw [bytesOf_drop s i (by omega), lettersL_cons]
    by_cases c1 : bt s (i : Int) < 97
    · rw [decide_eq_false (by omega)]
      refine ev_end fun k => ?_
      rw [impl_lettersOk.l0, if_pos (by omega), if_pos (by omega), if_pos (by omega), if_pos c1]
      rfl
    · by_cases c2 : bt s (i : Int) > 122
      · rw [decide_eq_false (by omega)]
        refine ev_end fun k => ?_
        rw [impl_lettersOk.l0, if_pos (by omega), if_pos (by omega), if_pos (by omega), if_neg c1, if_pos c2]
        rfl
      · rw [decide_eq_true (by omega), Bool.true_and]
        refine ev_go (ih (i + 1) (by omega)) fun k => ?_
        rw [impl_lettersOk.l0, if_pos (by omega), if_pos (by omega), if_pos (by omega), if_neg c1, if_neg c2, w64 (by omega) (by omega)]
        rfl
theorem impl_lettersOk_fev (s : ByteArray) (hs : s.size ≤ 9223372036854775807) (most : Int) : Ev (fun k => impl_lettersOk.f k s most) (wordR s most) :=
  impl_lettersOk_loop s hs most s.size 0 (by omega)
theorem impl_SchemaOk_loop (l : List S85) (hn : l.length ≤ 1048576) (hs : ∀ x ∈ l, x.f0.size ≤ 9223372036854775807) : ∀ (rest pre : List S85), l = pre ++ rest → Ev (fun k => impl_SchemaOk.l0 k l l (l.length : Int) (pre.length : Int)) (soL (l.length : Int) pre rest) := by
  intro rest
  induction rest with
  | nil =>
    intro pre hl
    have : l.length = pre.length := by rw [hl, List.append_nil]
    refine ev_end fun k => ?_
    rw [impl_SchemaOk.l0, if_neg (by omega), impl_in_eq, Option.bind_some]
    rfl
  | cons x t ih =>
    intro pre hl
    have hlen : l.length = pre.length + 1 + t.length := by rw [hl, List.length_append, List.length_cons]; omega
    have hx : rd_T85 l (pre.length : Int) = x := by rw [hl]; exact rdOf_mid z85 pre t x _ rfl
    have hxs := hs x (by rw [hl]; simp)
    have hn' := ih (pre ++ [x]) (by rw [hl]; simp)
    rw [List.length_append, List.length_singleton, show ((pre.length + 1 : Nat) : Int) = (pre.length : Int) + 1 by omega] at hn'
    have hown := idxP_own (fun y : S85 => y.f0.toList == x.f0.toList) pre t x (beq_iff_eq.2 rfl)
    rw [← hl] at hown
    obtain ⟨K1, e1⟩ := impl_lettersOk_fev x.f0 hxs 4
    obtain ⟨K2, e2⟩ := hn'
    dsimp only at e1 e2
    unfold soL fieldOkR
    refine ev_succ ⟨K1 + K2, fun k hk => ?_⟩
    rw [impl_SchemaOk.l0, if_pos (by omega), if_pos (by omega), if_pos (by omega), hx, e1 _ (by omega), Option.bind_some]
    cases h1 : wordR x.f0 4 with
    | false => rw [if_neg (by decide)]; rfl
    | true =>
      rw [if_pos rfl, impl_in_eq, Option.bind_some]
      by_cases h2 : 1 ≤ x.f1 ∧ x.f1 ≤ 2
      · rw [decide_eq_true h2, if_pos rfl, impl_FieldAt_eq, Option.bind_some]
        simp only [Bool.and_self, if_true]
        unfold faR
        by_cases h3 : pre.any (fun y => y.f0.toList == x.f0.toList) = true
        · rw [if_neg (fun h => by rw [hown.1 h] at h3; cases h3), if_pos h3]
        · rw [if_pos (hown.2 (by simpa using h3)), if_neg h3, w64 (by omega) (by omega)]
          exact e2 k (by omega)
      · rw [decide_eq_false h2, if_neg (by decide)]
        rfl
theorem impl_SchemaOk_fev (l : List S85) (hn : l.length ≤ 1048576) (hs : ∀ x ∈ l, x.f0.size ≤ 9223372036854775807) : Ev (fun k => impl_SchemaOk.f k l) (soR l) :=
  impl_SchemaOk_loop l hn hs l [] rfl
def schFin (o : Option (List S85)) : List S85 × Bool := match o with | none => ([], false) | some out => if soR out = true then (out, true) else ([], false)
theorem impl_ReadSchema_loop (t : ByteArray) (ht : t.size ≤ 140737488351232) : ∀ (d : Nat) (a : Int) (out : List S85), out.length + d = 3 → 0 ≤ a ∧ a ≤ (t.size : Int) → (∀ x ∈ out, x.f0.size ≤ 20000) → Ev (fun k => impl_ReadSchema.l0 k t out a) (schFin (schP t d a out)) := by
  have ends : ∀ (a : Int) (out : List S85), out.length ≤ 3 → (∀ x ∈ out, x.f0.size ≤ 20000) → ¬ a < (t.size : Int) → Ev (fun k => impl_ReadSchema.l0 k t out a) (schFin (some out)) := by
    intro a out hl hs c
    obtain ⟨K, e⟩ := impl_SchemaOk_fev out (by omega) (fun x hx => by have := hs x hx; omega)
    refine ev_succ ⟨K, fun k hk => ?_⟩
    dsimp only at e
    rw [impl_ReadSchema.l0, if_neg c, e k hk, Option.bind_some]
    unfold schFin
    dsimp only
    split <;> rfl
  intro d
  induction d with
  | zero =>
    intro a out hl ha hs
    unfold schP
    by_cases c : a < (t.size : Int)
    · rw [if_pos c]
      obtain ⟨K, e⟩ := impl_ReadShort_fev t ht (a + 1)
      refine ev_succ ⟨K, fun k hk => ?_⟩
      dsimp only at e
      rw [impl_ReadSchema.l0, if_pos c, w64 (by omega) (by omega), e k hk, Option.bind_some]
      split
      · rw [if_pos (by omega)]; rfl
      · rfl
    · rw [if_neg c]
      exact ends a out (by omega) hs c
  | succ d ih =>
    intro a out hl ha hs
    unfold schP
    by_cases c : a < (t.size : Int)
    · rw [if_pos c]
      obtain ⟨K, e⟩ := impl_ReadShort_fev t ht (a + 1)
      have hb := bt_range t a
      rcases hr : rsR t (a + 1) with ⟨s, b, ok⟩
      rw [hr] at e
      cases ok with
      | false =>
        rw [if_neg (by simp)]
        refine ev_succ ⟨K, fun k hk => ?_⟩
        dsimp only at e
        rw [impl_ReadSchema.l0, if_pos c, w64 (by omega) (by omega), e k hk, Option.bind_some, if_neg (by simp)]
        rfl
      | true =>
        obtain ⟨g1, g2⟩ := rsR_took hr
        rw [if_pos rfl]
        obtain ⟨K2, e2⟩ := ih b (out ++ [⟨s, bt t a⟩]) (by rw [List.length_append, List.length_singleton]; omega) ⟨by have := g1.1; have := g1.2.2.1; omega, g1.2.1⟩ (by
          intro x hx
          rcases List.mem_append.1 hx with hx | hx
          · exact hs x hx
          · rw [List.mem_singleton.1 hx]; exact g2)
        refine ev_succ ⟨K + K2, fun k hk => ?_⟩
        dsimp only at e e2
        rw [impl_ReadSchema.l0, if_pos c, w64 (n := a + 1) (by omega) (by omega), e k (by omega), Option.bind_some, if_pos rfl, if_neg (by omega), if_pos ha.1, if_pos (by omega), w64 (n := bt t a) (by omega) (by omega)]
        exact e2 k (by omega)
    · rw [if_neg c]
      exact ends a out (by omega) hs c
theorem impl_ReadSchema_fev (t : ByteArray) (ht : t.size ≤ 140737488351232) : Ev (fun k => impl_ReadSchema.f k t) (readSchemaR t) := by
  have h := impl_ReadSchema_loop t ht 3 0 [] rfl ⟨Int.le_refl _, by omega⟩ (fun x hx => by cases hx)
  have e : schFin (schP t 3 0 []) = readSchemaR t := by rw [readSchemaR_impl]; rfl
  rw [e] at h
  exact h
theorem laws_eqField_same (b : ByteArray) (a : Int) : laws_eqField.f b a b a = some true := by
  unfold laws_eqField.f
  rw [if_pos rfl, if_pos rfl]
theorem laws_eqFieldS_loop (a : List S85) (hb : a.length ≤ 9223372036854775807) : ∀ (d i : Nat), i + d = a.length → Ev (fun k => laws_eqFieldS.l0 k a a (i : Int)) true := by
  intro d
  induction d with
  | zero =>
    intro i hi
    refine ev_end fun k => ?_
    rw [laws_eqFieldS.l0, if_neg (by omega)]
  | succ d ih =>
    intro i hi
    refine ev_go (ih (i + 1) (by omega)) fun k => ?_
    rw [laws_eqFieldS.l0, if_pos (by omega), if_pos (by omega), if_pos (by omega), laws_eqField_same, Option.bind_some, if_pos rfl, w64 (by omega) (by omega)]
    rfl
theorem laws_eqFieldS_same (a : List S85) (hb : a.length ≤ 9223372036854775807) : Ev (fun k => laws_eqFieldS.f k a a) true := by
  refine Ev.congr (fun k => ?_) (laws_eqFieldS_loop a hb a.length 0 (by omega))
  unfold laws_eqFieldS.f
  rw [if_pos rfl]
  rfl
theorem laws_markText_loop : ∀ (n : Nat) (acc : ByteArray), acc.size + n ≤ 4611686018427387904 → Ev (fun k => laws_markText.l0 k (n : Int) acc) (mtB n acc) := by
  intro n
  induction n using Nat.strongRecOn with
  | ind n ih =>
    intro acc h
    by_cases c : n = 0
    · subst c
      rw [mtB_zero]
      refine ev_end fun k => ?_
      rw [laws_markText.l0, if_neg (by omega), if_pos (by omega)]
    · rw [mtB_pos c]
      have hsz : (strOfNums [(48 + (n : Int) % 10) % 256]).size = 1 := by rw [strOfNums_size]; rfl
      refine ev_go (ih (n / 10) (by omega) (strOfNums [(48 + (n : Int) % 10) % 256] ++ acc) (by rw [ByteArray.size_append]; omega)) fun k => ?_
      have e1 : wrap64 (Int.tdiv (n : Int) 10) = ((n / 10 : Nat) : Int) := by rw [Int.tdiv_eq_ediv_of_nonneg (by omega), w64 (by omega) (by omega)]; omega
      have e2 : wrap64 (48 + Int.tmod (n : Int) 10) = 48 + (n : Int) % 10 := by rw [Int.tmod_eq_emod_of_nonneg (by omega), w64 (by omega) (by omega)]
      rw [laws_markText.l0, if_pos (by omega), Option.bind_some, e1, e2, if_pos (by rw [hsz]; omega)]
theorem laws_markText_fev (k : Int) (h : k ≤ 4611686018427387904) : Ev (fun f => laws_markText.f f k) (mtR k) := by
  unfold mtR
  by_cases c : k ≤ 0
  · rw [if_pos c]
    exact ev_some fun f => by unfold laws_markText.f; rw [if_pos c]
  · rw [if_neg c]
    have := laws_markText_loop k.toNat ⟨#[]⟩ (by have : (⟨#[]⟩ : ByteArray).size = 0 := rfl; omega)
    rw [Int.toNat_of_nonneg (by omega)] at this
    refine Ev.congr (fun f => ?_) this
    unfold laws_markText.f
    rw [if_neg c]
def marksField (k : Int) : Nat → List S85
  | 0 => []
  | n + 1 => ⟨mtR k, k + 1⟩ :: marksField (k + 2) n
theorem marksField_length (n : Nat) : ∀ k, (marksField k n).length = n := by
  induction n with
  | zero => intro k; rfl
  | succ n ih => intro k; unfold marksField; rw [List.length_cons, ih]
theorem laws_markFieldS_loop : ∀ (d i : Nat) (pre rest : List S85) (k : Int), pre.length = i → rest.length = d → i + d ≤ 1048576 → 0 ≤ k → k + 2 * d ≤ 4611686018427387904 → Ev (fun f => laws_markFieldS.l0 f (pre ++ rest) k (i : Int)) (k + 2 * d, pre ++ marksField k d) := by
  intro d
  induction d with
  | zero =>
    intro i pre rest k hp hr hl h0 h1
    refine ev_end fun f => ?_
    rw [List.eq_nil_of_length_eq_zero hr, laws_markFieldS.l0, if_neg (by rw [List.append_nil]; omega)]
    simp [marksField]
  | succ d ih =>
    intro i pre rest k hp hr hl h0 h1
    obtain ⟨x, t, rfl⟩ : ∃ x t, rest = x :: t := by
      cases rest with
      | nil => simp at hr
      | cons x t => exact ⟨x, t, rfl⟩
    have hn := ih (i + 1) (pre ++ [⟨mtR k, k + 1⟩]) t (k + 2) (by simp; omega) (by simp at hr; omega) (by omega) (by omega) (by omega)
    rw [List.append_assoc, List.singleton_append, List.append_assoc, List.singleton_append, show k + 2 + 2 * (d : Int) = k + 2 * ((d + 1 : Nat) : Int) by omega] at hn
    obtain ⟨K1, e1⟩ := laws_markText_fev k (by omega)
    obtain ⟨K2, e2⟩ := hn
    dsimp only at e1 e2
    refine ev_succ ⟨K1 + K2, fun f hf => ?_⟩
    rw [laws_markFieldS.l0, if_pos (by rw [List.length_append, List.length_cons]; omega), e1 f (by omega), Option.bind_some, if_pos (by omega), Option.bind_some, Int.toNat_natCast, set_mid pre t x _ i hp, set_mid pre t _ _ i hp, w64 (n := k + 1) (by omega) (by omega), w64 (n := k + 1 + 1) (by omega) (by omega), w64 (n := (i : Int) + 1) (by omega) (by omega)]
    have e3 : (rd_T85 (pre ++ (⟨mtR k, (rd_T85 (pre ++ x :: t) (i : Int)).f1⟩ : S85) :: t) (i : Int)).f0 = mtR k := congrArg S85.f0 (rdOf_mid z85 pre t _ i hp)
    rw [e3, show k + 1 + 1 = k + 2 by omega]
    exact e2 f (by omega)
theorem laws_markFieldS_fev (l : List S85) (k : Int) (hl : l.length ≤ 1048576) (h0 : 0 ≤ k) (h1 : k ≤ 1099511627776) : Ev (fun f => laws_markFieldS.f f l k) (k + 2 * l.length, marksField k l.length) :=
  laws_markFieldS_loop l.length 0 [] l k rfl rfl (by omega) h0 (by omega)
theorem laws_heldFieldS_loop (l : List S85) (hl : l.length ≤ 1048576) : ∀ (d i : Nat) (k : Int), i + d = l.length → l.drop i = marksField k d → 0 ≤ k → k + 2 * d ≤ 4611686018427387904 → Ev (fun f => laws_heldFieldS.l0 f l k (i : Int)) (k + 2 * d) := by
  intro d
  induction d with
  | zero =>
    intro i k hi hd h0 h1
    refine ev_end fun f => ?_
    rw [laws_heldFieldS.l0, if_neg (by omega)]
    simp
  | succ d ih =>
    intro i k hi hd h0 h1
    rw [drop_rdOf z85 l i (by omega)] at hd
    unfold marksField at hd
    obtain ⟨hx, ht⟩ := List.cons.inj hd
    change rd_T85 l (i : Int) = _ at hx
    have hn := ih (i + 1) (k + 2) (by omega) ht (by omega) (by omega)
    rw [show k + 2 + 2 * (d : Int) = k + 2 * ((d + 1 : Nat) : Int) by omega] at hn
    obtain ⟨K1, e1⟩ := laws_markText_fev k (by omega)
    obtain ⟨K2, e2⟩ := hn
    dsimp only at e1 e2
    refine ev_succ ⟨K1 + K2, fun f hf => ?_⟩
    rw [laws_heldFieldS.l0, if_pos (by omega), if_pos (by omega), e1 f (by omega), Option.bind_some, hx, if_pos rfl, w64 (n := k + 1) (by omega) (by omega), if_pos rfl, w64 (n := k + 1 + 1) (by omega) (by omega), w64 (n := (i : Int) + 1) (by omega) (by omega), show k + 1 + 1 = k + 2 by omega]
    exact e2 f (by omega)
theorem laws_heldFieldS_fev (n : Nat) (k : Int) (hn : n ≤ 1048576) (h0 : 0 ≤ k) (h1 : k ≤ 1099511627776) : Ev (fun f => laws_heldFieldS.f f (marksField k n) k) (k + 2 * n) :=
  laws_heldFieldS_loop (marksField k n) (by rw [marksField_length]; exact hn) n 0 k (by rw [marksField_length]; omega) rfl h0 (by omega)
end Go.Proofs.Ytbjlpmhhcigkdaa.VFnExactReadSchema
namespace Go.Proofs.Ytbjlpmhhcigkdaa.Pure
open Go.Proofs.Ytbjlpmhhcigkdaa.VFnExactReadSchema
set_option linter.unusedVariables false
set_option linter.unusedSimpArgs false
open Go Go.RowKit Go.Proofs.YtbjlpmhhcigkdaaW.PrintWords Go.Proofs.YtbjlpmhhcigkdaaW.PrintLast Go.Proofs.YtbjlpmhhcigkdaaW.PrintMore
theorem readSchemaR_length (t : ByteArray) : (readSchemaR t).1.length ≤ 3 := by
  rcases h : readSchemaR t with ⟨l, ok⟩
  cases ok with
  | false => rw [readSchemaR_no h]; exact Nat.zero_le _
  | true =>
    obtain ⟨h1, _⟩ := schemaTextR_tells (readSchemaR_tells h)
    exact (soR_tells l h1).2.1
theorem FnExactReadSchema : laws_FnExactReadSchema.Pure := by
  intro t ht
  by_cases c : (t.size : Int) > 1048576
  · exact ⟨0, by unfold laws_FnExactReadSchema.f; rw [if_pos c]⟩
  · obtain ⟨K1, e1⟩ := spec_ReadSchema_fev t ht
    obtain ⟨K2, e2⟩ := impl_ReadSchema_fev t ht
    have hl := readSchemaR_length t
    generalize readSchemaR t = r at e1 e2 hl
    obtain ⟨l, ok⟩ := r
    dsimp only at hl
    obtain ⟨K3, e3⟩ := laws_eqFieldS_same l (by omega)
    obtain ⟨K4, e4⟩ := laws_markFieldS_fev l 1 (by omega) (by omega) (by omega)
    obtain ⟨K5, e5⟩ := laws_heldFieldS_fev l.length 1 (by omega) (by omega) (by omega)
    dsimp only at e1 e2 e3 e4 e5
    refine ⟨K1 + K2 + K3 + K4 + K5 + 2, ?_⟩
    unfold laws_FnExactReadSchema.f
    rw [if_neg c, e1 _ (by omega), Option.bind_some, e2 _ (by omega), Option.bind_some, e3 _ (by omega), Option.bind_some, if_pos rfl, bne_self_eq_false]
    rw [laws_FnExactReadSchema.j0, if_neg (by decide), e4 _ (by omega), Option.bind_some, e5 _ (by omega), Option.bind_some, if_neg (by omega), if_pos rfl, e2 _ (by omega), Option.bind_some, e3 _ (by omega), Option.bind_some, if_pos rfl, bne_self_eq_false]
    rw [laws_FnExactReadSchema.j1, if_neg (by decide), e5 _ (by omega), Option.bind_some, if_neg (by omega), if_pos rfl]
end Go.Proofs.Ytbjlpmhhcigkdaa.Pure
