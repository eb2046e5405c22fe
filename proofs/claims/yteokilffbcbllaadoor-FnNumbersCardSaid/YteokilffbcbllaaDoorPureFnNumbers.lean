/- The printed form of FnNumbers answers true at every input that its bounds let in; no other conditions. -/
import Derived.Test.YteokilffbcbllaaDoorVFnNumbersx4
import Derived.Test.YteokilffbcbllaaDoorG
import Derived.Lib.Bytealg
import Derived.Lib.AtoiTie
import Derived.Lib.AtoiAllCases
import Derived.Lib.Fields
namespace Go.Proofs.YteokilffbcbllaaDoor.VFnNumbers
set_option linter.unusedVariables false
set_option linter.unusedSimpArgs false
open Go Go.RowKit Go.Proofs.YteokilffbcbllaaDoorW.PrintWords Go.Proofs.YteokilffbcbllaaDoorW.PrintLast Go.Proofs.YteokilffbcbllaaDoorW.PrintMore
theorem w64 {n : Int} (h : -9223372036854775808 ≤ n) (h' : n ≤ 9223372036854775807) : wrap64 n = n := by
  unfold wrap64; omega
theorem ev_some {α : Type} {g : Nat → Option α} {r : α} (h : ∀ k, g k = some r) : Ev g r := ⟨0, fun k _ => h k⟩
theorem ev_succ {α : Type} {g : Nat → Option α} {r : α} (h : ∃ K, ∀ k, K ≤ k → g (k + 1) = some r) : Ev g r := by
  obtain ⟨K, h⟩ := h
  refine ⟨K + 1, fun k hk => ?_⟩
  obtain ⟨m, rfl⟩ : ∃ m, k = m + 1 := ⟨k - 1, by omega⟩
  exact h m (by omega)
/-- One round that goes on. -/
theorem ev_go {α : Type} {g f : Nat → Option α} {r : α} (hf : Ev f r) (h : ∀ k, g (k + 1) = f k) : Ev g r := Ev.step h hf
/-- One round that ends. -/
theorem ev_end {α : Type} {g : Nat → Option α} {r : α} (h : ∀ k, g (k + 1) = some r) : Ev g r := ev_succ ⟨0, fun k _ => h k⟩
/-- One call, then the rest. -/
theorem ev_call {α β : Type} {g : Nat → Option α} {f : Nat → Option β} {c : Nat → β → Option α} {b : β} {r : α} (hf : Ev f b) (hc : Ev (fun k => c k b) r) (h : ∀ k, g k = (f k).bind (c k)) : Ev g r :=
  Ev.congr h (Ev.bind hf hc)
theorem bt_lo (s : ByteArray) (i : Int) : 0 ≤ bt s i := (bt_range s i).1
theorem bt_hi (s : ByteArray) (i : Int) : bt s i ≤ 255 := (bt_range s i).2
theorem bytesOf_drop (s : ByteArray) (i : Nat) (h : i < s.size) : (bytesOf s).drop i = bt s (i : Int) :: (bytesOf s).drop (i + 1) := by
  have hl : i < (bytesOf s).length := by rw [bytesOf_length]; exact h
  rw [List.drop_eq_getElem_cons hl]
  congr 1
  rw [← rd_bytesOf s (i : Int)]
  unfold rd
  rw [Int.toNat_natCast]
  simp [List.getD, hl]
theorem bytesOf_range (s : ByteArray) : ∀ x ∈ bytesOf s, 0 ≤ x ∧ x ≤ 255 := by
  intro x hx
  unfold bytesOf at hx
  obtain ⟨b, _, rfl⟩ := List.mem_map.1 hx
  have := b.toNat_lt
  omega
theorem strOfNums_bytesOf (s : ByteArray) : strOfNums (bytesOf s) = s := by
  apply ByteArray.ext
  apply Array.toList_inj.1
  rw [strOfNums_data]
  unfold bytesOf
  rw [List.map_map]
  conv => rhs; rw [← List.map_id s.data.toList]
  apply List.map_congr_left
  intro b _
  simp
theorem bytesOf_strOfNums (xs : List Int) (h : ∀ x ∈ xs, 0 ≤ x ∧ x ≤ 255) : bytesOf (strOfNums xs) = xs := by
  unfold bytesOf
  rw [strOfNums_data, List.map_map]
  conv => rhs; rw [← List.map_id xs]
  apply List.map_congr_left
  intro b hb
  have := h b hb
  simp only [Function.comp, UInt8.toNat_ofNat', id]
  omega
theorem bytesOf_extract (s : ByteArray) (a b : Nat) : bytesOf (s.extract a b) = ((bytesOf s).drop a).take (b - a) := by
  unfold bytesOf
  rw [ByteArray.data_extract, Array.toList_extract, List.extract_eq_take_drop, List.map_take, List.map_drop]
theorem bytesOf_append (s t : ByteArray) : bytesOf (s ++ t) = bytesOf s ++ bytesOf t := by
  unfold bytesOf
  rw [ByteArray.data_append, Array.toList_append, List.map_append]
theorem bytesOf_inj {s t : ByteArray} (h : bytesOf s = bytesOf t) : s = t := by
  rw [← strOfNums_bytesOf s, ← strOfNums_bytesOf t, h]
theorem bytesOf_length_drop (s : ByteArray) (i : Nat) : ((bytesOf s).drop i).length = s.size - i := by rw [List.length_drop, bytesOf_length]
def varL (n : Nat) : List Int := if n > 127 then ((n : Int) % 128 + 128) :: varL (n / 128) else [(n : Int)]
termination_by n
decreasing_by omega
theorem varL_big {n : Nat} (h : n > 127) : varL n = ((n : Int) % 128 + 128) :: varL (n / 128) := by rw [varL, if_pos h]
theorem varL_small {n : Nat} (h : ¬ n > 127) : varL n = [(n : Int)] := by rw [varL, if_neg h]
theorem varL_range (n : Nat) : ∀ x ∈ varL n, 0 ≤ x ∧ x ≤ 255 := by
  induction n using Nat.strongRecOn with
  | ind n ih =>
    intro x hx
    by_cases h : n > 127
    · rw [varL_big h] at hx
      rcases List.mem_cons.1 hx with rfl | hx
      · omega
      · exact ih _ (by omega) x hx
    · rw [varL_small h] at hx
      have := List.mem_singleton.1 hx
      omega
theorem varL_length_le (j : Nat) : ∀ n : Nat, n < 128 ^ j → (varL n).length ≤ max j 1 := by
  induction j with
  | zero => intro n hn; simp at hn; subst hn; rw [varL_small (by omega)]; simp
  | succ j ih =>
    intro n hn
    by_cases h : n > 127
    · rw [varL_big h]
      have : n / 128 < 128 ^ j := by rw [Nat.pow_succ] at hn; exact Nat.div_lt_of_lt_mul (by omega)
      have := ih _ this
      cases j with
      | zero => omega
      | succ j => simp only [List.length_cons]; omega
    · rw [varL_small h, List.length_singleton]; omega
def varB (n : Nat) : ByteArray := strOfNums (varL n)
theorem varB_size (n : Nat) : (varB n).size = (varL n).length := strOfNums_size _
theorem varB_size_le (n : Nat) (h : n ≤ 9223372036854775807) : (varB n).size ≤ 10 := by
  rw [varB_size]
  have := varL_length_le 10 n (by omega)
  omega
theorem i64_and127 (x : Int) (h₀ : 0 ≤ x) (h₁ : x ≤ 9223372036854775807) : Go.bits .and .i64 x 127 = x % 128 :=
  Go.bits_mask .i64 63 (by decide) (fun n a b => by rw [IntKind.wrap_i64]; omega) 7 (by decide) x h₀ (by omega)
theorem i64_or_join (i : Nat) (x y : Int) (hx₀ : 0 ≤ x) (hx : x % 2 ^ i = 0) (hx₁ : x ≤ 9223372036854775807) (hy₀ : 0 ≤ y) (hy : y < 2 ^ i) (hy₁ : y ≤ 9223372036854775807) : Go.bits .or .i64 x y = x + y :=
  Go.bits_join .i64 63 (by decide) (fun n a b => by rw [IntKind.wrap_i64]; omega) i x y hx₀ hx (by omega) hy₀ hy (by omega)
theorem i64_or_comm (x y : Int) : Go.bits .or .i64 x y = Go.bits .or .i64 y x := by
  unfold Go.bits
  simp only [BitVec.or_comm]
theorem i64_or128 (x : Int) (h₀ : 0 ≤ x) (h₁ : x < 128) : Go.bits .or .i64 x 128 = x + 128 := by
  rw [i64_or_comm, i64_or_join 7 128 x (by omega) (by decide) (by omega) h₀ (by omega) (by omega)]
  omega
def shortB (s : ByteArray) : ByteArray := varB s.size ++ s
def shortR (s : ByteArray) : ByteArray × Bool := if (s.size : Int) > 20000 then (⟨#[]⟩, false) else (shortB s, true)
def varR (n : Int) : ByteArray × Bool := if 0 ≤ n ∧ n ≤ 1000000000 then (varB n.toNat, true) else (⟨#[]⟩, false)
def decL : Nat → List Int → Option (Int × Nat)
  | 0, _ => none
  | _ + 1, [] => none
  | f + 1, b :: t => if b < 128 then some (b, 1) else (decL f t).map fun p => (b - 128 + 128 * p.1, p.2 + 1)
def rvL (at_ : Int) (L : List Int) : Int × Int × Bool :=
  match decL 5 L with
  | none => (0, 0, false)
  | some p => if p.1 ≤ 1000000000 ∧ varL p.1.toNat = L.take p.2 then (p.1, at_ + p.2, true) else (0, 0, false)
def rvR (s : ByteArray) (a : Int) : Int × Int × Bool :=
  if 0 ≤ a ∧ a ≤ (s.size : Int) then rvL a ((bytesOf s).drop a.toNat) else (0, 0, false)
theorem decL_pos (f : Nat) : ∀ (l : List Int) (m : Int) (u : Nat), (∀ x ∈ l, 0 ≤ x ∧ x ≤ 255) → decL f l = some (m, u) → 0 ≤ m ∧ m < 128 ^ f ∧ 1 ≤ u ∧ u ≤ f ∧ u ≤ l.length := by
  induction f with
  | zero => intro l m u _ h; simp [decL] at h
  | succ f ih =>
    intro l m u hr h
    cases l with
    | nil => simp [decL] at h
    | cons b t =>
      have hb := hr b (by simp)
      simp only [decL] at h
      have hp : (1 : Int) ≤ 128 ^ f := by have := Nat.one_le_two_pow (n := 7 * f); rw [Nat.pow_mul] at this; exact_mod_cast this
      by_cases c : b < 128
      · rw [if_pos c] at h
        simp only [Option.some.injEq, Prod.mk.injEq] at h
        obtain ⟨rfl, rfl⟩ := h
        refine ⟨hb.1, ?_, by omega, by omega, by simp⟩
        rw [Int.pow_succ]; omega
      · rw [if_neg c] at h
        obtain ⟨⟨m', u'⟩, h1, h2⟩ := Option.map_eq_some_iff.1 h
        simp only [Prod.mk.injEq] at h2
        obtain ⟨rfl, rfl⟩ := h2
        obtain ⟨g1, g2, g3, g4, g5⟩ := ih t m' u' (fun x hx => hr x (by simp [hx])) h1
        refine ⟨by omega, ?_, by omega, by omega, by simp only [List.length_cons]; omega⟩
        rw [Int.pow_succ]; omega
theorem decL_zero (f : Nat) : ∀ (l : List Int) (m : Int) (u : Nat), (∀ x ∈ l, 0 ≤ x ∧ x ≤ 255) → decL f l = some (m, u) → m = 0 → l.getD (u - 1) 0 = 0 := by
  induction f with
  | zero => intro l m u _ h; simp [decL] at h
  | succ f ih =>
    intro l m u hr h hm
    cases l with
    | nil => simp
    | cons b t =>
      have hb := hr b (by simp)
      simp only [decL] at h
      by_cases c : b < 128
      · rw [if_pos c] at h
        simp only [Option.some.injEq, Prod.mk.injEq] at h
        obtain ⟨rfl, rfl⟩ := h
        simpa using hm
      · rw [if_neg c] at h
        obtain ⟨⟨m', u'⟩, h1, h2⟩ := Option.map_eq_some_iff.1 h
        simp only [Prod.mk.injEq] at h2
        obtain ⟨rfl, rfl⟩ := h2
        have hr' : ∀ x ∈ t, 0 ≤ x ∧ x ≤ 255 := fun x hx => hr x (by simp [hx])
        obtain ⟨g1, g2, g3, g4, g5⟩ := decL_pos f t m' u' hr' h1
        have := ih t m' u' hr' h1 (by omega)
        obtain ⟨v, rfl⟩ : ∃ v, u' = v + 1 := ⟨u' - 1, by omega⟩
        simpa using this
theorem decL_canon (f : Nat) : ∀ (l : List Int) (m : Int) (u : Nat), (∀ x ∈ l, 0 ≤ x ∧ x ≤ 255) → decL f l = some (m, u) → (varL m.toNat = l.take u ↔ ¬ (u > 1 ∧ l.getD (u - 1) 0 = 0)) := by
  induction f with
  | zero => intro l m u _ h; simp [decL] at h
  | succ f ih =>
    intro l m u hr h
    cases l with
    | nil => simp [decL] at h
    | cons b t =>
      have hb := hr b (by simp)
      simp only [decL] at h
      by_cases c : b < 128
      · rw [if_pos c] at h
        simp only [Option.some.injEq, Prod.mk.injEq] at h
        obtain ⟨rfl, rfl⟩ := h
        rw [varL_small (by omega)]
        simp
        omega
      · rw [if_neg c] at h
        obtain ⟨⟨m', u'⟩, h1, h2⟩ := Option.map_eq_some_iff.1 h
        simp only [Prod.mk.injEq] at h2
        obtain ⟨rfl, rfl⟩ := h2
        have hr' : ∀ x ∈ t, 0 ≤ x ∧ x ≤ 255 := fun x hx => hr x (by simp [hx])
        obtain ⟨g1, g2, g3, g4, g5⟩ := decL_pos f t m' u' hr' h1
        have hi := ih t m' u' hr' h1
        have hz := decL_zero f t m' u' hr' h1
        obtain ⟨v, rfl⟩ : ∃ v, u' = v + 1 := ⟨u' - 1, by omega⟩
        have e0 : (b :: t).getD (v + 1 + 1 - 1) 0 = t.getD v 0 := by simp
        rw [e0, List.take_succ_cons]
        simp only [Nat.add_sub_cancel] at hi hz
        by_cases z : m' = 0
        · have := hz z
          rw [varL_small (by omega)]
          constructor
          · intro h
            have := (List.cons.inj h).1
            omega
          · intro h
            exact absurd ⟨by omega, this⟩ h
        · rw [varL_big (by omega), show (b - 128 + 128 * m').toNat / 128 = m'.toNat by omega, show (((b - 128 + 128 * m').toNat : Int) % 128 + 128) = b by omega]
          rw [List.cons_inj_right, hi]
          by_cases hv : v = 0
          · subst hv
            have : t.getD 0 0 ≠ 0 := by
              cases f with
              | zero => simp [decL] at h1
              | succ f =>
                cases t with
                | nil => simp [decL] at h1
                | cons y t =>
                  simp only [decL] at h1
                  by_cases c2 : y < 128
                  · rw [if_pos c2] at h1
                    simp only [Option.some.injEq, Prod.mk.injEq] at h1
                    simp; omega
                  · simp; omega
            constructor
            · intro _ h; exact this h.2
            · intro _ h; omega
          · constructor
            · intro h ⟨_, h2⟩; exact h ⟨by omega, h2⟩
            · intro h ⟨_, h2⟩; exact h ⟨by omega, h2⟩
theorem decL_varL (f : Nat) : ∀ (n : Nat) (t : List Int), n < 128 ^ f → 0 < f → decL f (varL n ++ t) = some ((n : Int), (varL n).length) := by
  induction f with
  | zero => intro n t _ h; omega
  | succ f ih =>
    intro n t hn _
    by_cases c : n > 127
    · rw [varL_big c, List.cons_append]
      simp only [decL]
      rw [if_neg (by omega)]
      have h1 : n / 128 < 128 ^ f := by rw [Nat.pow_succ] at hn; exact Nat.div_lt_of_lt_mul (by omega)
      cases f with
      | zero => simp at hn; omega
      | succ f =>
        rw [ih (n / 128) t h1 (by omega)]
        simp only [Option.map_some, List.length_cons, Option.some.injEq, Prod.mk.injEq, and_true]
        omega
    · rw [varL_small c]
      simp only [List.cons_append, List.nil_append, decL]
      rw [if_pos (by omega)]
      simp
theorem decL_step (b : Int) (t : List Int) (f : Nat) : decL (f + 1) (b :: t) = if b < 128 then some (b, 1) else (decL f t).map fun p => (b - 128 + 128 * p.1, p.2 + 1) := rfl
theorem decL_nil (f : Nat) : decL f [] = none := by cases f <;> rfl
/-- What is left to read behind j bytes that go on. -/
def decAt (L : List Int) (j : Nat) (n : Int) : Prop := decL 5 L = (decL (5 - j) (L.drop j)).map fun p => (n + 128 ^ j * p.1, p.2 + j)
theorem decAt_zero (L : List Int) : decAt L 0 0 := by
  unfold decAt
  simp
theorem decAt_end {L : List Int} {j : Nat} {n b : Int} {t : List Int} (h : decAt L j n) (hj : j < 5) (ht : L.drop j = b :: t) (hb : b < 128) : decL 5 L = some (n + 128 ^ j * b, 1 + j) := by
  unfold decAt at h
  rw [h, ht, show 5 - j = (4 - j) + 1 by omega, decL_step, if_pos hb]
  rfl
theorem decAt_next {L : List Int} {j : Nat} {n b : Int} {t : List Int} (h : decAt L j n) (hj : j < 5) (ht : L.drop j = b :: t) (hb : ¬ b < 128) : decAt L (j + 1) (n + 128 ^ j * (b - 128)) := by
  unfold decAt at h ⊢
  have hd : L.drop (j + 1) = t := by rw [← List.drop_drop, ht]; simp
  rw [h, ht, hd, show 5 - j = (4 - j) + 1 by omega, decL_step, if_neg hb, Option.map_map, show 5 - (j + 1) = 4 - j by omega]
  congr 1
  funext p
  simp only [Function.comp, Prod.mk.injEq]
  refine ⟨?_, by omega⟩
  rw [Int.pow_succ, Int.mul_add, Int.mul_assoc, Int.add_assoc]
theorem decAt_short {L : List Int} {j : Nat} {n : Int} (h : decAt L j n) (ht : L.drop j = []) : decL 5 L = none := by
  unfold decAt at h
  rw [h, ht, decL_nil]
  rfl
theorem decAt_over {L : List Int} {n : Int} (h : decAt L 5 n) : decL 5 L = none := by
  unfold decAt at h
  rw [h]
  rfl
theorem rvL_none {a : Int} {L : List Int} (h : decL 5 L = none) : rvL a L = (0, 0, false) := by unfold rvL; rw [h]
theorem rvL_good {a : Int} {L : List Int} {n : Int} {u : Nat} (h : decL 5 L = some (n, u)) (h1 : n ≤ 1000000000) (h2 : varL n.toNat = L.take u) : rvL a L = (n, a + u, true) := by
  unfold rvL; rw [h]; simp only; rw [if_pos ⟨h1, h2⟩]
theorem rvL_bad {a : Int} {L : List Int} {n : Int} {u : Nat} (h : decL 5 L = some (n, u)) (h1 : ¬ (n ≤ 1000000000 ∧ varL n.toNat = L.take u)) : rvL a L = (0, 0, false) := by
  unfold rvL; rw [h]; simp only; rw [if_neg h1]
theorem rvL_tells {a : Int} {L : List Int} {n nx : Int} (hr : ∀ x ∈ L, 0 ≤ x ∧ x ≤ 255) (h : rvL a L = (n, nx, true)) : ∃ u : Nat, 0 ≤ n ∧ n ≤ 1000000000 ∧ varL n.toNat = L.take u ∧ nx = a + u ∧ 1 ≤ u ∧ u ≤ L.length ∧ u ≤ 5 := by
  unfold rvL at h
  cases h5 : decL 5 L with
  | none => rw [h5] at h; simp at h
  | some p =>
    obtain ⟨m, u⟩ := p
    rw [h5] at h
    simp only at h
    by_cases c : m ≤ 1000000000 ∧ varL m.toNat = L.take u
    · rw [if_pos c] at h
      simp only [Prod.mk.injEq, and_true] at h
      obtain ⟨rfl, rfl⟩ := h
      obtain ⟨g1, g2, g3, g4, g5⟩ := decL_pos 5 L m u hr h5
      exact ⟨u, g1, c.1, c.2, rfl, g3, g5, g4⟩
    · rw [if_neg c] at h
      simp at h
theorem rvL_reads (a : Int) (n : Nat) (t : List Int) (h : n ≤ 1000000000) : rvL a (varL n ++ t) = ((n : Int), a + (varL n).length, true) :=
  rvL_good (decL_varL 5 n t (by omega) (by omega)) (by omega) (by simp)
theorem pow128 (j : Nat) (hj : j < 5) : (128 : Int) ^ j = 1 ∧ j = 0 ∨ (128 : Int) ^ j = 128 ∧ j = 1 ∨ (128 : Int) ^ j = 16384 ∧ j = 2 ∨ (128 : Int) ^ j = 2097152 ∧ j = 3 ∨ (128 : Int) ^ j = 268435456 ∧ j = 4 := by
  have : j = 0 ∨ j = 1 ∨ j = 2 ∨ j = 3 ∨ j = 4 := by omega
  rcases this with rfl | rfl | rfl | rfl | rfl <;> simp
theorem rv_mul (j : Nat) (hj : j < 5) (n b : Int) (hn0 : 0 ≤ n) (hn : n < 128 ^ j) (hb0 : 0 ≤ b) (hb : b ≤ 255) :
    wrap64 (n + wrap64 (Int.tmod (wrap64 b) 128 * 128 ^ j)) = n + 128 ^ j * (b % 128) ∧ 0 ≤ n + 128 ^ j * (b % 128) ∧ n + 128 ^ j * (b % 128) < 128 ^ (j + 1) ∧ n + 128 ^ j * (b % 128) ≤ 34359738368 := by
  rw [w64 (n := b) (by omega) (by omega), Int.tmod_eq_emod_of_nonneg hb0, Int.pow_succ]
  rcases pow128 j hj with ⟨h, _⟩ | ⟨h, _⟩ | ⟨h, _⟩ | ⟨h, _⟩ | ⟨h, _⟩ <;> (rw [h] at hn ⊢; rw [w64 (n := b % 128 * _) (by omega) (by omega), w64 (by omega) (by omega)]; omega)
theorem rv_or (j : Nat) (hj : j < 5) (n b : Int) (hn0 : 0 ≤ n) (hn : n < 128 ^ j) (hb0 : 0 ≤ b) (hb : b ≤ 255) :
    Go.bits .or .i64 n (shl .i64 (Go.bits .and .i64 (wrap64 b) 127) (wrap64 (7 * (j : Int)))) = n + 128 ^ j * (b % 128) := by
  rw [w64 (n := b) (by omega) (by omega), w64 (n := 7 * (j : Int)) (by omega) (by omega), i64_and127 b hb0 (by omega)]
  unfold shl
  rw [IntKind.wrap_i64]
  have e : min (7 * (j : Int)).toNat IntKind.i64.bits = 7 * j := by
    have : IntKind.i64.bits = 64 := rfl
    omega
  rw [e, i64_or_comm]
  have hj' : j = 0 ∨ j = 1 ∨ j = 2 ∨ j = 3 ∨ j = 4 := by omega
  rcases hj' with rfl | rfl | rfl | rfl | rfl
  · simp only [Nat.mul_zero, Int.pow_zero, Int.mul_one, Int.one_mul] at hn ⊢
    rw [show n = 0 by omega, show (b % 128 + 9223372036854775808) % 18446744073709551616 - 9223372036854775808 = b % 128 by omega, i64_or_join 0 (b % 128) 0 (by omega) (by simp) (by omega) (by omega) (by omega) (by omega)]
    omega
  · rw [show (128 : Int) ^ 1 = 128 by decide] at hn ⊢
    rw [show (b % 128 * 2 ^ (7 * 1) + 9223372036854775808) % 18446744073709551616 - 9223372036854775808 = 128 * (b % 128) by omega, i64_or_join 7 (128 * (b % 128)) n (by omega) (by omega) (by omega) (by omega) (by omega) (by omega)]
    omega
  · rw [show (128 : Int) ^ 2 = 16384 by decide] at hn ⊢
    rw [show (b % 128 * 2 ^ (7 * 2) + 9223372036854775808) % 18446744073709551616 - 9223372036854775808 = 16384 * (b % 128) by omega, i64_or_join 14 (16384 * (b % 128)) n (by omega) (by omega) (by omega) (by omega) (by omega) (by omega)]
    omega
  · rw [show (128 : Int) ^ 3 = 2097152 by decide] at hn ⊢
    rw [show (b % 128 * 2 ^ (7 * 3) + 9223372036854775808) % 18446744073709551616 - 9223372036854775808 = 2097152 * (b % 128) by omega, i64_or_join 21 (2097152 * (b % 128)) n (by omega) (by omega) (by omega) (by omega) (by omega) (by omega)]
    omega
  · rw [show (128 : Int) ^ 4 = 268435456 by decide] at hn ⊢
    rw [show (b % 128 * 2 ^ (7 * 4) + 9223372036854775808) % 18446744073709551616 - 9223372036854775808 = 268435456 * (b % 128) by omega, i64_or_join 28 (268435456 * (b % 128)) n (by omega) (by omega) (by omega) (by omega) (by omega) (by omega)]
    omega
def fig (x : Int) : Int := if x < 10 then 48 + x else 87 + x
def hexL : List Int → List Int
  | [] => []
  | b :: t => fig (b / 16) :: fig (b % 16) :: hexL t
def hexR (s : ByteArray) : ByteArray × Bool := if (s.size : Int) > 20000 then (⟨#[]⟩, false) else (strOfNums (hexL (bytesOf s)), true)
theorem fig_range (x : Int) (h0 : 0 ≤ x) (h : x < 16) : 48 ≤ fig x ∧ fig x ≤ 102 := by unfold fig; split <;> omega
theorem bt_figs (x : Int) (h0 : 0 ≤ x) (h : x < 16) : bt (⟨#[48, 49, 50, 51, 52, 53, 54, 55, 56, 57, 97, 98, 99, 100, 101, 102]⟩ : ByteArray) x = fig x := by
  have : x = 0 ∨ x = 1 ∨ x = 2 ∨ x = 3 ∨ x = 4 ∨ x = 5 ∨ x = 6 ∨ x = 7 ∨ x = 8 ∨ x = 9 ∨ x = 10 ∨ x = 11 ∨ x = 12 ∨ x = 13 ∨ x = 14 ∨ x = 15 := by omega
  rcases this with rfl | rfl | rfl | rfl | rfl | rfl | rfl | rfl | rfl | rfl | rfl | rfl | rfl | rfl | rfl | rfl <;> rfl
theorem rvR_tells (s : ByteArray) (a n nx : Int) (h : rvR s a = (n, nx, true)) : ∃ u : Nat, 0 ≤ a ∧ 0 ≤ n ∧ n ≤ 1000000000 ∧ nx = a + u ∧ 1 ≤ u ∧ u ≤ 5 ∧ nx ≤ (s.size : Int) ∧ varL n.toNat = ((bytesOf s).drop a.toNat).take u := by
  unfold rvR at h
  by_cases c : 0 ≤ a ∧ a ≤ (s.size : Int)
  · rw [if_pos c] at h
    obtain ⟨u, h1, h2, h3, h4, h5, h6, h7⟩ := rvL_tells (fun x hx => bytesOf_range s x (List.mem_of_mem_drop hx)) h
    rw [bytesOf_length_drop] at h6
    exact ⟨u, c.1, h1, h2, h4, h5, h7, by omega, h3⟩
  · rw [if_neg c] at h
    simp at h
def rsR (s : ByteArray) (a : Int) : ByteArray × Int × Bool :=
  if (rvR s a).2.2 = true ∧ (rvR s a).1 ≤ 20000 ∧ (rvR s a).1 ≤ (s.size : Int) - (rvR s a).2.1 then (s.extract (rvR s a).2.1.toNat ((rvR s a).2.1 + (rvR s a).1).toNat, (rvR s a).2.1 + (rvR s a).1, true) else (⟨#[]⟩, 0, false)
section
variable {α β : Type}
theorem rd_get (xs : List Int) (i : Nat) (h : i < xs.length) : rd xs (i : Int) = xs[i] := by
  unfold rd
  rw [Int.toNat_natCast]
  simp [List.getD, h]
theorem rd_mem (xs : List Int) (i : Nat) (h : i < xs.length) : rd xs (i : Int) ∈ xs := by
  rw [rd_get xs i h]; exact List.getElem_mem h
end
theorem i64_and_range (y m : Int) (h0 : 0 ≤ m) (h1 : m ≤ 9223372036854775807) : 0 ≤ Go.bits .and .i64 y m ∧ Go.bits .and .i64 y m ≤ m := by
  unfold Go.bits
  simp only
  rw [IntKind.wrap_i64, BitVec.toNat_and]
  have h2 : (2 : Nat) ^ IntKind.i64.bits = 18446744073709551616 := by decide
  have h3 : (BitVec.ofInt IntKind.i64.bits m).toNat = m.toNat := by
    rw [BitVec.toNat_ofInt, h2]; omega
  rw [h3]
  have := Nat.and_le_right (n := (BitVec.ofInt IntKind.i64.bits y).toNat) (m := m.toNat)
  omega
theorem in_dec (x a b : Int) : (if x ≥ a then some (decide (x ≤ b)) else some false) = some (decide (a ≤ x ∧ x ≤ b)) := by
  by_cases c : x ≥ a
  · rw [if_pos c]
    congr 1
    by_cases d : x ≤ b
    · rw [decide_eq_true d, decide_eq_true ⟨c, d⟩]
    · rw [decide_eq_false d, decide_eq_false (fun h => d h.2)]
  · rw [if_neg c, decide_eq_false (fun h => c h.1)]
def Took (s : ByteArray) (a b : Int) (x : ByteArray) : Prop := 0 ≤ a ∧ b ≤ (s.size : Int) ∧ b = a + (x.size : Int) ∧ (bytesOf s).drop a.toNat = bytesOf x ++ (bytesOf s).drop b.toNat
theorem Took.trans {s : ByteArray} {a b c : Int} {x y : ByteArray} (h : Took s a b x) (g : Took s b c y) : Took s a c (x ++ y) := by
  obtain ⟨h1, h2, h3, h4⟩ := h
  obtain ⟨g1, g2, g3, g4⟩ := g
  refine ⟨h1, g2, by rw [ByteArray.size_append]; omega, ?_⟩
  rw [h4, g4, bytesOf_append, List.append_assoc]
theorem Took.all (s x t : ByteArray) : Took (s ++ x ++ t) (s.size : Int) ((s.size : Int) + (x.size : Int)) x := by
  refine ⟨by omega, by rw [ByteArray.size_append, ByteArray.size_append]; omega, rfl, ?_⟩
  have e1 : (bytesOf s).length = s.size := bytesOf_length s
  have e2 : (bytesOf x).length = x.size := bytesOf_length x
  have e3 : ((s.size : Int) + (x.size : Int)).toNat = s.size + x.size := by omega
  have l1 : ((bytesOf s) ++ (bytesOf x ++ bytesOf t)).drop s.size = bytesOf x ++ bytesOf t := List.drop_left' e1
  have l2 : ((bytesOf s) ++ (bytesOf x ++ bytesOf t)).drop (s.size + x.size) = bytesOf t := by rw [← List.drop_drop, l1]; exact List.drop_left' e2
  rw [bytesOf_append, bytesOf_append, List.append_assoc, Int.toNat_natCast, e3, l1, l2]
theorem Took.extract {s : ByteArray} {a b : Int} {x : ByteArray} (h : Took s a b x) : s.extract a.toNat b.toNat = x := by
  obtain ⟨h1, h2, h3, h4⟩ := h
  apply bytesOf_inj
  rw [bytesOf_extract, h4, show b.toNat - a.toNat = (bytesOf x).length by rw [bytesOf_length]; omega, List.take_left']
  rfl
theorem bytesOf_varB (n : Nat) : bytesOf (varB n) = varL n := bytesOf_strOfNums _ (varL_range n)
theorem rvR_reads {s : ByteArray} {a b : Int} {n : Nat} (h : Took s a b (varB n)) (hn : n ≤ 1000000000) : rvR s a = ((n : Int), b, true) := by
  obtain ⟨h1, h2, h3, h4⟩ := h
  unfold rvR
  rw [if_pos ⟨h1, by omega⟩, h4, bytesOf_varB, rvL_reads a n _ hn, h3, varB_size]
theorem Took.split {s x y : ByteArray} {a c : Int} (h : Took s a c (x ++ y)) : Took s a (a + (x.size : Int)) x ∧ Took s (a + (x.size : Int)) c y := by
  obtain ⟨h1, h2, h3, h4⟩ := h
  rw [ByteArray.size_append] at h3
  rw [bytesOf_append, List.append_assoc] at h4
  have e : (bytesOf s).drop (a + (x.size : Int)).toNat = bytesOf y ++ (bytesOf s).drop c.toNat := by
    rw [show (a + (x.size : Int)).toNat = a.toNat + x.size by omega, ← List.drop_drop, h4, ← bytesOf_length x, List.drop_left']
    rfl
  exact ⟨⟨h1, by omega, rfl, by rw [e]; exact h4⟩, ⟨by omega, h2, by omega, e⟩⟩
theorem rsR_reads {s t : ByteArray} {a b : Int} (h : Took s a b (shortB t)) (ht : t.size ≤ 20000) : rsR s a = (t, b, true) := by
  obtain ⟨g1, g2⟩ := Took.split (x := varB t.size) (y := t) h
  have hr := rvR_reads g1 (by omega)
  unfold rsR
  rw [hr]
  dsimp only
  have hz := g2.2.2.1
  have hb := g2.2.1
  rw [if_pos ⟨rfl, by omega, by omega⟩, ← hz, g2.extract]
/-- What a hexadecimal digit is worth; -1 for any other byte. -/
def hexVal (x : Int) : Int := if 48 ≤ x ∧ x ≤ 57 then x - 48 else if 97 ≤ x ∧ x ≤ 102 then x - 87 else -1
set_option maxRecDepth 100000 in
theorem hexVal_index (x : Int) (h0 : 0 ≤ x) (h1 : x ≤ 255) : Lib.indexByte [48, 49, 50, 51, 52, 53, 54, 55, 56, 57, 97, 98, 99, 100, 101, 102] x.toNat.toUInt8 = hexVal x := by
  obtain ⟨n, rfl⟩ := Int.eq_ofNat_of_zero_le h0
  have hall : ∀ m : Fin 256, Lib.indexByte [48, 49, 50, 51, 52, 53, 54, 55, 56, 57, 97, 98, 99, 100, 101, 102] (m.val).toUInt8 = hexVal (m.val : Int) := by decide
  exact hall ⟨n, by omega⟩
theorem hexVal_range (x : Int) : hexVal x = -1 ∨ 0 ≤ hexVal x ∧ hexVal x ≤ 15 := by
  unfold hexVal
  split
  · right; omega
  · split
    · right; omega
    · left; rfl
/-- Two digits a byte; none if one of them is no digit. -/
def unhexL : List Int → Option (List Int)
  | h :: l :: t => if hexVal h < 0 ∨ hexVal l < 0 then none else (unhexL t).map fun u => (16 * hexVal h + hexVal l) :: u
  | _ => some []
def unhexO (acc : List Int) : Option (List Int) → ByteArray × Bool
  | none => (⟨#[]⟩, false)
  | some l => (strOfNums (acc ++ l), true)
def unhexR (s : ByteArray) : ByteArray × Bool := if (s.size : Int) > 40000 ∨ s.size % 2 ≠ 0 then (⟨#[]⟩, false) else unhexO [] (unhexL (bytesOf s))
theorem unhexO_step (acc t : List Int) (h l : Int) (c : ¬ (hexVal h < 0 ∨ hexVal l < 0)) : unhexO acc (unhexL (h :: l :: t)) = unhexO (acc ++ [16 * hexVal h + hexVal l]) (unhexL t) := by
  rw [unhexL, if_neg c]
  cases unhexL t with
  | none => rfl
  | some u => simp [unhexO]
theorem unhexO_no (acc t : List Int) (h l : Int) (c : hexVal h < 0 ∨ hexVal l < 0) : unhexO acc (unhexL (h :: l :: t)) = (⟨#[]⟩, false) := by
  rw [unhexL, if_pos c]
  rfl
set_option maxRecDepth 100000 in
theorem hex_or (h l : Int) (h0 : 0 ≤ h) (h1 : h ≤ 15) (l0 : 0 ≤ l) (l1 : l ≤ 15) : (Go.bits .or .i64 (wrap64 (h * 16)) l) % 256 = 16 * h + l := by
  obtain ⟨m, rfl⟩ := Int.eq_ofNat_of_zero_le h0
  obtain ⟨n, rfl⟩ := Int.eq_ofNat_of_zero_le l0
  have hall : ∀ a b : Fin 16, (Go.bits .or .i64 (wrap64 ((a.val : Int) * 16)) (b.val : Int)) % 256 = 16 * (a.val : Int) + (b.val : Int) := by decide +kernel
  exact hall ⟨m, by omega⟩ ⟨n, by omega⟩
theorem unhex_two (s : ByteArray) (i : Nat) (h : i + 2 ≤ s.size) : (bytesOf s).drop i = bt s (i : Int) :: bt s ((i + 1 : Nat) : Int) :: (bytesOf s).drop (i + 2) := by
  rw [bytesOf_drop s i (by omega), bytesOf_drop s (i + 1) (by omega)]
theorem dd_small {u : Nat} (h : u < 10) : Lib.decDigits u = [UInt8.ofNat (48 + u)] := by rw [Lib.decDigits, dif_pos h]
theorem dd_big {u : Nat} (h : ¬ u < 10) : Lib.decDigits u = Lib.decDigits (u / 10) ++ [UInt8.ofNat (48 + u % 10)] := by rw [Lib.decDigits, dif_neg h]
def itoaB (n : Int) : ByteArray := ⟨(Lib.itoa n).toArray⟩
theorem itoaB_data (n : Int) : (itoaB n).data.toList = Lib.itoa n := rfl
/-- A digit's byte, read back. -/
theorem digitVal_dig (d : Nat) (h : d < 10) : Lib.digitVal (UInt8.ofNat (48 + d)) = some d := by
  have e : (UInt8.ofNat (48 + d)).toNat = 48 + d := by
    rw [UInt8.toNat_ofNat']
    omega
  unfold Lib.digitVal
  rw [e, if_pos (by omega)]
  congr 1
  omega
theorem decFrom_snoc : ∀ (l : List UInt8) (acc n : Nat) (b : UInt8) (d : Nat), Lib.decFrom acc l = some n → Lib.digitVal b = some d → Lib.decFrom acc (l ++ [b]) = some (n * 10 + d)
  | [], acc, n, b, d, h, hb => by
    unfold Lib.decFrom at h
    obtain rfl := Option.some.inj h
    simp [Lib.decFrom, hb]
  | c :: l, acc, n, b, d, h, hb => by
    rw [List.cons_append]
    unfold Lib.decFrom at h ⊢
    cases hc : Lib.digitVal c with
    | none => rw [hc] at h; cases h
    | some e =>
      rw [hc] at h
      exact decFrom_snoc l _ n b d h hb
theorem decFrom_dd (u : Nat) : Lib.decFrom 0 (Lib.decDigits u) = some u := by
  induction u using Nat.strongRecOn with
  | ind u ih =>
    by_cases c : u < 10
    · rw [dd_small c]
      have := decFrom_snoc [] 0 0 (UInt8.ofNat (48 + u)) u rfl (digitVal_dig u c)
      simpa using this
    · rw [dd_big c, decFrom_snoc _ 0 (u / 10) _ (u % 10) (ih _ (by omega)) (digitVal_dig _ (by omega))]
      congr 1
      omega
theorem dd_ne (u : Nat) : Lib.decDigits u ≠ [] := by
  by_cases c : u < 10
  · rw [dd_small c]; simp
  · rw [dd_big c]; simp
theorem dd_length_le (j : Nat) : ∀ u : Nat, u < 10 ^ j → (Lib.decDigits u).length ≤ max j 1 := by
  induction j with
  | zero => intro u h; simp at h; subst h; rw [dd_small (by omega)]; simp
  | succ j ih =>
    intro u h
    by_cases c : u < 10
    · rw [dd_small c]; simp only [List.length_singleton]; omega
    · have h2 : u / 10 < 10 ^ j := by rw [Nat.pow_succ] at h; exact Nat.div_lt_of_lt_mul (by omega)
      have := ih _ h2
      rw [dd_big c, List.length_append, List.length_singleton]
      cases j with
      | zero => omega
      | succ j => omega
theorem dd_head (u : Nat) : ∃ b r, Lib.decDigits u = b :: r ∧ 48 ≤ b.toNat ∧ b.toNat ≤ 57 := by
  cases h : Lib.decDigits u with
  | nil => exact absurd h (dd_ne u)
  | cons b r =>
    have h1 := decFrom_dd u
    rw [h] at h1
    unfold Lib.decFrom at h1
    cases hb : Lib.digitVal b with
    | none => rw [hb] at h1; cases h1
    | some e =>
      obtain ⟨p, q, _⟩ := Lib.digitVal_eq hb
      exact ⟨b, r, rfl, p, q⟩
theorem atoi_dd (u : Nat) : Lib.atoi (Lib.decDigits u) = some (u : Int) := by
  obtain ⟨b, r, h, p, q⟩ := dd_head u
  have h1 := decFrom_dd u
  rw [h] at h1 ⊢
  show (if b == 45 then (Lib.decNat r).map (fun (m : Nat) => -(m : Int)) else if b == 43 then (Lib.decNat r).map (fun (m : Nat) => (m : Int)) else (Lib.decNat (b :: r)).map (fun (m : Nat) => (m : Int))) = some (u : Int)
  have b45 : (b == 45) = false := by
    rw [beq_eq_false_iff_ne]
    rintro rfl
    exact absurd p (by decide)
  have b43 : (b == 43) = false := by
    rw [beq_eq_false_iff_ne]
    rintro rfl
    exact absurd p (by decide)
  rw [b45, b43, if_neg (by decide), if_neg (by decide)]
  unfold Lib.decNat
  rw [List.isEmpty_cons, if_neg (by decide), h1]
  rfl
theorem atoiAll_dd (u : Nat) (h : u ≤ 1000000000) : Lib.atoiAll (Lib.decDigits u) = .ok (u : Int) := by
  have hl := dd_length_le 10 u (by omega)
  rw [Lib.atoiAll_short _ (by omega), atoi_dd]
  rfl
theorem itoa_nat (u : Nat) : Lib.itoa (u : Int) = Lib.decDigits u := by
  unfold Lib.itoa
  rw [if_neg (by omega), Int.toNat_natCast]
/-- What ReadDecimal answers. -/
def rdR (s : ByteArray) : Int × Bool :=
  match Lib.decFrom 0 s.data.toList with
  | some u => if u ≤ 1000000000 ∧ Lib.decDigits u = s.data.toList then ((u : Int), true) else (0, false)
  | none => (0, false)
theorem rdR_yes (s : ByteArray) (u : Nat) (h : u ≤ 1000000000) (e : Lib.decDigits u = s.data.toList) : rdR s = ((u : Int), true) := by
  unfold rdR
  rw [← e, decFrom_dd]
  exact if_pos ⟨h, rfl⟩
theorem rdR_no (s : ByteArray) (h : ∀ u, u ≤ 1000000000 → Lib.decDigits u ≠ s.data.toList) : rdR s = (0, false) := by
  unfold rdR
  cases Lib.decFrom 0 s.data.toList with
  | none => rfl
  | some u => exact if_neg (fun q => h u q.1 q.2)
theorem rdR_cases (s : ByteArray) : (∃ u, u ≤ 1000000000 ∧ Lib.decDigits u = s.data.toList ∧ rdR s = ((u : Int), true)) ∨ ((∀ u, u ≤ 1000000000 → Lib.decDigits u ≠ s.data.toList) ∧ rdR s = (0, false)) := by
  by_cases h : ∃ u, u ≤ 1000000000 ∧ Lib.decDigits u = s.data.toList
  · obtain ⟨u, h1, h2⟩ := h
    exact .inl ⟨u, h1, h2, rdR_yes s u h1 h2⟩
  · have h' : ∀ u, u ≤ 1000000000 → Lib.decDigits u ≠ s.data.toList := fun u h1 h2 => h ⟨u, h1, h2⟩
    exact .inr ⟨h', rdR_no s h'⟩
theorem impl_Decimal_is (n : Int) (h : -9223372036854775808 ≤ n ∧ n ≤ 9223372036854775807) : impl_Decimal.f n = some (itoaB n) := by
  unfold impl_Decimal.f
  rw [if_pos h]
  rfl
theorem impl_in_eq (x a b : Int) : impl_in.f x a b = some (decide (a ≤ x ∧ x ≤ b)) := in_dec x a b
theorem impl_ReadDecimal_is (s : ByteArray) (hs : s.size ≤ 281474976710656) : impl_ReadDecimal.f s = some (rdR s) := by
  unfold impl_ReadDecimal.f
  rw [if_pos hs]
  rcases rdR_cases s with ⟨u, h1, h2, h3⟩ | ⟨h1, h2⟩
  · rw [h3, ← h2, atoiAll_dd u h1]
    dsimp only
    rw [if_pos ⟨by omega, by omega, itoa_nat u⟩]
  · rw [h2]
    rcases Lib.atoiAll s.data.toList with v | _ | _
    · dsimp only
      rw [if_neg]
      rintro ⟨p, q, e⟩
      obtain ⟨u, rfl⟩ := Int.eq_ofNat_of_zero_le p
      exact h1 u (by omega) ((itoa_nat u).symm.trans e)
    · rfl
    · rfl
theorem spec_l01Byte_draws (b : List Int) (hb : b.length ≤ 140737488351232) (i h : Int) (hi : 0 ≤ i) : ∃ x i' h' : Int, spec_l01Byte.f b i h = some (x, i', h') ∧ 0 ≤ x ∧ x ≤ 255 ∧ 0 ≤ i' := by
  unfold spec_l01Byte.f
  by_cases c : i < (b.length : Int)
  · rw [if_pos c, if_pos hi, w64 (n := i + 1) (by omega) (by omega)]
    have hr := fun y => i64_and_range y 255 (by omega) (by omega)
    exact ⟨_, _, _, rfl, (hr _).1, (hr _).2, by omega⟩
  · rw [if_neg c]
    have hr := fun y => i64_and_range y 255 (by omega) (by omega)
    exact ⟨_, _, _, rfl, (hr _).1, (hr _).2, hi⟩
theorem spec_l01Below_draws (b : List Int) (hb : b.length ≤ 140737488351232) (i h n : Int) (hi : 0 ≤ i) : ∃ x i' h' : Int, spec_l01Below.f b i h n = some (x, i', h') ∧ (0 < n → 0 ≤ x ∧ x < n) ∧ 0 ≤ i' ∧ 0 ≤ x ∧ (n ≤ 0 → x = 0) := by
  unfold spec_l01Below.f
  by_cases c : n ≤ 0
  · rw [if_pos c]
    exact ⟨0, i, h, rfl, fun hn => by omega, hi, by omega, fun _ => rfl⟩
  · rw [if_neg c]
    obtain ⟨x1, i1, h1, e1, l1, u1, p1⟩ := spec_l01Byte_draws b hb i h hi
    by_cases c2 : n ≤ 256
    · rw [if_pos c2, e1, Option.bind_some, if_neg (by omega)]
      have ht : Int.tmod x1 n = x1 % n := Int.tmod_eq_emod_of_nonneg l1
      have g1 := Int.emod_nonneg x1 (by omega : n ≠ 0)
      have g2 := Int.emod_lt_of_pos x1 (by omega : 0 < n)
      exact ⟨_, _, _, rfl, fun _ => by simp only; rw [ht]; exact ⟨g1, g2⟩, p1, by simp only; rw [ht]; exact g1, fun h => absurd h c⟩
    · rw [if_neg c2, e1, Option.bind_some]
      obtain ⟨x2, i2, h2, e2, l2, u2, p2⟩ := spec_l01Byte_draws b hb i1 h1 p1
      obtain ⟨x3, i3, h3, e3, l3, u3, p3⟩ := spec_l01Byte_draws b hb i2 h2 p2
      obtain ⟨x4, i4, h4, e4, l4, u4, p4⟩ := spec_l01Byte_draws b hb i3 h3 p3
      rw [e2, Option.bind_some, e3, Option.bind_some, e4, Option.bind_some, if_neg (by omega)]
      simp only
      rw [w64 (n := x1 * 16777216) (by omega) (by omega), w64 (n := x2 * 65536) (by omega) (by omega), w64 (n := x1 * 16777216 + _) (by omega) (by omega), w64 (n := x3 * 256) (by omega) (by omega), w64 (n := x1 * 16777216 + x2 * 65536 + _) (by omega) (by omega), w64 (by omega) (by omega)]
      have ht : Int.tmod (x1 * 16777216 + x2 * 65536 + x3 * 256 + x4) n = (x1 * 16777216 + x2 * 65536 + x3 * 256 + x4) % n := Int.tmod_eq_emod_of_nonneg (by omega)
      have g1 := Int.emod_nonneg (x1 * 16777216 + x2 * 65536 + x3 * 256 + x4) (by omega : n ≠ 0)
      have g2 := Int.emod_lt_of_pos (x1 * 16777216 + x2 * 65536 + x3 * 256 + x4) (by omega : 0 < n)
      exact ⟨_, _, _, rfl, fun _ => by rw [ht]; exact ⟨g1, g2⟩, p4, by rw [ht]; exact g1, fun h => absurd h c⟩
theorem spec_l01PickInt_draws (b : List Int) (hb : b.length ≤ 140737488351232) (i h : Int) (hi : 0 ≤ i) (l : List Int) (hl : 0 < l.length) : ∃ (x i' h' : Int), spec_l01PickInt.f b i h l = some (x, i', h') ∧ x ∈ l ∧ 0 ≤ i' := by
  obtain ⟨x, i', h', e, r, p, _⟩ := spec_l01Below_draws b hb i h (l.length : Int) hi
  have r' := r (by omega)
  unfold spec_l01PickInt.f
  rw [e, Option.bind_some, if_pos r'.1, if_pos r'.2]
  obtain ⟨m, rfl⟩ := Int.eq_ofNat_of_zero_le r'.1
  exact ⟨_, _, _, rfl, rd_mem l m (by have := r'.2; omega), p⟩
theorem spec_l01Number_draws (b : List Int) (hb : b.length ≤ 140737488351232) (i h : Int) (hi : 0 ≤ i) : ∃ (x i' h' : Int), spec_l01Number.f b i h = some (x, i', h') ∧ 0 ≤ i' := by
  obtain ⟨x, i1, h1, e1, _, p1, _⟩ := spec_l01Below_draws b hb i h 4 hi
  unfold spec_l01Number.f
  rw [e1, Option.bind_some]
  by_cases c0 : x = 0
  · obtain ⟨y, i2, h2, e2, _, p2⟩ := spec_l01PickInt_draws b hb i1 h1 p1 [(-1), 0, 127, 128, 16383, 16384, 1000000000, 1000000001, 9223372036854775807, (-9223372036854775808)] (by decide)
    exact ⟨y, i2, h2, by rw [if_pos c0, e2, Option.bind_some], p2⟩
  · by_cases c1 : x = 1
    · obtain ⟨y, i2, h2, e2, _, p2, _⟩ := spec_l01Below_draws b hb i1 h1 1000000000 p1
      exact ⟨y, i2, h2, by rw [if_neg c0, if_pos c1, e2, Option.bind_some], p2⟩
    · obtain ⟨y, i2, h2, e2, _, p2, _⟩ := spec_l01Below_draws b hb i1 h1 400 p1
      exact ⟨y, i2, h2, by rw [if_neg c0, if_neg c1, e2, Option.bind_some], p2⟩
theorem spec_l01New_loop (b : List Int) (hb : b.length ≤ 140737488351232) : ∀ (d i : Nat) (h : Int), i + d = b.length → ∃ h' : Int, Ev (fun k => spec_l01New.l0 k b h (i : Int)) (b, 0, h') := by
  intro d
  induction d with
  | zero =>
    intro i h hi
    exact ⟨h, ev_end fun k => by rw [spec_l01New.l0, if_neg (by omega)]⟩
  | succ d ih =>
    intro i h hi
    by_cases c : i < 4000
    · obtain ⟨h', e⟩ := ih (i + 1) (Go.bits .and .i64 (wrap64 ((wrap64 ((wrap64 (h * 131)) + (wrap64 (rd b (i : Int))))) + 7)) 1073741823) (by omega)
      refine ⟨h', ev_go e fun k => ?_⟩
      rw [spec_l01New.l0, if_pos (by omega), if_pos (by omega), if_pos (by omega), w64 (n := (i : Int) + 1) (by omega) (by omega)]
      rfl
    · exact ⟨h, ev_end fun k => by rw [spec_l01New.l0, if_pos (by omega), if_neg (by omega)]⟩
theorem spec_l01New_draws (b : List Int) (hb : b.length ≤ 140737488351232) : ∃ h : Int, Ev (fun k => spec_l01New.f k b) (b, 0, h) :=
  spec_l01New_loop b hb b.length 0 _ (by omega)
theorem spec_DrawVarText_draws (b : List Int) (hb : b.length ≤ 140737488351232) : ∃ x : Int, Ev (fun k => spec_DrawVarText.f k b) x := by
  obtain ⟨h, K, e⟩ := spec_l01New_draws b hb
  obtain ⟨x, i1, h1, e1, _⟩ := spec_l01Number_draws b hb 0 h (Int.le_refl 0)
  dsimp only at e
  refine ⟨x, K, fun k hk => ?_⟩
  dsimp only
  unfold spec_DrawVarText.f
  rw [e k hk, Option.bind_some, e1, Option.bind_some]
theorem impl_varText_ev : ∀ (n : Nat) (acc : List Int), n ≤ 9223372036854775807 → acc.length + n ≤ 140737488355327 → Ev (fun k => impl_varText.l0 k (n : Int) acc) (strOfNums (acc ++ varL n)) := by
  intro n
  induction n using Nat.strongRecOn with
  | ind n ih =>
    intro acc hn hl
    by_cases h : n > 127
    · refine ev_go (f := fun k => impl_varText.l0 k ((n / 128 : Nat) : Int) (acc ++ [(n : Int) % 128 + 128])) ?_ ?_
      · have := ih (n / 128) (by omega) (acc ++ [(n : Int) % 128 + 128]) (by omega) (by rw [List.length_append, List.length_singleton]; omega)
        rw [List.append_assoc, List.singleton_append, ← varL_big h] at this
        exact this
      · intro k
        have e1 : (n : Int) / 128 = ((n / 128 : Nat) : Int) := by omega
        have e2 : (Go.bits .or .i64 (Go.bits .and .i64 (n : Int) 127) 128) % 256 = (n : Int) % 128 + 128 := by rw [i64_and127 _ (by omega) (by omega), i64_or128 _ (by omega) (by omega)]; omega
        rw [impl_varText.l0, if_pos (by omega), if_pos (by omega), e1, e2]
    · refine ev_end fun k => ?_
      rw [impl_varText.l0, if_neg (by omega), if_pos (by omega), varL_small h]
      rw [show (n : Int) % 256 = (n : Int) by omega]
theorem impl_varText_fev (n : Int) (h0 : 0 ≤ n) (h : n ≤ 140737488355327) : Ev (fun k => impl_varText.f k n) (varB n.toNat) := by
  have := impl_varText_ev n.toNat [] (by omega) (by simp; omega)
  rw [Int.toNat_of_nonneg h0, List.nil_append] at this
  exact this
theorem impl_VarText_fev (n : Int) : Ev (fun k => impl_VarText.f k n) (varR n) := by
  unfold varR
  by_cases c : 0 ≤ n ∧ n ≤ 1000000000
  · rw [if_pos c]
    refine ev_call (impl_varText_fev n (by omega) (by omega)) (c := fun _ t => some (t, true)) (Ev.now _) fun k => ?_
    unfold impl_VarText.f impl_in.f
    rw [if_pos (by omega), Option.bind_some, decide_eq_true (by omega), if_pos rfl]
  · rw [if_neg c]
    refine ev_some fun k => ?_
    unfold impl_VarText.f impl_in.f
    by_cases c1 : n ≥ 0
    · rw [if_pos c1, Option.bind_some, decide_eq_false (by omega), if_neg (by decide)]
    · rw [if_neg c1, Option.bind_some, if_neg (by decide)]
theorem impl_ReadVar_ev (s : ByteArray) (hs : s.size ≤ 140737488351232) (a : Nat) (ha : a ≤ s.size) : ∀ (d j : Nat) (n : Int), 5 - j = d → j ≤ 5 → a + j ≤ s.size → 0 ≤ n → n < 128 ^ j → decAt ((bytesOf s).drop a) j n →
    Ev (fun k => impl_ReadVar.l0 k s (a : Int) n (j : Int)) (rvL a ((bytesOf s).drop a)) := by
  have hrange : ∀ x ∈ (bytesOf s).drop a, 0 ≤ x ∧ x ≤ 255 := fun x hx => bytesOf_range s x (List.mem_of_mem_drop hx)
  intro d
  induction d with
  | zero =>
    intro j n hd hj hl h0 h1 hD
    obtain rfl : j = 5 := by omega
    rw [rvL_none (decAt_over hD)]
    refine ev_succ ⟨1, fun k hk => ?_⟩
    obtain ⟨k, rfl⟩ : ∃ m, k = m + 1 := ⟨k - 1, by omega⟩
    rw [impl_ReadVar.l0, if_neg (by omega), impl_ReadVar.j1, if_neg (by decide)]
  | succ d ih =>
    intro j n hd hj hl h0 h1 hD
    by_cases c : a + j < s.size
    · have hdrop : ((bytesOf s).drop a).drop j = bt s ((a : Int) + j) :: ((bytesOf s).drop (a + j + 1)) := by
        rw [List.drop_drop, bytesOf_drop s (a + j) c]
        rw [show ((a + j : Nat) : Int) = (a : Int) + j by omega]
      have hget : ((bytesOf s).drop a).getD j 0 = bt s ((a : Int) + j) := by
        have : ((bytesOf s).drop a)[j]? = some (bt s ((a : Int) + j)) := by
          have := congrArg (fun l : List Int => l[0]?) hdrop
          simpa using this
        rw [List.getD_eq_getElem?_getD, this]
        rfl
      have hb0 := bt_lo s ((a : Int) + j)
      have hb1 := bt_hi s ((a : Int) + j)
      obtain ⟨m1, m2, m3, m4⟩ := rv_mul j (by omega) n (bt s ((a : Int) + j)) h0 h1 hb0 hb1
      have m0 := rv_or j (by omega) n (bt s ((a : Int) + j)) h0 h1 hb0 hb1
      have hw : wrap64 (bt s ((a : Int) + j)) = bt s ((a : Int) + j) := w64 (by omega) (by omega)
      rw [hw] at m0
      by_cases cb : bt s ((a : Int) + j) < 128
      · have hE := decAt_end hD (by omega) hdrop cb
        have hC := decL_canon 5 _ _ _ hrange hE
        rw [show 1 + j - 1 = j by omega, hget] at hC
        rw [show bt s ((a : Int) + j) % 128 = bt s ((a : Int) + j) by omega] at m0 m1 m2 m3 m4
        refine ev_succ ⟨1, fun k hk => ?_⟩
        obtain ⟨k, rfl⟩ : ∃ m, k = m + 1 := ⟨k - 1, by omega⟩
        rw [impl_ReadVar.l0, if_pos (by omega), w64 (n := (a : Int) + j) (by omega) (by omega), decide_eq_true (by omega), impl_ReadVar.j1, if_pos rfl, w64 (n := (a : Int) + j) (by omega) (by omega), if_pos (by omega), if_pos (by omega), w64 (n := 7 * (j : Int)) (by omega) (by omega), if_pos (by omega), hw, if_neg (by omega)]
        rw [w64 (n := 7 * (j : Int)) (by omega) (by omega)] at m0
        rw [m0, w64 (n := (a : Int) + j + 1) (by omega) (by omega)]
        have hN : ¬ (n + 128 ^ j * bt s ((a : Int) + j) > 1000000000) → ¬ (bt s ((a : Int) + j) = 0 ∧ j > 0) → rvL a ((bytesOf s).drop a) = (n + 128 ^ j * bt s ((a : Int) + j), (a : Int) + j + 1, true) := by
          intro g1 g2
          rw [rvL_good hE (by omega) (hC.2 (fun h => g2 ⟨h.2, by omega⟩))]
          simp only [Prod.mk.injEq, and_true, true_and]
          omega
        have hM : n + 128 ^ j * bt s ((a : Int) + j) > 1000000000 → rvL a ((bytesOf s).drop a) = (0, 0, false) := fun g => rvL_bad hE (fun h => by omega)
        by_cases cz : bt s ((a : Int) + j) = 0
        · rw [if_pos cz]
          by_cases cj : (j : Int) > 0
          · rw [if_pos cj, rvL_bad hE]
            intro h
            exact hC.1 h.2 ⟨by omega, cz⟩
          · rw [if_neg cj]
            by_cases cm : n + 128 ^ j * bt s ((a : Int) + j) > 1000000000
            · rw [if_pos cm, hM cm]
            · rw [if_neg cm, hN cm (by omega)]
        · rw [if_neg cz]
          by_cases cm : n + 128 ^ j * bt s ((a : Int) + j) > 1000000000
          · rw [if_pos cm, hM cm]
          · rw [if_neg cm, hN cm (by omega)]
      · have hN := decAt_next hD (by omega) hdrop cb
        rw [show bt s ((a : Int) + j) % 128 = bt s ((a : Int) + j) - 128 by omega] at m0 m1 m2 m3 m4
        have hi := ih (j + 1) _ (by omega) (by omega) (by omega) m2 m3 hN
        obtain ⟨K, hK⟩ := hi
        dsimp only at hK
        refine ev_succ ⟨K + 1, fun k hk => ?_⟩
        obtain ⟨k, rfl⟩ : ∃ m, k = m + 1 := ⟨k - 1, by omega⟩
        rw [w64 (n := 7 * (j : Int)) (by omega) (by omega)] at m0
        rw [impl_ReadVar.l0, if_pos (by omega), w64 (n := (a : Int) + j) (by omega) (by omega), decide_eq_true (by omega), impl_ReadVar.j1, if_pos rfl, w64 (n := (a : Int) + j) (by omega) (by omega), if_pos (by omega), if_pos (by omega), w64 (n := 7 * (j : Int)) (by omega) (by omega), if_pos (by omega), hw, if_pos (by omega), m0, w64 (n := (j : Int) + 1) (by omega) (by omega)]
        have := hK k (by omega)
        simp only [Int.natCast_add, Int.natCast_one] at this
        exact this
    · have hdrop : ((bytesOf s).drop a).drop j = [] := by
        rw [List.drop_drop, List.drop_eq_nil_iff, bytesOf_length]; omega
      rw [rvL_none (decAt_short hD hdrop)]
      refine ev_succ ⟨1, fun k hk => ?_⟩
      obtain ⟨k, rfl⟩ : ∃ m, k = m + 1 := ⟨k - 1, by omega⟩
      rw [impl_ReadVar.l0, if_pos (by omega), w64 (n := (a : Int) + j) (by omega) (by omega), decide_eq_false (by omega), impl_ReadVar.j1, if_neg (by decide)]
theorem impl_ReadVar_fev (s : ByteArray) (hs : s.size ≤ 140737488351232) (a : Int) : Ev (fun k => impl_ReadVar.f k s a) (rvR s a) := by
  unfold rvR
  by_cases c : 0 ≤ a ∧ a ≤ (s.size : Int)
  · rw [if_pos c]
    have := impl_ReadVar_ev s hs a.toNat (by omega) 5 0 0 (by omega) (by omega) (by omega) (by omega) (by simp) (decAt_zero _)
    rw [show ((a.toNat : Nat) : Int) = a by omega] at this
    simp only [Int.natCast_zero] at this
    refine Ev.congr (fun k => ?_) this
    unfold impl_ReadVar.f impl_in.f
    rw [if_pos (by omega), Option.bind_some, decide_eq_true (by omega), if_pos rfl]
  · rw [if_neg c]
    refine ev_some fun k => ?_
    unfold impl_ReadVar.f impl_in.f
    by_cases c1 : a ≥ 0
    · rw [if_pos c1, Option.bind_some, decide_eq_false (by omega), if_neg (by decide)]
    · rw [if_neg c1, Option.bind_some, if_neg (by decide)]
theorem spec_l01Once_draws (b : List Int) (hb : b.length ≤ 140737488351232) (i h n : Int) (hi : 0 ≤ i) : ∃ (x : Bool) (i' h' : Int), spec_l01Once.f b i h n = some (x, i', h') ∧ 0 ≤ i' := by
  obtain ⟨x, i', h', e, _, p, _⟩ := spec_l01Below_draws b hb i h n hi
  unfold spec_l01Once.f
  rw [e, Option.bind_some]
  exact ⟨_, _, _, rfl, p⟩
theorem spec_l01Long_loop (n : Nat) (x : Int) : ∀ (d i : Nat) (l : List Int), i + d = n → l.length = n → n ≤ 1048576 → ∃ s : ByteArray, Ev (fun k => spec_l01Long.l0 k (n : Int) x l (i : Int)) s ∧ s.size = n := by
  intro d
  induction d with
  | zero =>
    intro i l hi hl hn
    exact ⟨strOfNums l, ev_end fun k => by rw [spec_l01Long.l0, if_neg (by omega)], by rw [strOfNums_size, hl]⟩
  | succ d ih =>
    intro i l hi hl hn
    obtain ⟨s, e, es⟩ := ih (i + 1) (l.set i x) (by omega) (by simpa using hl) hn
    refine ⟨s, ev_go e fun k => ?_, es⟩
    rw [spec_l01Long.l0, if_pos (by omega), if_pos (by omega), if_pos (by omega), Int.toNat_natCast, w64 (by omega) (by omega)]
    rfl
theorem spec_l01Long_draws (n x : Int) (h0 : 0 ≤ n) (h1 : n ≤ 1048576) : ∃ s : ByteArray, Ev (fun k => spec_l01Long.f k n x) s ∧ (s.size : Int) = n := by
  obtain ⟨m, rfl⟩ := Int.eq_ofNat_of_zero_le h0
  obtain ⟨s, e, es⟩ := spec_l01Long_loop m x m 0 (List.replicate m 0) (by omega) (by simp) (by omega)
  refine ⟨s, Ev.congr (fun k => ?_) e, by omega⟩
  unfold spec_l01Long.f
  rw [if_pos h0, Int.toNat_natCast, if_pos (by omega)]
  rfl
theorem spec_l01Text_loop (b : List Int) (hb : b.length ≤ 140737488351232) (n : Nat) (hn : n ≤ 5000) : ∀ (d j : Nat) (xs : List Int) (i h : Int), j + d = n → xs.length = j → 0 ≤ i → ∃ (s : ByteArray) (i' h' : Int), Ev (fun k => spec_l01Text.l0 k (n : Int) xs (j : Int) b i h) (s, i', h') ∧ s.size = n ∧ 0 ≤ i' := by
  intro d
  induction d with
  | zero =>
    intro j xs i h hj hx hi
    refine ⟨strOfNums xs, i, h, ev_end fun k => ?_, by rw [strOfNums_size]; omega, hi⟩
    rw [spec_l01Text.l0, if_neg (by omega)]
  | succ d ih =>
    intro j xs i h hj hx hi
    obtain ⟨x, i1, h1, e, _, _, p⟩ := spec_l01Byte_draws b hb i h hi
    obtain ⟨s, i', h', e2, hs, hp⟩ := ih (j + 1) (xs ++ [x % 256]) i1 h1 (by omega) (by simp [hx]) p
    refine ⟨s, i', h', ev_go e2 fun k => ?_, hs, hp⟩
    rw [spec_l01Text.l0, if_pos (by omega), e, Option.bind_some, if_pos (by omega), w64 (by omega) (by omega)]
    rfl
theorem spec_l01Text_draws (b : List Int) (hb : b.length ≤ 140737488351232) (i h n : Int) (hi : 0 ≤ i) (hn : 0 ≤ n) : ∃ (s : ByteArray) (i' h' : Int), Ev (fun k => spec_l01Text.f k b i h n) (s, i', h') ∧ s.size ≤ 5000 ∧ (s.size : Int) ≤ n ∧ 0 ≤ i' := by
  by_cases c : n > 5000
  · obtain ⟨s, i', h', e, hs, hp⟩ := spec_l01Text_loop b hb 5000 (by omega) 5000 0 [] i h (by omega) rfl hi
    refine ⟨s, i', h', ev_go e fun k => ?_, by omega, by omega, hp⟩
    unfold spec_l01Text.f
    rw [if_pos c, spec_l01Text.j0]
    rfl
  · obtain ⟨m, rfl⟩ := Int.eq_ofNat_of_zero_le hn
    obtain ⟨s, i', h', e, hs, hp⟩ := spec_l01Text_loop b hb m (by omega) m 0 [] i h (by omega) rfl hi
    refine ⟨s, i', h', ev_go e fun k => ?_, by omega, by omega, hp⟩
    unfold spec_l01Text.f
    rw [if_neg c, spec_l01Text.j0]
    rfl
theorem spec_DrawHex_draws (b : List Int) (hb : b.length ≤ 140737488351232) : ∃ s : ByteArray, Ev (fun k => spec_DrawHex.f k b) s := by
  obtain ⟨h, K, e⟩ := spec_l01New_draws b hb
  obtain ⟨x, i1, h1, e1, p1⟩ := spec_l01Once_draws b hb 0 h 60 (Int.le_refl 0)
  dsimp only at e
  cases x with
  | true =>
    obtain ⟨y, i2, h2, e2, r2, p2, _⟩ := spec_l01Below_draws b hb i1 h1 2 p1
    have r := r2 (by omega)
    have hw : wrap64 (20000 + y) = 20000 + y := w64 (by omega) (by omega)
    obtain ⟨s, ⟨K3, e3⟩, _⟩ := spec_l01Long_draws (wrap64 (20000 + y)) 200 (by omega) (by omega)
    dsimp only at e3
    refine ⟨s, K + K3, fun k hk => ?_⟩
    dsimp only
    unfold spec_DrawHex.f
    rw [e k (by omega), Option.bind_some, e1, Option.bind_some, if_pos rfl, e2, Option.bind_some]
    dsimp only
    rw [e3 k (by omega), Option.bind_some]
  | false =>
    obtain ⟨y, i2, h2, e2, r2, p2, y0, _⟩ := spec_l01Below_draws b hb i1 h1 30 p1
    obtain ⟨s, i3, h3, ⟨K3, e3⟩, _⟩ := spec_l01Text_draws b hb i2 h2 y p2 y0
    dsimp only at e3
    refine ⟨s, K + K3, fun k hk => ?_⟩
    dsimp only
    unfold spec_DrawHex.f
    rw [e k (by omega), Option.bind_some, e1, Option.bind_some, if_neg Bool.false_ne_true, e2, Option.bind_some]
    dsimp only
    rw [e3 k (by omega), Option.bind_some]
theorem impl_ShortText_fev (s : ByteArray) (hs : s.size ≤ 140737488351232) : Ev (fun k => impl_ShortText.f k s) (shortR s) := by
  unfold shortR
  by_cases c : (s.size : Int) > 20000
  · rw [if_pos c]
    exact ev_some fun k => by unfold impl_ShortText.f; rw [if_pos c]
  · rw [if_neg c]
    refine ev_call (impl_varText_fev (s.size : Int) (by omega) (by omega)) (ev_some fun k => ?_) fun k => by unfold impl_ShortText.f; rw [if_neg c]
    have h4 := varB_size_le s.size (by omega)
    rw [Int.toNat_natCast, if_pos (by omega)]
    rfl
theorem impl_ReadShort_fev (s : ByteArray) (hs : s.size ≤ 140737488351232) (a : Int) : Ev (fun k => impl_ReadShort.f k s a) (rsR s a) := by
  refine ev_call (impl_ReadVar_fev s hs a) (ev_some fun k => ?_) (fun k => rfl)
  unfold rsR
  rcases hr : rvR s a with ⟨n, nx, ok⟩
  cases ok with
  | false => simp
  | true =>
    obtain ⟨u, h1, h2, h3, h4, h5, h6, h7, h8⟩ := rvR_tells s a n nx hr
    simp only [if_true, true_and]
    rw [w64 (n := (s.size : Int) - nx) (by omega) (by omega)]
    by_cases c : n ≤ 20000
    · rw [if_neg (by omega)]
      by_cases c2 : n ≤ (s.size : Int) - nx
      · rw [if_neg (by omega), if_pos (by omega), w64 (n := nx + n) (by omega) (by omega), if_pos (by omega), if_pos (by omega), if_pos ⟨c, c2⟩]
      · rw [if_pos (by omega), if_neg (by omega)]
    · rw [if_pos (by omega), if_neg (by omega)]
theorem impl_Hex_loop (s : ByteArray) (hs : s.size ≤ 20000) : ∀ (d : Nat) (acc : List Int) (i : Nat), i + d = s.size → acc.length = 2 * i → Ev (fun k => impl_Hex.l0 k s acc (s.size : Int) (i : Int)) (strOfNums (acc ++ hexL ((bytesOf s).drop i)), true) := by
  intro d
  induction d with
  | zero =>
    intro acc i hi hl
    refine ev_end fun k => ?_
    rw [impl_Hex.l0, if_neg (by omega), List.drop_eq_nil_of_le (by rw [bytesOf_length]; omega)]
    unfold hexL
    rw [List.append_nil]
  | succ d ih =>
    intro acc i hi hl
    have hb := bt_lo s i
    have hb' := bt_hi s i
    rw [bytesOf_drop s i (by omega)]
    have hn := ih (acc ++ [fig (bt s i / 16), fig (bt s i % 16)]) (i + 1) (by omega) (by simp; omega)
    rw [hexL, show acc ++ fig (bt s i / 16) :: fig (bt s i % 16) :: hexL (List.drop (i + 1) (bytesOf s)) = (acc ++ [fig (bt s i / 16), fig (bt s i % 16)]) ++ hexL (List.drop (i + 1) (bytesOf s)) by simp]
    refine ev_go hn fun k => ?_
    rw [impl_Hex.l0, if_pos (by omega), if_pos (by omega), if_pos (by omega), Go.u8_and15 _ hb (by omega), if_pos (by omega), if_pos (by omega), if_pos (by omega), if_pos (by omega), bt_figs _ (by omega) (by omega), bt_figs _ (by omega) (by omega), Option.bind_some, if_pos (by simp; omega), w64 (n := (i : Int) + 1) (by omega) (by omega)]
    rfl
theorem impl_Hex_fev (s : ByteArray) : Ev (fun k => impl_Hex.f k s) (hexR s) := by
  unfold hexR
  by_cases c : (s.size : Int) > 20000
  · rw [if_pos c]
    exact ev_some fun k => by unfold impl_Hex.f; rw [if_pos c]
  · rw [if_neg c]
    refine Ev.congr (fun k => ?_) (impl_Hex_loop s (by omega) s.size [] 0 (by omega) rfl)
    unfold impl_Hex.f
    rw [if_neg c]
    rfl
theorem impl_Unhex_loop (s : ByteArray) (hs : s.size ≤ 40000) : ∀ (d i : Nat) (acc : List Int), i + 2 * d = s.size → acc.length ≤ i → Ev (fun k => impl_Unhex.l0 k s acc (i : Int)) (unhexO acc (unhexL ((bytesOf s).drop i))) := by
  intro d
  induction d with
  | zero =>
    intro i acc hi hl
    refine ev_end fun k => ?_
    rw [impl_Unhex.l0, if_neg (by omega), List.drop_eq_nil_of_le (by rw [bytesOf_length]; omega)]
    simp [unhexL, unhexO]
  | succ d ih =>
    intro i acc hi hl
    rw [unhex_two s i (by omega)]
    have hb := bt_lo s i
    have hb' := bt_hi s i
    have gb := bt_lo s ((i + 1 : Nat) : Int)
    have gb' := bt_hi s ((i + 1 : Nat) : Int)
    have ix : ∀ x : Int, 0 ≤ x → x ≤ 255 → strings_IndexByte.f (⟨#[48, 49, 50, 51, 52, 53, 54, 55, 56, 57, 97, 98, 99, 100, 101, 102]⟩ : ByteArray) x = some (hexVal x) := fun x h0 h1 => congrArg some (hexVal_index x h0 h1)
    have hw : wrap64 ((i : Int) + 1) = ((i + 1 : Nat) : Int) := by rw [w64 (by omega) (by omega)]; rfl
    have hw2 : wrap64 ((i : Int) + 2) = ((i + 2 : Nat) : Int) := by rw [w64 (by omega) (by omega)]; rfl
    by_cases c : hexVal (bt s (i : Int)) < 0 ∨ hexVal (bt s ((i + 1 : Nat) : Int)) < 0
    · rw [unhexO_no _ _ _ _ c]
      refine ev_succ ⟨1, fun k hk => ?_⟩
      obtain ⟨k, rfl⟩ : ∃ q, k = q + 1 := ⟨k - 1, by omega⟩
      rw [impl_Unhex.l0, if_pos (by omega), if_pos (by omega), ix _ hb hb', Option.bind_some, hw, if_pos (by omega), if_pos (by omega), ix _ gb gb', Option.bind_some]
      by_cases c1 : hexVal (bt s (i : Int)) < 0
      · rw [if_pos c1]
      · rw [if_neg c1, if_pos (by omega)]
    · rw [unhexO_step _ _ _ _ c]
      have r1 := hexVal_range (bt s (i : Int))
      have r2 := hexVal_range (bt s ((i + 1 : Nat) : Int))
      obtain ⟨K, e⟩ := ih (i + 2) (acc ++ [16 * hexVal (bt s (i : Int)) + hexVal (bt s ((i + 1 : Nat) : Int))]) (by omega) (by simp; omega)
      dsimp only at e
      refine ev_succ ⟨K + 1, fun k hk => ?_⟩
      obtain ⟨k, rfl⟩ : ∃ q, k = q + 1 := ⟨k - 1, by omega⟩
      rw [impl_Unhex.l0, if_pos (by omega), if_pos (by omega), ix _ hb hb', Option.bind_some, hw, if_pos (by omega), if_pos (by omega), ix _ gb gb', Option.bind_some, if_neg (fun h => c (.inl h)), if_neg (fun h => c (.inr h)), if_pos (by omega), hw2, hex_or _ _ (by omega) (by omega) (by omega) (by omega)]
      exact e (k + 1) (by omega)
theorem impl_Unhex_fev (s : ByteArray) : Ev (fun k => impl_Unhex.f k s) (unhexR s) := by
  unfold unhexR
  by_cases c2 : s.size % 2 = 0
  · by_cases c : (s.size : Int) > 40000
    · rw [if_pos (.inl c)]
      refine ev_end fun k => ?_
      unfold impl_Unhex.f
      rw [if_pos (by omega), decide_eq_true c, impl_Unhex.j0, if_pos rfl]
    · rw [if_neg (by omega)]
      refine ev_go (impl_Unhex_loop s (by omega) (s.size / 2) 0 [] (by omega) (by simp)) fun k => ?_
      unfold impl_Unhex.f
      rw [if_pos (by omega), decide_eq_false c, impl_Unhex.j0, if_neg (by decide)]
      rfl
  · rw [if_pos (.inr c2)]
    refine ev_end fun k => ?_
    unfold impl_Unhex.f
    rw [if_neg (by omega), impl_Unhex.j0, if_pos rfl]
end Go.Proofs.YteokilffbcbllaaDoor.VFnNumbers
namespace Go.Proofs.YteokilffbcbllaaDoor.Pure
open Go.Proofs.YteokilffbcbllaaDoor.VFnNumbers
set_option linter.unusedVariables false
set_option linter.unusedSimpArgs false
open Go Go.RowKit Go.Proofs.YteokilffbcbllaaDoorW.PrintWords Go.Proofs.YteokilffbcbllaaDoorW.PrintLast Go.Proofs.YteokilffbcbllaaDoorW.PrintMore
theorem hexVal_fig (x : Int) (h0 : 0 ≤ x) (h1 : x < 16) : hexVal (fig x) = x := by
  unfold fig
  by_cases c : x < 10
  · rw [if_pos c]
    unfold hexVal
    rw [if_pos (by omega)]
    omega
  · rw [if_neg c]
    unfold hexVal
    rw [if_neg (by omega), if_pos (by omega)]
    omega
theorem hexL_length : ∀ l : List Int, (hexL l).length = 2 * l.length
  | [] => rfl
  | b :: t => by
    unfold hexL
    rw [List.length_cons, List.length_cons, List.length_cons, hexL_length t]
    omega
theorem hexL_range : ∀ l : List Int, (∀ x ∈ l, 0 ≤ x ∧ x ≤ 255) → ∀ x ∈ hexL l, 0 ≤ x ∧ x ≤ 255
  | [], _ => fun x hx => by unfold hexL at hx; cases hx
  | b :: t, h => fun x hx => by
    have hb := h b (List.mem_cons_self ..)
    have f1 := fig_range (b / 16) (by omega) (by omega)
    have f2 := fig_range (b % 16) (by omega) (by omega)
    unfold hexL at hx
    rcases List.mem_cons.1 hx with rfl | hx
    · omega
    · rcases List.mem_cons.1 hx with rfl | hx
      · omega
      · exact hexL_range t (fun y hy => h y (List.mem_cons_of_mem _ hy)) x hx
theorem unhexL_hexL : ∀ l : List Int, (∀ x ∈ l, 0 ≤ x ∧ x ≤ 255) → unhexL (hexL l) = some l
  | [], _ => rfl
  | b :: t, h => by
    have hb := h b (List.mem_cons_self ..)
    unfold hexL unhexL
    rw [hexVal_fig _ (by omega) (by omega), hexVal_fig _ (by omega) (by omega), if_neg (by omega), unhexL_hexL t (fun y hy => h y (List.mem_cons_of_mem _ hy)), Option.map_some, show 16 * (b / 16) + b % 16 = b by omega]
theorem unhexR_hex (s : ByteArray) (hs : s.size ≤ 20000) : unhexR (strOfNums (hexL (bytesOf s))) = (s, true) := by
  have hr := bytesOf_range s
  unfold unhexR
  rw [strOfNums_size, hexL_length, bytesOf_length, if_neg (by omega), bytesOf_strOfNums _ (hexL_range _ hr), unhexL_hexL _ hr]
  show (strOfNums ([] ++ bytesOf s), true) = (s, true)
  rw [List.nil_append, strOfNums_bytesOf]
theorem took_self (s : ByteArray) : Took s 0 (s.size : Int) s := by
  refine ⟨Int.le_refl 0, Int.le_refl _, by omega, ?_⟩
  have h : (bytesOf s).drop (s.size : Int).toNat = [] := List.drop_eq_nil_of_le (by rw [bytesOf_length]; omega)
  rw [h, List.append_nil]
  rfl
theorem FnNumbers_j2 (n : Int) (s : ByteArray) (hs : s.size ≤ 10) (t : ByteArray) (ht : t.size ≤ 300) : Ev (fun k => laws_FnNumbers.j2 k n s true n (1 + (s.size : Int)) true n true t) true := by
  obtain ⟨K1, e1⟩ := impl_ShortText_fev t (by omega)
  have g1 : shortR t = (shortB t, true) := by
    unfold shortR
    rw [if_neg (by omega)]
  have hz : (shortB t).size ≤ 310 := by
    unfold shortB
    have := varB_size_le t.size (by omega)
    rw [ByteArray.size_append]
    omega
  obtain ⟨K2, e2⟩ := impl_ReadShort_fev (shortB t) (by omega) 0
  have g2 : rsR (shortB t) 0 = (t, ((shortB t).size : Int), true) := rsR_reads (took_self _) (by omega)
  obtain ⟨K3, e3⟩ := impl_Hex_fev t
  have g3 : hexR t = (strOfNums (hexL (bytesOf t)), true) := by
    unfold hexR
    rw [if_neg (by omega)]
  obtain ⟨K4, e4⟩ := impl_Unhex_fev (strOfNums (hexL (bytesOf t)))
  dsimp only at e1 e2 e3 e4
  refine ev_succ ⟨K1 + K2 + K3 + K4, fun k hk => ?_⟩
  rw [laws_FnNumbers.j2, e1 k (by omega), Option.bind_some, g1]
  dsimp only
  rw [e2 k (by omega), Option.bind_some, g2, e3 k (by omega), Option.bind_some, g3]
  dsimp only
  rw [e4 k (by omega), Option.bind_some, unhexR_hex t (by omega)]
  rw [if_pos rfl, if_pos rfl, if_pos rfl, if_pos rfl, if_pos rfl, if_pos rfl, if_pos rfl, if_pos rfl, if_pos rfl, if_pos (by rw [w64 (by omega) (by omega)]; omega), if_pos rfl, if_pos rfl]
  simp
theorem FnNumbers_j1 (b : List Int) (hb : b.length ≤ 140737488351232) (n : Int) (hn : 0 ≤ n ∧ n ≤ 1000000000) : Ev (fun k => laws_FnNumbers.j1 k b n) true := by
  obtain ⟨K1, e1⟩ := impl_VarText_fev n
  have g1 : varR n = (varB n.toNat, true) := by
    unfold varR
    rw [if_pos hn]
  have hz := varB_size_le n.toNat (by omega)
  have h1 : (⟨#[120]⟩ : ByteArray).size = 1 := rfl
  have h2 : (⟨#[121]⟩ : ByteArray).size = 1 := rfl
  have tk := Took.all (⟨#[120]⟩ : ByteArray) (varB n.toNat) (⟨#[121]⟩ : ByteArray)
  rw [h1] at tk
  obtain ⟨K2, e2⟩ := impl_ReadVar_fev ((⟨#[120]⟩ : ByteArray) ++ varB n.toNat ++ (⟨#[121]⟩ : ByteArray)) (by rw [ByteArray.size_append, ByteArray.size_append]; omega) 1
  have g2 : rvR ((⟨#[120]⟩ : ByteArray) ++ varB n.toNat ++ (⟨#[121]⟩ : ByteArray)) 1 = (n, 1 + ((varB n.toNat).size : Int), true) := by
    have := rvR_reads (s := (⟨#[120]⟩ : ByteArray) ++ varB n.toNat ++ (⟨#[121]⟩ : ByteArray)) (a := 1) (b := 1 + ((varB n.toNat).size : Int)) (n := n.toNat) tk (by omega)
    rw [this, Int.toNat_of_nonneg hn.1]
  have g3 := impl_Decimal_is n (by omega)
  have ed : Lib.itoa n = Lib.decDigits n.toNat := by
    have := itoa_nat n.toNat
    rwa [Int.toNat_of_nonneg hn.1] at this
  have hl : (itoaB n).size ≤ 10 := by
    have h3 : (itoaB n).data.toList.length = (itoaB n).size := Array.length_toList
    have h4 := dd_length_le 10 n.toNat (by omega)
    rw [itoaB_data, ed] at h3
    omega
  have g4 := impl_ReadDecimal_is (itoaB n) (by omega)
  have g5 : rdR (itoaB n) = (n, true) := by
    rw [rdR_yes (itoaB n) n.toNat (by omega) (by rw [itoaB_data, ed]), Int.toNat_of_nonneg hn.1]
  obtain ⟨t, K3, e3⟩ := spec_DrawHex_draws b hb
  obtain ⟨K4, e4⟩ : Ev (fun k => if (t.size : Int) > 300 then laws_FnNumbers.j2 k n (varB n.toNat) true n (1 + ((varB n.toNat).size : Int)) true n true (⟨#[97, 98, 99]⟩ : ByteArray) else laws_FnNumbers.j2 k n (varB n.toNat) true n (1 + ((varB n.toNat).size : Int)) true n true t) true := by
    by_cases c : (t.size : Int) > 300
    · refine Ev.congr (fun k => ?_) (FnNumbers_j2 n (varB n.toNat) hz (⟨#[97, 98, 99]⟩ : ByteArray) (by decide))
      rw [if_pos c]
    · refine Ev.congr (fun k => ?_) (FnNumbers_j2 n (varB n.toNat) hz t (by omega))
      rw [if_neg c]
  dsimp only at e1 e2 e3 e4
  refine ev_succ ⟨K1 + K2 + K3 + K4, fun k hk => ?_⟩
  rw [laws_FnNumbers.j1, e1 k (by omega), Option.bind_some, g1]
  dsimp only
  rw [if_pos (by omega), if_pos (by rw [ByteArray.size_append]; omega), e2 k (by omega), Option.bind_some, g2]
  dsimp only
  rw [g3, Option.bind_some, g4, Option.bind_some, g5]
  dsimp only
  rw [e3 k (by omega), Option.bind_some]
  exact e4 k (by omega)
theorem FnNumbers : laws_FnNumbers.Pure := by
  intro b _ hb _
  have hb' : b.length ≤ 140737488351232 := by omega
  obtain ⟨x, K1, e1⟩ := spec_DrawVarText_draws b hb'
  obtain ⟨K2, e2⟩ := FnNumbers_j1 b hb' 12345 (by omega)
  obtain ⟨K3, e3⟩ : Ev (fun k => if 0 ≤ x ∧ x ≤ 1000000000 then laws_FnNumbers.j1 k b x else some true) true := by
    by_cases c : 0 ≤ x ∧ x ≤ 1000000000
    · refine Ev.congr (fun k => ?_) (FnNumbers_j1 b hb' x c)
      rw [if_pos c]
    · refine ev_some fun k => ?_
      rw [if_neg c]
  dsimp only at e1 e2 e3
  refine ⟨K1 + K2 + K3 + 1, ?_⟩
  unfold laws_FnNumbers.f laws_big.f
  rw [Option.bind_some]
  by_cases c : (b.length : Int) > 1048576
  · rw [if_pos (decide_eq_true c)]
  · rw [if_neg (by simp only [decide_eq_true_eq]; exact c), e1 _ (by omega), Option.bind_some]
    by_cases c1 : x < 0
    · rw [if_pos c1, laws_FnNumbers.j0, if_pos rfl]
      exact e2 _ (by omega)
    · rw [if_neg c1]
      by_cases c2 : x > 1000000000
      · rw [decide_eq_true c2, laws_FnNumbers.j0, if_pos rfl]
        exact e2 _ (by omega)
      · rw [decide_eq_false c2, laws_FnNumbers.j0, if_neg (by decide)]
        have := e3 (K1 + K2 + K3) (by omega)
        rwa [if_pos (by omega)] at this
end Go.Proofs.YteokilffbcbllaaDoor.Pure
