/- The printed form of FnBest answers true at every input that its bounds let in; no other conditions. -/
import Derived.Test.YteokilffbcbllaaVFnBestx22
import Derived.Test.YteokilffbcbllaaZFnBestG
import Derived.Lib.Bytealg
namespace Go.Proofs.Yteokilffbcbllaa.VFnBest
set_option linter.unusedVariables false
set_option linter.unusedSimpArgs false
open Go Go.RowKit Go.Proofs.YteokilffbcbllaaW.PrintWords Go.Proofs.YteokilffbcbllaaW.PrintLast Go.Proofs.YteokilffbcbllaaW.PrintMore
theorem w64 {n : Int} (h : -9223372036854775808 ≤ n) (h' : n ≤ 9223372036854775807) : wrap64 n = n := by
  unfold wrap64; omega
theorem ev_some {α : Type} {g : Nat → Option α} {r : α} (h : ∀ k, g k = some r) : Ev g r := ⟨0, fun k _ => h k⟩
theorem ev_succ {α : Type} {g : Nat → Option α} {r : α} (h : ∃ K, ∀ k, K ≤ k → g (k + 1) = some r) : Ev g r := by
  obtain ⟨K, h⟩ := h
  refine ⟨K + 1, fun k hk => ?_⟩
  obtain ⟨m, rfl⟩ : ∃ m, k = m + 1 := ⟨k - 1, by omega⟩
  exact h m (by omega)
/-- One round that goes on. -/
theorem ev_go {α : Type} {g f : Nat → Option α} {r : α} (hf : Ev f r) (h : ∀ k, g (k + 1) = f k) : Ev g r := Ev.step h hf
/-- One round that ends. -/
theorem ev_end {α : Type} {g : Nat → Option α} {r : α} (h : ∀ k, g (k + 1) = some r) : Ev g r := ev_succ ⟨0, fun k _ => h k⟩
/-- One call, then the rest. -/
theorem ev_call {α β : Type} {g : Nat → Option α} {f : Nat → Option β} {c : Nat → β → Option α} {b : β} {r : α} (hf : Ev f b) (hc : Ev (fun k => c k b) r) (h : ∀ k, g k = (f k).bind (c k)) : Ev g r :=
  Ev.congr h (Ev.bind hf hc)
theorem bt_lo (s : ByteArray) (i : Int) : 0 ≤ bt s i := (bt_range s i).1
theorem bt_hi (s : ByteArray) (i : Int) : bt s i ≤ 255 := (bt_range s i).2
theorem bytesOf_drop (s : ByteArray) (i : Nat) (h : i < s.size) : (bytesOf s).drop i = bt s (i : Int) :: (bytesOf s).drop (i + 1) := by
  have hl : i < (bytesOf s).length := by rw [bytesOf_length]; exact h
  rw [List.drop_eq_getElem_cons hl]
  congr 1
  rw [← rd_bytesOf s (i : Int)]
  unfold rd
  rw [Int.toNat_natCast]
  simp [List.getD, hl]
theorem bytesOf_range (s : ByteArray) : ∀ x ∈ bytesOf s, 0 ≤ x ∧ x ≤ 255 := by
  intro x hx
  unfold bytesOf at hx
  obtain ⟨b, _, rfl⟩ := List.mem_map.1 hx
  have := b.toNat_lt
  omega
theorem toList_inj {s t : ByteArray} (h : s.toList = t.toList) : s = t := by
  rw [ByteArray.toList_eq, ByteArray.toList_eq] at h
  exact ByteArray.ext (Array.toList_inj.1 h)
theorem strOfNums_bytesOf (s : ByteArray) : strOfNums (bytesOf s) = s := by
  apply ByteArray.ext
  apply Array.toList_inj.1
  rw [strOfNums_data]
  unfold bytesOf
  rw [List.map_map]
  conv => rhs; rw [← List.map_id s.data.toList]
  apply List.map_congr_left
  intro b _
  simp
theorem bytesOf_strOfNums (xs : List Int) (h : ∀ x ∈ xs, 0 ≤ x ∧ x ≤ 255) : bytesOf (strOfNums xs) = xs := by
  unfold bytesOf
  rw [strOfNums_data, List.map_map]
  conv => rhs; rw [← List.map_id xs]
  apply List.map_congr_left
  intro b hb
  have := h b hb
  simp only [Function.comp, UInt8.toNat_ofNat', id]
  omega
theorem bytesOf_extract (s : ByteArray) (a b : Nat) : bytesOf (s.extract a b) = ((bytesOf s).drop a).take (b - a) := by
  unfold bytesOf
  rw [ByteArray.data_extract, Array.toList_extract, List.extract_eq_take_drop, List.map_take, List.map_drop]
theorem bytesOf_append (s t : ByteArray) : bytesOf (s ++ t) = bytesOf s ++ bytesOf t := by
  unfold bytesOf
  rw [ByteArray.data_append, Array.toList_append, List.map_append]
theorem bytesOf_inj {s t : ByteArray} (h : bytesOf s = bytesOf t) : s = t := by
  rw [← strOfNums_bytesOf s, ← strOfNums_bytesOf t, h]
theorem toList_eq_iff (s t : ByteArray) : s.toList = t.toList ↔ s = t := ⟨toList_inj, fun h => by rw [h]⟩
theorem strOfNums_eq_iff (xs : List Int) (t : ByteArray) (h : ∀ x ∈ xs, 0 ≤ x ∧ x ≤ 255) : strOfNums xs = t ↔ xs = bytesOf t :=
  ⟨fun e => by rw [← e, bytesOf_strOfNums xs h], fun e => by rw [e, strOfNums_bytesOf]⟩
theorem bytesOf_length_drop (s : ByteArray) (i : Nat) : ((bytesOf s).drop i).length = s.size - i := by rw [List.length_drop, bytesOf_length]
def varL (n : Nat) : List Int := if n > 127 then ((n : Int) % 128 + 128) :: varL (n / 128) else [(n : Int)]
termination_by n
decreasing_by omega
theorem varL_big {n : Nat} (h : n > 127) : varL n = ((n : Int) % 128 + 128) :: varL (n / 128) := by rw [varL, if_pos h]
theorem varL_small {n : Nat} (h : ¬ n > 127) : varL n = [(n : Int)] := by rw [varL, if_neg h]
theorem varL_range (n : Nat) : ∀ x ∈ varL n, 0 ≤ x ∧ x ≤ 255 := by
  induction n using Nat.strongRecOn with
  | ind n ih =>
    intro x hx
    by_cases h : n > 127
    · rw [varL_big h] at hx
      rcases List.mem_cons.1 hx with rfl | hx
      · omega
      · exact ih _ (by omega) x hx
    · rw [varL_small h] at hx
      have := List.mem_singleton.1 hx
      omega
theorem varL_length_le (j : Nat) : ∀ n : Nat, n < 128 ^ j → (varL n).length ≤ max j 1 := by
  induction j with
  | zero => intro n hn; simp at hn; subst hn; rw [varL_small (by omega)]; simp
  | succ j ih =>
    intro n hn
    by_cases h : n > 127
    · rw [varL_big h]
      have : n / 128 < 128 ^ j := by rw [Nat.pow_succ] at hn; exact Nat.div_lt_of_lt_mul (by omega)
      have := ih _ this
      cases j with
      | zero => omega
      | succ j => simp only [List.length_cons]; omega
    · rw [varL_small h, List.length_singleton]; omega
def varB (n : Nat) : ByteArray := strOfNums (varL n)
theorem varB_size (n : Nat) : (varB n).size = (varL n).length := strOfNums_size _
theorem varB_size_le (n : Nat) (h : n ≤ 9223372036854775807) : (varB n).size ≤ 10 := by
  rw [varB_size]
  have := varL_length_le 10 n (by omega)
  omega
theorem i64_and127 (x : Int) (h₀ : 0 ≤ x) (h₁ : x ≤ 9223372036854775807) : Go.bits .and .i64 x 127 = x % 128 :=
  Go.bits_mask .i64 63 (by decide) (fun n a b => by rw [IntKind.wrap_i64]; omega) 7 (by decide) x h₀ (by omega)
theorem i64_and1 (x : Int) (h₀ : 0 ≤ x) (h₁ : x ≤ 9223372036854775807) : Go.bits .and .i64 x 1 = x % 2 :=
  Go.bits_mask .i64 63 (by decide) (fun n a b => by rw [IntKind.wrap_i64]; omega) 1 (by decide) x h₀ (by omega)
theorem i64_or_join (i : Nat) (x y : Int) (hx₀ : 0 ≤ x) (hx : x % 2 ^ i = 0) (hx₁ : x ≤ 9223372036854775807) (hy₀ : 0 ≤ y) (hy : y < 2 ^ i) (hy₁ : y ≤ 9223372036854775807) : Go.bits .or .i64 x y = x + y :=
  Go.bits_join .i64 63 (by decide) (fun n a b => by rw [IntKind.wrap_i64]; omega) i x y hx₀ hx (by omega) hy₀ hy (by omega)
theorem i64_or_comm (x y : Int) : Go.bits .or .i64 x y = Go.bits .or .i64 y x := by
  unfold Go.bits
  simp only [BitVec.or_comm]
theorem i64_or128 (x : Int) (h₀ : 0 ≤ x) (h₁ : x < 128) : Go.bits .or .i64 x 128 = x + 128 := by
  rw [i64_or_comm, i64_or_join 7 128 x (by omega) (by decide) (by omega) h₀ (by omega) (by omega)]
  omega
def decL : Nat → List Int → Option (Int × Nat)
  | 0, _ => none
  | _ + 1, [] => none
  | f + 1, b :: t => if b < 128 then some (b, 1) else (decL f t).map fun p => (b - 128 + 128 * p.1, p.2 + 1)
def rvL (at_ : Int) (L : List Int) : Int × Int × Bool :=
  match decL 5 L with
  | none => (0, 0, false)
  | some p => if p.1 ≤ 1000000000 ∧ varL p.1.toNat = L.take p.2 then (p.1, at_ + p.2, true) else (0, 0, false)
def rvR (s : ByteArray) (a : Int) : Int × Int × Bool :=
  if 0 ≤ a ∧ a ≤ (s.size : Int) then rvL a ((bytesOf s).drop a.toNat) else (0, 0, false)
theorem decL_pos (f : Nat) : ∀ (l : List Int) (m : Int) (u : Nat), (∀ x ∈ l, 0 ≤ x ∧ x ≤ 255) → decL f l = some (m, u) → 0 ≤ m ∧ m < 128 ^ f ∧ 1 ≤ u ∧ u ≤ f ∧ u ≤ l.length := by
  induction f with
  | zero => intro l m u _ h; simp [decL] at h
  | succ f ih =>
    intro l m u hr h
    cases l with
    | nil => simp [decL] at h
    | cons b t =>
      have hb := hr b (by simp)
      simp only [decL] at h
      have hp : (1 : Int) ≤ 128 ^ f := by have := Nat.one_le_two_pow (n := 7 * f); rw [Nat.pow_mul] at this; exact_mod_cast this
      by_cases c : b < 128
      · rw [if_pos c] at h
        simp only [Option.some.injEq, Prod.mk.injEq] at h
        obtain ⟨rfl, rfl⟩ := h
        refine ⟨hb.1, ?_, by omega, by omega, by simp⟩
        rw [Int.pow_succ]; omega
      · rw [if_neg c] at h
        obtain ⟨⟨m', u'⟩, h1, h2⟩ := Option.map_eq_some_iff.1 h
        simp only [Prod.mk.injEq] at h2
        obtain ⟨rfl, rfl⟩ := h2
        obtain ⟨g1, g2, g3, g4, g5⟩ := ih t m' u' (fun x hx => hr x (by simp [hx])) h1
        refine ⟨by omega, ?_, by omega, by omega, by simp only [List.length_cons]; omega⟩
        rw [Int.pow_succ]; omega
theorem decL_zero (f : Nat) : ∀ (l : List Int) (m : Int) (u : Nat), (∀ x ∈ l, 0 ≤ x ∧ x ≤ 255) → decL f l = some (m, u) → m = 0 → l.getD (u - 1) 0 = 0 := by
  induction f with
  | zero => intro l m u _ h; simp [decL] at h
  | succ f ih =>
    intro l m u hr h hm
    cases l with
    | nil => simp
    | cons b t =>
      have hb := hr b (by simp)
      simp only [decL] at h
      by_cases c : b < 128
      · rw [if_pos c] at h
        simp only [Option.some.injEq, Prod.mk.injEq] at h
        obtain ⟨rfl, rfl⟩ := h
        simpa using hm
      · rw [if_neg c] at h
        obtain ⟨⟨m', u'⟩, h1, h2⟩ := Option.map_eq_some_iff.1 h
        simp only [Prod.mk.injEq] at h2
        obtain ⟨rfl, rfl⟩ := h2
        have hr' : ∀ x ∈ t, 0 ≤ x ∧ x ≤ 255 := fun x hx => hr x (by simp [hx])
        obtain ⟨g1, g2, g3, g4, g5⟩ := decL_pos f t m' u' hr' h1
        have := ih t m' u' hr' h1 (by omega)
        obtain ⟨v, rfl⟩ : ∃ v, u' = v + 1 := ⟨u' - 1, by omega⟩
        simpa using this
theorem decL_canon (f : Nat) : ∀ (l : List Int) (m : Int) (u : Nat), (∀ x ∈ l, 0 ≤ x ∧ x ≤ 255) → decL f l = some (m, u) → (varL m.toNat = l.take u ↔ ¬ (u > 1 ∧ l.getD (u - 1) 0 = 0)) := by
  induction f with
  | zero => intro l m u _ h; simp [decL] at h
  | succ f ih =>
    intro l m u hr h
    cases l with
    | nil => simp [decL] at h
    | cons b t =>
      have hb := hr b (by simp)
      simp only [decL] at h
      by_cases c : b < 128
      · rw [if_pos c] at h
        simp only [Option.some.injEq, Prod.mk.injEq] at h
        obtain ⟨rfl, rfl⟩ := h
        rw [varL_small (by omega)]
        simp
        omega
      · rw [if_neg c] at h
        obtain ⟨⟨m', u'⟩, h1, h2⟩ := Option.map_eq_some_iff.1 h
        simp only [Prod.mk.injEq] at h2
        obtain ⟨rfl, rfl⟩ := h2
        have hr' : ∀ x ∈ t, 0 ≤ x ∧ x ≤ 255 := fun x hx => hr x (by simp [hx])
        obtain ⟨g1, g2, g3, g4, g5⟩ := decL_pos f t m' u' hr' h1
        have hi := ih t m' u' hr' h1
        have hz := decL_zero f t m' u' hr' h1
        obtain ⟨v, rfl⟩ : ∃ v, u' = v + 1 := ⟨u' - 1, by omega⟩
        have e0 : (b :: t).getD (v + 1 + 1 - 1) 0 = t.getD v 0 := by simp
        rw [e0, List.take_succ_cons]
        simp only [Nat.add_sub_cancel] at hi hz
        by_cases z : m' = 0
        · have := hz z
          rw [varL_small (by omega)]
          constructor
          · intro h
            have := (List.cons.inj h).1
            omega
          · intro h
            exact absurd ⟨by omega, this⟩ h
        · rw [varL_big (by omega), show (b - 128 + 128 * m').toNat / 128 = m'.toNat by omega, show (((b - 128 + 128 * m').toNat : Int) % 128 + 128) = b by omega]
          rw [List.cons_inj_right, hi]
          by_cases hv : v = 0
          · subst hv
            have : t.getD 0 0 ≠ 0 := by
              cases f with
              | zero => simp [decL] at h1
              | succ f =>
                cases t with
                | nil => simp [decL] at h1
                | cons y t =>
                  simp only [decL] at h1
                  by_cases c2 : y < 128
                  · rw [if_pos c2] at h1
                    simp only [Option.some.injEq, Prod.mk.injEq] at h1
                    simp; omega
                  · simp; omega
            constructor
            · intro _ h; exact this h.2
            · intro _ h; omega
          · constructor
            · intro h ⟨_, h2⟩; exact h ⟨by omega, h2⟩
            · intro h ⟨_, h2⟩; exact h ⟨by omega, h2⟩
theorem decL_varL (f : Nat) : ∀ (n : Nat) (t : List Int), n < 128 ^ f → 0 < f → decL f (varL n ++ t) = some ((n : Int), (varL n).length) := by
  induction f with
  | zero => intro n t _ h; omega
  | succ f ih =>
    intro n t hn _
    by_cases c : n > 127
    · rw [varL_big c, List.cons_append]
      simp only [decL]
      rw [if_neg (by omega)]
      have h1 : n / 128 < 128 ^ f := by rw [Nat.pow_succ] at hn; exact Nat.div_lt_of_lt_mul (by omega)
      cases f with
      | zero => simp at hn; omega
      | succ f =>
        rw [ih (n / 128) t h1 (by omega)]
        simp only [Option.map_some, List.length_cons, Option.some.injEq, Prod.mk.injEq, and_true]
        omega
    · rw [varL_small c]
      simp only [List.cons_append, List.nil_append, decL]
      rw [if_pos (by omega)]
      simp
theorem decL_step (b : Int) (t : List Int) (f : Nat) : decL (f + 1) (b :: t) = if b < 128 then some (b, 1) else (decL f t).map fun p => (b - 128 + 128 * p.1, p.2 + 1) := rfl
theorem decL_nil (f : Nat) : decL f [] = none := by cases f <;> rfl
/-- What is left to read behind j bytes that go on. -/
def decAt (L : List Int) (j : Nat) (n : Int) : Prop := decL 5 L = (decL (5 - j) (L.drop j)).map fun p => (n + 128 ^ j * p.1, p.2 + j)
theorem decAt_zero (L : List Int) : decAt L 0 0 := by
  unfold decAt
  simp
theorem decAt_end {L : List Int} {j : Nat} {n b : Int} {t : List Int} (h : decAt L j n) (hj : j < 5) (ht : L.drop j = b :: t) (hb : b < 128) : decL 5 L = some (n + 128 ^ j * b, 1 + j) := by
  unfold decAt at h
  rw [h, ht, show 5 - j = (4 - j) + 1 by omega, decL_step, if_pos hb]
  rfl
theorem decAt_next {L : List Int} {j : Nat} {n b : Int} {t : List Int} (h : decAt L j n) (hj : j < 5) (ht : L.drop j = b :: t) (hb : ¬ b < 128) : decAt L (j + 1) (n + 128 ^ j * (b - 128)) := by
  unfold decAt at h ⊢
  have hd : L.drop (j + 1) = t := by rw [← List.drop_drop, ht]; simp
  rw [h, ht, hd, show 5 - j = (4 - j) + 1 by omega, decL_step, if_neg hb, Option.map_map, show 5 - (j + 1) = 4 - j by omega]
  congr 1
  funext p
  simp only [Function.comp, Prod.mk.injEq]
  refine ⟨?_, by omega⟩
  rw [Int.pow_succ, Int.mul_add, Int.mul_assoc, Int.add_assoc]
theorem decAt_short {L : List Int} {j : Nat} {n : Int} (h : decAt L j n) (ht : L.drop j = []) : decL 5 L = none := by
  unfold decAt at h
  rw [h, ht, decL_nil]
  rfl
theorem decAt_over {L : List Int} {n : Int} (h : decAt L 5 n) : decL 5 L = none := by
  unfold decAt at h
  rw [h]
  rfl
theorem rvL_none {a : Int} {L : List Int} (h : decL 5 L = none) : rvL a L = (0, 0, false) := by unfold rvL; rw [h]
theorem rvL_good {a : Int} {L : List Int} {n : Int} {u : Nat} (h : decL 5 L = some (n, u)) (h1 : n ≤ 1000000000) (h2 : varL n.toNat = L.take u) : rvL a L = (n, a + u, true) := by
  unfold rvL; rw [h]; simp only; rw [if_pos ⟨h1, h2⟩]
theorem rvL_bad {a : Int} {L : List Int} {n : Int} {u : Nat} (h : decL 5 L = some (n, u)) (h1 : ¬ (n ≤ 1000000000 ∧ varL n.toNat = L.take u)) : rvL a L = (0, 0, false) := by
  unfold rvL; rw [h]; simp only; rw [if_neg h1]
theorem rvL_tells {a : Int} {L : List Int} {n nx : Int} (hr : ∀ x ∈ L, 0 ≤ x ∧ x ≤ 255) (h : rvL a L = (n, nx, true)) : ∃ u : Nat, 0 ≤ n ∧ n ≤ 1000000000 ∧ varL n.toNat = L.take u ∧ nx = a + u ∧ 1 ≤ u ∧ u ≤ L.length ∧ u ≤ 5 := by
  unfold rvL at h
  cases h5 : decL 5 L with
  | none => rw [h5] at h; simp at h
  | some p =>
    obtain ⟨m, u⟩ := p
    rw [h5] at h
    simp only at h
    by_cases c : m ≤ 1000000000 ∧ varL m.toNat = L.take u
    · rw [if_pos c] at h
      simp only [Prod.mk.injEq, and_true] at h
      obtain ⟨rfl, rfl⟩ := h
      obtain ⟨g1, g2, g3, g4, g5⟩ := decL_pos 5 L m u hr h5
      exact ⟨u, g1, c.1, c.2, rfl, g3, g5, g4⟩
    · rw [if_neg c] at h
      simp at h
theorem rvL_reads (a : Int) (n : Nat) (t : List Int) (h : n ≤ 1000000000) : rvL a (varL n ++ t) = ((n : Int), a + (varL n).length, true) :=
  rvL_good (decL_varL 5 n t (by omega) (by omega)) (by omega) (by simp)
theorem pow128 (j : Nat) (hj : j < 5) : (128 : Int) ^ j = 1 ∧ j = 0 ∨ (128 : Int) ^ j = 128 ∧ j = 1 ∨ (128 : Int) ^ j = 16384 ∧ j = 2 ∨ (128 : Int) ^ j = 2097152 ∧ j = 3 ∨ (128 : Int) ^ j = 268435456 ∧ j = 4 := by
  have : j = 0 ∨ j = 1 ∨ j = 2 ∨ j = 3 ∨ j = 4 := by omega
  rcases this with rfl | rfl | rfl | rfl | rfl <;> simp
theorem rv_mul (j : Nat) (hj : j < 5) (n b : Int) (hn0 : 0 ≤ n) (hn : n < 128 ^ j) (hb0 : 0 ≤ b) (hb : b ≤ 255) :
    wrap64 (n + wrap64 (Int.tmod (wrap64 b) 128 * 128 ^ j)) = n + 128 ^ j * (b % 128) ∧ 0 ≤ n + 128 ^ j * (b % 128) ∧ n + 128 ^ j * (b % 128) < 128 ^ (j + 1) ∧ n + 128 ^ j * (b % 128) ≤ 34359738368 := by
  rw [w64 (n := b) (by omega) (by omega), Int.tmod_eq_emod_of_nonneg hb0, Int.pow_succ]
  rcases pow128 j hj with ⟨h, _⟩ | ⟨h, _⟩ | ⟨h, _⟩ | ⟨h, _⟩ | ⟨h, _⟩ <;> (rw [h] at hn ⊢; rw [w64 (n := b % 128 * _) (by omega) (by omega), w64 (by omega) (by omega)]; omega)
theorem rv_or (j : Nat) (hj : j < 5) (n b : Int) (hn0 : 0 ≤ n) (hn : n < 128 ^ j) (hb0 : 0 ≤ b) (hb : b ≤ 255) :
    Go.bits .or .i64 n (shl .i64 (Go.bits .and .i64 (wrap64 b) 127) (wrap64 (7 * (j : Int)))) = n + 128 ^ j * (b % 128) := by
  rw [w64 (n := b) (by omega) (by omega), w64 (n := 7 * (j : Int)) (by omega) (by omega), i64_and127 b hb0 (by omega)]
  unfold shl
  rw [IntKind.wrap_i64]
  have e : min (7 * (j : Int)).toNat IntKind.i64.bits = 7 * j := by
    have : IntKind.i64.bits = 64 := rfl
    omega
  rw [e, i64_or_comm]
  have hj' : j = 0 ∨ j = 1 ∨ j = 2 ∨ j = 3 ∨ j = 4 := by omega
  rcases hj' with rfl | rfl | rfl | rfl | rfl
  · simp only [Nat.mul_zero, Int.pow_zero, Int.mul_one, Int.one_mul] at hn ⊢
    rw [show n = 0 by omega, show (b % 128 + 9223372036854775808) % 18446744073709551616 - 9223372036854775808 = b % 128 by omega, i64_or_join 0 (b % 128) 0 (by omega) (by simp) (by omega) (by omega) (by omega) (by omega)]
    omega
  · rw [show (128 : Int) ^ 1 = 128 by decide] at hn ⊢
    rw [show (b % 128 * 2 ^ (7 * 1) + 9223372036854775808) % 18446744073709551616 - 9223372036854775808 = 128 * (b % 128) by omega, i64_or_join 7 (128 * (b % 128)) n (by omega) (by omega) (by omega) (by omega) (by omega) (by omega)]
    omega
  · rw [show (128 : Int) ^ 2 = 16384 by decide] at hn ⊢
    rw [show (b % 128 * 2 ^ (7 * 2) + 9223372036854775808) % 18446744073709551616 - 9223372036854775808 = 16384 * (b % 128) by omega, i64_or_join 14 (16384 * (b % 128)) n (by omega) (by omega) (by omega) (by omega) (by omega) (by omega)]
    omega
  · rw [show (128 : Int) ^ 3 = 2097152 by decide] at hn ⊢
    rw [show (b % 128 * 2 ^ (7 * 3) + 9223372036854775808) % 18446744073709551616 - 9223372036854775808 = 2097152 * (b % 128) by omega, i64_or_join 21 (2097152 * (b % 128)) n (by omega) (by omega) (by omega) (by omega) (by omega) (by omega)]
    omega
  · rw [show (128 : Int) ^ 4 = 268435456 by decide] at hn ⊢
    rw [show (b % 128 * 2 ^ (7 * 4) + 9223372036854775808) % 18446744073709551616 - 9223372036854775808 = 268435456 * (b % 128) by omega, i64_or_join 28 (268435456 * (b % 128)) n (by omega) (by omega) (by omega) (by omega) (by omega) (by omega)]
    omega
def sumStep (x : Int) : Int := if x % 2 = 1 then Go.bits .xor .u32 (x / 2) 3558460437 else x / 2
def sumSteps : Nat → Int → Int
  | 0, x => x
  | n + 1, x => sumSteps n (sumStep x)
def sumByte (x b : Int) : Int := sumSteps 8 (Go.bits .xor .u32 x b)
def sumL : Int → List Int → Int
  | x, [] => x
  | x, b :: t => sumL (sumByte x b) t
def sumR (x : Int) (s : ByteArray) : Int := sumL x (bytesOf s)
def fourB (n : Int) : ByteArray := strOfNums ([(n / 16777216) % 256, (n / 65536) % 256, (n / 256) % 256, n % 256] : List Int)
def sealB (s : ByteArray) : ByteArray := fourB (sumR 4294967295 s)
theorem bits_u32_range (o : BinOp) (x y : Int) (h : o = .xor) : 0 ≤ Go.bits o .u32 x y ∧ Go.bits o .u32 x y < 4294967296 := by
  subst h
  unfold Go.bits
  simp only
  rw [IntKind.wrap_u32]
  omega
theorem sumStep_range (x : Int) (h : 0 ≤ x ∧ x < 4294967296) : 0 ≤ sumStep x ∧ sumStep x < 4294967296 := by
  unfold sumStep
  split
  · exact bits_u32_range _ _ _ rfl
  · omega
theorem sumSteps_range (n : Nat) : ∀ x : Int, 0 ≤ x ∧ x < 4294967296 → 0 ≤ sumSteps n x ∧ sumSteps n x < 4294967296 := by
  induction n with
  | zero => exact fun x h => h
  | succ n ih => exact fun x h => ih _ (sumStep_range x h)
theorem sumByte_range (x b : Int) : 0 ≤ sumByte x b ∧ sumByte x b < 4294967296 := sumSteps_range 8 _ (bits_u32_range _ _ _ rfl)
theorem u32_and1 (x : Int) (h : 0 ≤ x ∧ x < 4294967296) : Go.bits .and .u32 x 1 = x % 2 :=
  Go.bits_mask .u32 32 (by decide) (fun n a b => by rw [IntKind.wrap_u32]; omega) 1 (by decide) x h.1 (by omega)
theorem fourB_size (n : Int) : (fourB n).size = 4 := by unfold fourB; rw [strOfNums_size]; rfl
theorem sealB_size (s : ByteArray) : (sealB s).size = 4 := fourB_size _
def sealedR (s : ByteArray) : ByteArray × Bool := if (s.size : Int) > 20000 then (⟨#[]⟩, false) else (s ++ sealB s, true)
theorem rvR_tells (s : ByteArray) (a n nx : Int) (h : rvR s a = (n, nx, true)) : ∃ u : Nat, 0 ≤ a ∧ 0 ≤ n ∧ n ≤ 1000000000 ∧ nx = a + u ∧ 1 ≤ u ∧ u ≤ 5 ∧ nx ≤ (s.size : Int) ∧ varL n.toNat = ((bytesOf s).drop a.toNat).take u := by
  unfold rvR at h
  by_cases c : 0 ≤ a ∧ a ≤ (s.size : Int)
  · rw [if_pos c] at h
    obtain ⟨u, h1, h2, h3, h4, h5, h6, h7⟩ := rvL_tells (fun x hx => bytesOf_range s x (List.mem_of_mem_drop hx)) h
    rw [bytesOf_length_drop] at h6
    exact ⟨u, c.1, h1, h2, h4, h5, h7, by omega, h3⟩
  · rw [if_neg c] at h
    simp at h
def unsealedR (s : ByteArray) : ByteArray × Bool :=
  if 4 ≤ s.size ∧ s.size ≤ 20004 ∧ s.extract (s.size - 4) s.size = sealB (s.extract 0 (s.size - 4)) then (s.extract 0 (s.size - 4), true) else (⟨#[]⟩, false)
theorem extract_size_le (s : ByteArray) (a b : Nat) : (s.extract a b).size ≤ s.size := by
  have : (bytesOf (s.extract a b)).length ≤ s.size := by
    rw [bytesOf_extract, List.length_take, bytesOf_length_drop]; omega
  rwa [bytesOf_length] at this
section
variable {α β : Type}
theorem drop_rdOf (d : α) (xs : List α) (i : Nat) (h : i < xs.length) : xs.drop i = rdOf d xs (i : Int) :: xs.drop (i + 1) := by
  rw [List.drop_eq_getElem_cons h]
  congr 1
  unfold rdOf
  rw [Int.toNat_natCast]
  simp [List.getD, h]
theorem drop_rd (xs : List Int) (i : Nat) (h : i < xs.length) : xs.drop i = rd xs (i : Int) :: xs.drop (i + 1) := by
  rw [List.drop_eq_getElem_cons h]
  congr 1
  unfold rd
  rw [Int.toNat_natCast]
  simp [List.getD, h]
theorem rdOf_get (d : α) (xs : List α) (i : Nat) (h : i < xs.length) : rdOf d xs (i : Int) = xs[i] := by
  unfold rdOf
  rw [Int.toNat_natCast]
  simp [List.getD, h]
theorem rd_get (xs : List Int) (i : Nat) (h : i < xs.length) : rd xs (i : Int) = xs[i] := by
  unfold rd
  rw [Int.toNat_natCast]
  simp [List.getD, h]
theorem rdOf_mem (d : α) (xs : List α) (i : Nat) (h : i < xs.length) : rdOf d xs (i : Int) ∈ xs := by
  rw [rdOf_get d xs i h]; exact List.getElem_mem h
theorem rd_mem (xs : List Int) (i : Nat) (h : i < xs.length) : rd xs (i : Int) ∈ xs := by
  rw [rd_get xs i h]; exact List.getElem_mem h
theorem rdOf_mid (d : α) (pre t : List α) (x : α) (i : Nat) (h : pre.length = i) : rdOf d (pre ++ x :: t) (i : Int) = x := by
  subst h
  unfold rdOf
  rw [Int.toNat_natCast]
  simp [List.getD]
end
def mtB (n : Nat) (acc : ByteArray) : ByteArray := if n = 0 then (⟨#[109]⟩ : ByteArray) ++ acc else mtB (n / 10) (strOfNums [(48 + (n : Int) % 10) % 256] ++ acc)
termination_by n
decreasing_by omega
def mtR (k : Int) : ByteArray := if k ≤ 0 then ⟨#[109, 48]⟩ else mtB k.toNat ⟨#[]⟩
theorem i64_and_range (y m : Int) (h0 : 0 ≤ m) (h1 : m ≤ 9223372036854775807) : 0 ≤ Go.bits .and .i64 y m ∧ Go.bits .and .i64 y m ≤ m := by
  unfold Go.bits
  simp only
  rw [IntKind.wrap_i64, BitVec.toNat_and]
  have h2 : (2 : Nat) ^ IntKind.i64.bits = 18446744073709551616 := by decide
  have h3 : (BitVec.ofInt IntKind.i64.bits m).toNat = m.toNat := by
    rw [BitVec.toNat_ofInt, h2]; omega
  rw [h3]
  have := Nat.and_le_right (n := (BitVec.ofInt IntKind.i64.bits y).toNat) (m := m.toNat)
  omega
theorem idxP_step {α : Type} (p : α → Bool) (x : α) (t : List α) (i : Int) : idxP p (x :: t) i = if p x = true then i else idxP p t (i + 1) := rfl
theorem in_dec (x a b : Int) : (if x ≥ a then some (decide (x ≤ b)) else some false) = some (decide (a ≤ x ∧ x ≤ b)) := by
  by_cases c : x ≥ a
  · rw [if_pos c]
    congr 1
    by_cases d : x ≤ b
    · rw [decide_eq_true d, decide_eq_true ⟨c, d⟩]
    · rw [decide_eq_false d, decide_eq_false (fun h => d h.2)]
  · rw [if_neg c, decide_eq_false (fun h => c h.1)]
def Took (s : ByteArray) (a b : Int) (x : ByteArray) : Prop := 0 ≤ a ∧ b ≤ (s.size : Int) ∧ b = a + (x.size : Int) ∧ (bytesOf s).drop a.toNat = bytesOf x ++ (bytesOf s).drop b.toNat
theorem Took.trans {s : ByteArray} {a b c : Int} {x y : ByteArray} (h : Took s a b x) (g : Took s b c y) : Took s a c (x ++ y) := by
  obtain ⟨h1, h2, h3, h4⟩ := h
  obtain ⟨g1, g2, g3, g4⟩ := g
  refine ⟨h1, g2, by rw [ByteArray.size_append]; omega, ?_⟩
  rw [h4, g4, bytesOf_append, List.append_assoc]
theorem Took.whole {s : ByteArray} {b : Int} {x : ByteArray} (h : Took s 0 b x) (hb : b = (s.size : Int)) : x = s := by
  obtain ⟨h1, h2, h3, h4⟩ := h
  have e : (bytesOf s).drop b.toNat = [] := List.drop_eq_nil_of_le (by rw [bytesOf_length]; omega)
  rw [e, List.append_nil] at h4
  exact (bytesOf_inj h4).symm
theorem Took.all (s x t : ByteArray) : Took (s ++ x ++ t) (s.size : Int) ((s.size : Int) + (x.size : Int)) x := by
  refine ⟨by omega, by rw [ByteArray.size_append, ByteArray.size_append]; omega, rfl, ?_⟩
  have e1 : (bytesOf s).length = s.size := bytesOf_length s
  have e2 : (bytesOf x).length = x.size := bytesOf_length x
  have e3 : ((s.size : Int) + (x.size : Int)).toNat = s.size + x.size := by omega
  have l1 : ((bytesOf s) ++ (bytesOf x ++ bytesOf t)).drop s.size = bytesOf x ++ bytesOf t := List.drop_left' e1
  have l2 : ((bytesOf s) ++ (bytesOf x ++ bytesOf t)).drop (s.size + x.size) = bytesOf t := by rw [← List.drop_drop, l1]; exact List.drop_left' e2
  rw [bytesOf_append, bytesOf_append, List.append_assoc, Int.toNat_natCast, e3, l1, l2]
theorem Took.extract {s : ByteArray} {a b : Int} {x : ByteArray} (h : Took s a b x) : s.extract a.toNat b.toNat = x := by
  obtain ⟨h1, h2, h3, h4⟩ := h
  apply bytesOf_inj
  rw [bytesOf_extract, h4, show b.toNat - a.toNat = (bytesOf x).length by rw [bytesOf_length]; omega, List.take_left']
  rfl
theorem Took.of_extract (s : ByteArray) (a b : Int) (h0 : 0 ≤ a) (h1 : a ≤ b) (h2 : b ≤ (s.size : Int)) : Took s a b (s.extract a.toNat b.toNat) := by
  have hz : (s.extract a.toNat b.toNat).size = b.toNat - a.toNat := by
    rw [← bytesOf_length, bytesOf_extract, List.length_take, bytesOf_length_drop]; omega
  refine ⟨h0, h2, by rw [hz]; omega, ?_⟩
  have e : (bytesOf s).drop b.toNat = ((bytesOf s).drop a.toNat).drop (b.toNat - a.toNat) := by rw [List.drop_drop]; congr 1; omega
  rw [bytesOf_extract, e, List.take_append_drop]
theorem bytesOf_varB (n : Nat) : bytesOf (varB n) = varL n := bytesOf_strOfNums _ (varL_range n)
theorem rvR_took {s : ByteArray} {a n nx : Int} (h : rvR s a = (n, nx, true)) : Took s a nx (varB n.toNat) ∧ 0 ≤ n ∧ n ≤ 1000000000 := by
  obtain ⟨u, h1, h2, h3, h4, h5, h6, h7, h8⟩ := rvR_tells s a n nx h
  have hl : (((bytesOf s).drop a.toNat).take u).length = u := by rw [List.length_take, bytesOf_length_drop]; omega
  refine ⟨⟨h1, h7, ?_, ?_⟩, h2, h3⟩
  · rw [varB_size, h8, hl]; exact h4
  · rw [bytesOf_varB, h8, h4, show (a + (u : Int)).toNat = a.toNat + u by omega, ← List.drop_drop, List.take_append_drop]
theorem rvR_reads {s : ByteArray} {a b : Int} {n : Nat} (h : Took s a b (varB n)) (hn : n ≤ 1000000000) : rvR s a = ((n : Int), b, true) := by
  obtain ⟨h1, h2, h3, h4⟩ := h
  unfold rvR
  rw [if_pos ⟨h1, by omega⟩, h4, bytesOf_varB, rvL_reads a n _ hn, h3, varB_size]
theorem Took.split {s x y : ByteArray} {a c : Int} (h : Took s a c (x ++ y)) : Took s a (a + (x.size : Int)) x ∧ Took s (a + (x.size : Int)) c y := by
  obtain ⟨h1, h2, h3, h4⟩ := h
  rw [ByteArray.size_append] at h3
  rw [bytesOf_append, List.append_assoc] at h4
  have e : (bytesOf s).drop (a + (x.size : Int)).toNat = bytesOf y ++ (bytesOf s).drop c.toNat := by
    rw [show (a + (x.size : Int)).toNat = a.toNat + x.size by omega, ← List.drop_drop, h4, ← bytesOf_length x, List.drop_left']
    rfl
  exact ⟨⟨h1, by omega, rfl, by rw [e]; exact h4⟩, ⟨by omega, h2, by omega, e⟩⟩
/-- A number is read, at most so great; what is bad stays bad. -/
def numR (s : ByteArray) (most at_ : Int) (bad : Bool) : Int × Int × Bool :=
  if bad = false ∧ (rvR s at_).2.2 = true ∧ (rvR s at_).1 ≤ most then ((rvR s at_).1, (rvR s at_).2.1, false) else (0, at_, true)
theorem numR_no {s : ByteArray} {most a : Int} {bad : Bool} (h : (numR s most a bad).2.2 = true) : numR s most a bad = (0, a, true) := by
  unfold numR at h ⊢
  split
  · rename_i c; rw [if_pos c] at h; cases h
  · rfl
theorem numR_took {s : ByteArray} {most a n b : Int} {bad : Bool} (h : numR s most a bad = (n, b, false)) : bad = false ∧ Took s a b (varB n.toNat) ∧ 0 ≤ n ∧ n ≤ most ∧ n ≤ 1000000000 := by
  unfold numR at h
  rcases hr : rvR s a with ⟨m, c, ok⟩
  rw [hr] at h
  dsimp only at h
  split at h
  · rename_i q
    obtain ⟨q1, rfl, q3⟩ := q
    simp only [Prod.mk.injEq, and_true] at h
    obtain ⟨rfl, rfl⟩ := h
    obtain ⟨h1, h2, h3⟩ := rvR_took hr
    exact ⟨q1, h1, h2, q3, h3⟩
  · simp at h
theorem numR_reads {s : ByteArray} {most a b : Int} {n : Nat} (h : Took s a b (varB n)) (hn : n ≤ 1000000000) (hm : (n : Int) ≤ most) : numR s most a false = ((n : Int), b, false) := by
  unfold numR
  rw [rvR_reads h hn, if_pos ⟨rfl, rfl, hm⟩]
theorem numR_range (s : ByteArray) (most a : Int) (bad : Bool) (hm : 0 ≤ most) : 0 ≤ (numR s most a bad).1 ∧ (numR s most a bad).1 ≤ most ∧ (numR s most a bad).1 ≤ 1000000000 := by
  rcases h : numR s most a bad with ⟨t, b, ok⟩
  cases ok with
  | false => have := (numR_took h).2.2; exact this
  | true =>
    have e := numR_no (by rw [h] : (numR s most a bad).2.2 = true)
    rw [h] at e
    cases e
    exact ⟨Int.le_refl _, hm, by show (0 : Int) ≤ 1000000000; omega⟩
/-- A loop that goes on while p holds of the place. -/
theorem ev_every {α : Type} (g : Nat → Nat → Option α) (p : Nat → Bool) (n : Nat) {r e : α} (h0 : Ev (fun k => g k n) r) (h1 : ∀ i, i < n → p i = true → ∀ res, Ev (fun k => g k (i + 1)) res → Ev (fun k => g k i) res) (h2 : ∀ i, i < n → p i = false → Ev (fun k => g k i) e) : ∀ d i : Nat, i + d = n → Ev (fun k => g k i) (if (List.range' i d).all p = true then r else e) := by
  intro d
  induction d with
  | zero =>
    intro i hi
    have : i = n := by omega
    subst this
    exact h0
  | succ d ih =>
    intro i hi
    rw [List.range'_succ, List.all_cons]
    cases hp : p i with
    | false => exact h2 i (by omega) hp
    | true => exact h1 i (by omega) hp _ (ih (i + 1) (by omega))
theorem ite_tf (b : Bool) : (if b = true then true else false) = b := by cases b <;> rfl
theorem range_all_iff (n : Nat) (p : Nat → Bool) : (List.range' 0 n).all p = true ↔ ∀ i, i < n → p i = true := by
  rw [List.all_eq_true]
  constructor
  · intro h i hi; exact h i (by rw [List.mem_range'_1]; omega)
  · intro h i hi; exact h i (by rw [List.mem_range'_1] at hi; omega)
theorem take_succ_rdOf {α : Type} (d : α) (l : List α) (i : Nat) (h : i < l.length) : l.take (i + 1) = l.take i ++ [rdOf d l (i : Int)] := by
  rw [rdOf_get d l i h]; exact List.take_succ_eq_append_getElem h
def pagesB : List Int → ByteArray
  | [] => ⟨#[]⟩
  | p :: t => varB p.toNat ++ pagesB t
theorem varB_size_int (n : Int) (h : n ≤ 1000000000) : (varB n.toNat).size ≤ 10 := varB_size_le _ (by omega)
theorem pagesB_size (l : List Int) (h : ∀ x ∈ l, x ≤ 1000000000) : (pagesB l).size ≤ 10 * l.length := by
  induction l with
  | nil => exact Nat.zero_le _
  | cons p t ih =>
    unfold pagesB
    rw [ByteArray.size_append, List.length_cons]
    have h1 := varB_size_int p (h p (by simp))
    have h2 := ih (fun x hx => h x (by simp [hx]))
    omega
def pgAt (next : Int) (l : List Int) (k : Nat) : Bool := decide (2 ≤ rd l (k : Int) ∧ rd l (k : Int) ≤ next - 1) && (decide (k = 0) || decide (rd l ((k : Int) - 1) < rd l (k : Int)))
def seenL : List Int → List Int → Bool
  | _, [] => true
  | seen, p :: t => if (seen.any fun x => decide (x = p)) = true then false else seenL (seen ++ [p]) t
/-- So many numbers are read. -/
def pgP (s : ByteArray) (stop : Bool) : Nat → Int → Bool → List Int → Int × Bool × List Int
  | 0, a, bad, P => (a, bad, P)
  | d + 1, a, bad, P => if (stop && bad) = true then (a, bad, P) else pgP s stop d (numR s 1000000000 a bad).2.1 (numR s 1000000000 a bad).2.2 (P ++ [(numR s 1000000000 a bad).1])
theorem pgP_reads (s : ByteArray) (stop : Bool) (l : List Int) : ∀ (a b : Int) (P : List Int), (∀ x ∈ l, 0 ≤ x ∧ x ≤ 1000000000) → Took s a b (pagesB l) → pgP s stop l.length a false P = (b, false, P ++ l) := by
  induction l with
  | nil =>
    intro a b P _ ht
    have hb : b = a := by have := ht.2.2.1; change b = a + 0 at this; omega
    subst hb
    simp [pgP]
  | cons p t ih =>
    intro a b P h ht
    unfold pagesB at ht
    obtain ⟨t1, t2⟩ := Took.split ht
    have hp := h p (by simp)
    rw [List.length_cons]
    unfold pgP
    rw [if_neg (by simp), numR_reads t1 (by omega) (by omega)]
    dsimp only
    rw [ih _ _ _ (fun x hx => h x (by simp [hx])) t2]
    simp
    omega
theorem extract_left (x y : ByteArray) : (x ++ y).extract 0 x.size = x := by
  have h := (Took.all ⟨#[]⟩ x y).extract
  have e : (⟨#[]⟩ : ByteArray) ++ x = x := ByteArray.empty_append
  have z : (⟨#[]⟩ : ByteArray).size = 0 := rfl
  rw [e, z] at h
  simpa using h
theorem extract_right (x y : ByteArray) : (x ++ y).extract x.size (x ++ y).size = y := by
  have h := (Took.all x y ⟨#[]⟩).extract
  have e : x ++ y ++ (⟨#[]⟩ : ByteArray) = x ++ y := ByteArray.append_empty
  rw [e] at h
  rw [ByteArray.size_append]
  have e2 : ((x.size : Int) + (y.size : Int)).toNat = x.size + y.size := by omega
  rw [e2, Int.toNat_natCast] at h
  exact h
theorem unsealedR_sealed (x : ByteArray) (h : x.size ≤ 20000) : unsealedR (x ++ sealB x) = (x, true) := by
  have hz := sealB_size x
  have hs : (x ++ sealB x).size = x.size + 4 := by rw [ByteArray.size_append, hz]
  have e1 := extract_left x (sealB x)
  have e2 := extract_right x (sealB x)
  unfold unsealedR
  rw [show (x ++ sealB x).size - 4 = x.size by omega, e1, e2, if_pos ⟨by omega, by omega, rfl⟩]
theorem unsealedR_tells {s x : ByteArray} (h : unsealedR s = (x, true)) : s = x ++ sealB x ∧ x.size ≤ 20000 ∧ s.size = x.size + 4 := by
  unfold unsealedR at h
  split at h
  · rename_i c
    obtain ⟨c1, c2, c3⟩ := c
    simp only [Prod.mk.injEq, and_true] at h
    have h0 := Took.of_extract s 0 ((s.size - 4 : Nat) : Int) (by omega) (by omega) (by omega)
    have h1 := Took.of_extract s ((s.size - 4 : Nat) : Int) (s.size : Int) (by omega) (by omega) (by omega)
    have h2 := (h0.trans h1).whole rfl
    rw [Int.toNat_natCast, Int.toNat_natCast, c3] at h2
    rw [show (0 : Int).toNat = 0 from rfl, h] at h2
    have hz := sealB_size x
    have : s.size = x.size + 4 := by rw [← h2, ByteArray.size_append, hz]
    exact ⟨h2.symm, by omega, this⟩
  · simp at h
theorem unsealedR_no {s x : ByteArray} (h : unsealedR s = (x, false)) : x = ⟨#[]⟩ := by
  unfold unsealedR at h
  split at h
  · simp at h
  · simp only [Prod.mk.injEq, and_true] at h; exact h.symm
def freeB (x : S60) : ByteArray := (varB x.f0.toNat ++ varB x.f1.length) ++ pagesB x.f1
def freesB : List S60 → ByteArray
  | [] => ⟨#[]⟩
  | x :: t => freeB x ++ freesB t
def freeOkR (tx next : Int) (x : S60) : Bool := (List.range' 0 x.f1.length).all (pgAt next x.f1) && decide (1 ≤ x.f0 ∧ x.f0 ≤ tx) && decide (1 ≤ (x.f1.length : Int) ∧ (x.f1.length : Int) ≤ 40)
def seenTo (root : Int) (F : List S60) (i : Nat) : List Int := root :: (F.take i).flatMap fun x => x.f1
def freeAt (tx root next : Int) (F : List S60) (i : Nat) : Bool :=
  freeOkR tx next (rd_T60 F (i : Int)) && (decide (i = 0) || decide ((rd_T60 F ((i : Int) - 1)).f0 < (rd_T60 F (i : Int)).f0)) && seenL (seenTo root F i) (rd_T60 F (i : Int)).f1
def metaHeadOk (tx root next : Int) (n : Nat) : Bool := decide (0 ≤ tx ∧ tx ≤ 100000) && decide (2 ≤ next ∧ next ≤ 40) && (decide (root = 0) || decide (2 ≤ root ∧ root ≤ next - 1)) && decide ((n : Int) ≤ 20)
def metaOkR (tx root next : Int) (F : List S60) : Bool := metaHeadOk tx root next F.length && (List.range' 0 F.length).all (freeAt tx root next F)
theorem metaHeadOk_tells {tx root next : Int} {n : Nat} (h : metaHeadOk tx root next n = true) : 0 ≤ tx ∧ tx ≤ 100000 ∧ 2 ≤ next ∧ next ≤ 40 ∧ (root = 0 ∨ 2 ≤ root ∧ root ≤ next - 1) ∧ n ≤ 20 := by
  unfold metaHeadOk at h
  simp only [Bool.and_eq_true, Bool.or_eq_true, decide_eq_true_eq] at h
  omega
theorem metaOkR_tells {tx root next : Int} {F : List S60} (h : metaOkR tx root next F = true) : 0 ≤ tx ∧ tx ≤ 100000 ∧ 2 ≤ next ∧ next ≤ 40 ∧ (root = 0 ∨ 2 ≤ root ∧ root ≤ next - 1) ∧ F.length ≤ 20 ∧ ∀ x ∈ F, 1 ≤ x.f0 ∧ x.f0 ≤ tx ∧ 1 ≤ x.f1.length ∧ x.f1.length ≤ 40 ∧ ∀ p ∈ x.f1, 2 ≤ p ∧ p ≤ next - 1 := by
  unfold metaOkR at h
  rw [Bool.and_eq_true] at h
  obtain ⟨h1, h2, h3, h4, h5, h6⟩ := metaHeadOk_tells h.1
  refine ⟨h1, h2, h3, h4, h5, h6, fun x hx => ?_⟩
  obtain ⟨i, hi, rfl⟩ := List.getElem_of_mem hx
  have := (range_all_iff _ _).1 h.2 i hi
  unfold freeAt at this
  rw [show rd_T60 F (i : Int) = F[i] from rdOf_get z60 F i hi] at this
  unfold freeOkR at this
  simp only [Bool.and_eq_true, decide_eq_true_eq] at this
  obtain ⟨⟨⟨⟨q1, q2⟩, q3⟩, _⟩, _⟩ := this
  refine ⟨q2.1, q2.2, by omega, by omega, fun p hp => ?_⟩
  obtain ⟨j, hj, rfl⟩ := List.getElem_of_mem hp
  have := (range_all_iff _ _).1 q1 j hj
  unfold pgAt at this
  rw [rd_get _ j hj, Bool.and_eq_true, decide_eq_true_eq] at this
  exact this.1
def metaB (tx root next : Int) (F : List S60) : ByteArray := (((varB tx.toNat ++ varB root.toNat) ++ varB next.toNat) ++ varB F.length) ++ freesB F
theorem freesB_size (F : List S60) (h : ∀ x ∈ F, x.f0 ≤ 1000000000 ∧ x.f1.length ≤ 40 ∧ ∀ p ∈ x.f1, p ≤ 1000000000) : (freesB F).size ≤ 420 * F.length := by
  induction F with
  | nil => exact Nat.zero_le _
  | cons x t ih =>
    obtain ⟨h1, h2, h3⟩ := h x (by simp)
    have := ih (fun y hy => h y (by simp [hy]))
    have a1 := varB_size_int x.f0 h1
    have a2 := varB_size_le x.f1.length (by omega)
    have a3 := pagesB_size x.f1 h3
    unfold freesB freeB
    rw [ByteArray.size_append, ByteArray.size_append, ByteArray.size_append, List.length_cons]
    omega
theorem metaB_size {tx root next : Int} {F : List S60} (h : metaOkR tx root next F = true) : (metaB tx root next F).size ≤ 9000 := by
  obtain ⟨h1, h2, h3, h4, h5, h6, h7⟩ := metaOkR_tells h
  have := freesB_size F (fun x hx => by obtain ⟨q1, q2, q3, q4, q5⟩ := h7 x hx; exact ⟨by omega, q4, fun p hp => by have := q5 p hp; omega⟩)
  have a1 := varB_size_int tx (by omega)
  have a2 := varB_size_int root (by omega)
  have a3 := varB_size_int next (by omega)
  have a4 := varB_size_le F.length (by omega)
  unfold metaB
  rw [ByteArray.size_append, ByteArray.size_append, ByteArray.size_append, ByteArray.size_append]
  omega
def metaTextR (tx root next : Int) (F : List S60) : ByteArray × Bool :=
  if metaOkR tx root next F = true then (if ((metaB tx root next F).size : Int) + 4 > 240 then (⟨#[]⟩, false) else (metaB tx root next F ++ sealB (metaB tx root next F), true)) else (⟨#[]⟩, false)
/-- So many Frees are read. -/
def frP (s : ByteArray) (stop : Bool) (most : Int) (cap : Nat) : Nat → Int → Bool → List S60 → Int × Bool × List S60
  | 0, a, bad, F => (a, bad, F)
  | d + 1, a, bad, F =>
    if (stop && bad) = true then (a, bad, F)
    else
      let x := numR s 1000000000 a bad
      let y := numR s most x.2.1 x.2.2
      let z := pgP s stop (min y.1.toNat cap) y.2.1 y.2.2 []
      frP s stop most cap d z.1 z.2.1 (F ++ [⟨x.1, z.2.2⟩])
theorem frP_reads (s : ByteArray) (stop : Bool) (most : Int) (cap : Nat) (hm : 40 ≤ most) (hc : 40 ≤ cap) (F : List S60) : ∀ (a b : Int) (A : List S60), (∀ x ∈ F, 0 ≤ x.f0 ∧ x.f0 ≤ 1000000000 ∧ x.f1.length ≤ 40 ∧ ∀ p ∈ x.f1, 0 ≤ p ∧ p ≤ 1000000000) → Took s a b (freesB F) → frP s stop most cap F.length a false A = (b, false, A ++ F) := by
  induction F with
  | nil =>
    intro a b A _ ht
    have hb : b = a := by have := ht.2.2.1; change b = a + 0 at this; omega
    subst hb
    simp [frP]
  | cons x t ih =>
    intro a b A h ht
    unfold freesB at ht
    obtain ⟨t1, t2⟩ := Took.split ht
    unfold freeB at t1
    obtain ⟨t3, t4⟩ := Took.split t1
    obtain ⟨t5, t6⟩ := Took.split t3
    obtain ⟨h1, h2, h3, h4⟩ := h x (by simp)
    have r1 := numR_reads t5 (show x.f0.toNat ≤ 1000000000 by omega) (show (x.f0.toNat : Int) ≤ 1000000000 by omega)
    have r2 := numR_reads (most := most) t6 (show x.f1.length ≤ 1000000000 by omega) (by omega)
    have r3 := pgP_reads s stop x.f1 _ _ [] h4 t4
    rw [List.length_cons]
    unfold frP
    rw [if_neg (by simp), r1]
    dsimp only
    rw [r2]
    dsimp only
    rw [Int.toNat_natCast, Nat.min_eq_left (by omega), r3]
    dsimp only
    rw [show (varB x.f0.toNat ++ varB x.f1.length ++ pagesB x.f1) = freeB x from rfl, ih _ _ _ (fun y hy => h y (by simp [hy])) t2, Int.toNat_of_nonneg h1]
    simp
/-- The numbers ahead, then how many, then so many Frees. -/
def metaP (s : ByteArray) (stop : Bool) (bad : Bool) (mostF : Int) (capF : Nat) (mostP : Int) (capP : Nat) : Int × Int × Int × Int × Bool × List S60 :=
  let x := numR s 1000000000 0 bad
  let y := numR s 1000000000 x.2.1 x.2.2
  let z := numR s 1000000000 y.2.1 y.2.2
  let n := numR s mostF z.2.1 z.2.2
  let f := frP s stop mostP capP (min n.1.toNat capF) n.2.1 n.2.2 []
  (x.1, y.1, z.1, f.1, f.2.1, f.2.2)
theorem metaP_reads {tx root next : Int} {F : List S60} (h : metaOkR tx root next F = true) (stop : Bool) (mostF : Int) (capF : Nat) (mostP : Int) (capP : Nat) (h1 : 20 ≤ mostF) (h2 : 20 ≤ capF) (h3 : 40 ≤ mostP) (h4 : 40 ≤ capP) :
    metaP (metaB tx root next F) stop false mostF capF mostP capP = (tx, root, next, ((metaB tx root next F).size : Int), false, F) := by
  obtain ⟨g1, g2, g3, g4, g5, g6, g7⟩ := metaOkR_tells h
  have t0 : Took (metaB tx root next F) 0 ((metaB tx root next F).size : Int) (metaB tx root next F) := by
    have := Took.all ⟨#[]⟩ (metaB tx root next F) ⟨#[]⟩
    rw [show (⟨#[]⟩ : ByteArray) ++ metaB tx root next F = metaB tx root next F from ByteArray.empty_append, show metaB tx root next F ++ (⟨#[]⟩ : ByteArray) = metaB tx root next F from ByteArray.append_empty] at this
    have z : (⟨#[]⟩ : ByteArray).size = 0 := rfl
    rw [z] at this
    simpa using this
  generalize hB : metaB tx root next F = B at t0 ⊢
  have t0' : Took B 0 (B.size : Int) (metaB tx root next F) := by rw [hB]; exact t0
  unfold metaB at t0'
  obtain ⟨t1, tF⟩ := Took.split t0'
  obtain ⟨t2, tn⟩ := Took.split t1
  obtain ⟨t3, tz⟩ := Took.split t2
  obtain ⟨tx', ty⟩ := Took.split t3
  have r1 := numR_reads tx' (show tx.toNat ≤ 1000000000 by omega) (show (tx.toNat : Int) ≤ 1000000000 by omega)
  have r2 := numR_reads ty (show root.toNat ≤ 1000000000 by omega) (show (root.toNat : Int) ≤ 1000000000 by omega)
  have r3 := numR_reads tz (show next.toNat ≤ 1000000000 by omega) (show (next.toNat : Int) ≤ 1000000000 by omega)
  have r4 := numR_reads (most := mostF) tn (show F.length ≤ 1000000000 by omega) (by omega)
  have r5 := frP_reads B stop mostP capP h3 h4 F _ _ [] (fun x hx => by obtain ⟨q1, q2, q3, q4, q5⟩ := g7 x hx; exact ⟨by omega, by omega, q4, fun p hp => by have := q5 p hp; omega⟩) tF
  unfold metaP
  dsimp only
  rw [r1]
  dsimp only
  rw [r2]
  dsimp only
  rw [r3]
  dsimp only
  rw [r4]
  dsimp only
  rw [Int.toNat_natCast, Nat.min_eq_left (by omega), r5]
  dsimp only
  rw [Int.toNat_of_nonneg g1, Int.toNat_of_nonneg (by omega), Int.toNat_of_nonneg (by omega), List.nil_append]
/-- The meta that a text is, by what was read of it, and its text again. -/
def metaBack (t : ByteArray) (p : Int × Int × Int × Int × Bool × List S60) : Int × Int × Int × List S60 × Bool :=
  if p.2.2.2.2.1 = false ∧ metaTextR p.1 p.2.1 p.2.2.1 p.2.2.2.2.2 = (t, true) then (p.1, p.2.1, p.2.2.1, p.2.2.2.2.2, true) else (0, 0, 0, [], false)
theorem metaTextR_tells {tx root next : Int} {F : List S60} {t : ByteArray} (h : metaTextR tx root next F = (t, true)) : metaOkR tx root next F = true ∧ (metaB tx root next F).size ≤ 236 ∧ t = metaB tx root next F ++ sealB (metaB tx root next F) := by
  unfold metaTextR at h
  split at h
  · split at h
    · simp at h
    · simp only [Prod.mk.injEq, and_true] at h
      exact ⟨by assumption, by omega, h.symm⟩
  · simp at h
/-- What is read of a text that is one's, is it. -/
theorem metaP_back {tx root next : Int} {F : List S60} {t : ByteArray} (h : metaTextR tx root next F = (t, true)) (stop : Bool) (mostF : Int) (capF : Nat) (mostP : Int) (capP : Nat) (h1 : 20 ≤ mostF) (h2 : 20 ≤ capF) (h3 : 40 ≤ mostP) (h4 : 40 ≤ capP) :
    metaP (unsealedR t).1 stop (!(unsealedR t).2) mostF capF mostP capP = (tx, root, next, ((unsealedR t).1.size : Int), false, F) := by
  obtain ⟨g1, g2, rfl⟩ := metaTextR_tells h
  rw [unsealedR_sealed _ (by omega)]
  exact metaP_reads g1 stop mostF capF mostP capP h1 h2 h3 h4
/-- All ways to read give the same. -/
theorem metaBack_same (t : ByteArray) (s1 s2 : Bool) (m1 m2 n1 n2 : Int) (c1 c2 e1 e2 : Nat) (h1 : 20 ≤ m1) (h2 : 20 ≤ m2) (h3 : 40 ≤ n1) (h4 : 40 ≤ n2) (h5 : 20 ≤ c1) (h6 : 20 ≤ c2) (h7 : 40 ≤ e1) (h8 : 40 ≤ e2) :
    metaBack t (metaP (unsealedR t).1 s1 (!(unsealedR t).2) m1 c1 n1 e1) = metaBack t (metaP (unsealedR t).1 s2 (!(unsealedR t).2) m2 c2 n2 e2) := by
  rcases hp : metaP (unsealedR t).1 s1 (!(unsealedR t).2) m1 c1 n1 e1 with ⟨a1, a2, a3, a4, a5, a6⟩
  rcases hq : metaP (unsealedR t).1 s2 (!(unsealedR t).2) m2 c2 n2 e2 with ⟨b1, b2, b3, b4, b5, b6⟩
  by_cases c : metaTextR a1 a2 a3 a6 = (t, true)
  · have := metaP_back c s2 m2 c2 n2 e2 h2 h6 h4 h8
    have e := metaP_back c s1 m1 c1 n1 e1 h1 h5 h3 h7
    rw [hp] at e
    rw [hq] at this
    cases e
    cases this
    rfl
  · by_cases d : metaTextR b1 b2 b3 b6 = (t, true)
    · have := metaP_back d s2 m2 c2 n2 e2 h2 h6 h4 h8
      have e := metaP_back d s1 m1 c1 n1 e1 h1 h5 h3 h7
      rw [hp] at e
      rw [hq] at this
      cases e
      cases this
      rfl
    · unfold metaBack
      dsimp only
      rw [if_neg (fun h => c h.2), if_neg (fun h => d h.2)]
def readMetaR (t : ByteArray) : Int × Int × Int × List S60 × Bool := metaBack t (metaP (unsealedR t).1 true (!(unsealedR t).2) 1000000000 30 1000000000 50)
theorem readMetaR_text {tx root next : Int} {F : List S60} {t : ByteArray} (h : metaTextR tx root next F = (t, true)) : readMetaR t = (tx, root, next, F, true) := by
  unfold readMetaR
  rw [metaP_back h true 1000000000 30 1000000000 50 (by omega) (by omega) (by omega) (by omega)]
  unfold metaBack
  rw [if_pos ⟨rfl, h⟩]
theorem readMetaR_tells {tx root next : Int} {F : List S60} {t : ByteArray} (h : readMetaR t = (tx, root, next, F, true)) : metaTextR tx root next F = (t, true) := by
  unfold readMetaR metaBack at h
  split at h
  · rename_i c
    cases h
    exact c.2
  · simp at h
theorem seenTo_length (root : Int) (F : List S60) (hs : ∀ x ∈ F, x.f1.length ≤ 1048576) (i : Nat) : (seenTo root F i).length ≤ 1 + 1048576 * i := by
  unfold seenTo
  rw [List.length_cons]
  have h : ∀ (n : Nat) (L : List S60), (∀ x ∈ L, x.f1.length ≤ 1048576) → ((L.take n).flatMap fun x => x.f1).length ≤ 1048576 * n := by
    intro n
    induction n with
    | zero => intro L _; simp
    | succ n ih =>
      intro L hL
      cases L with
      | nil => simp
      | cons x t =>
        have h1 := hL x (by simp)
        have h2 := ih t (fun y hy => hL y (by simp [hy]))
        rw [List.take_succ_cons, List.flatMap_cons, List.length_append]
        omega
  have := h i F hs
  omega
theorem seenTo_step (root : Int) (F : List S60) (i : Nat) (hi : i < F.length) : seenTo root F (i + 1) = seenTo root F i ++ (rd_T60 F (i : Int)).f1 := by
  have e : rd_T60 F (i : Int) = F[i] := rdOf_get z60 F i hi
  unfold seenTo
  rw [e, List.take_succ_eq_append_getElem hi, List.flatMap_append]
  simp
def metaFin (t : ByteArray) : ByteArray × Bool := if (t.size : Int) + 4 > 240 then (⟨#[]⟩, false) else (t ++ sealB t, true)
def FreeFits (F : List S60) : Prop := ∀ x ∈ F, 0 ≤ x.f0 ∧ x.f0 ≤ 1000000000 ∧ x.f1.length ≤ 40 ∧ ∀ p ∈ x.f1, 0 ≤ p ∧ p ≤ 1000000000
theorem metaOkR_fits {tx root next : Int} {F : List S60} (h : metaOkR tx root next F = true) : FreeFits F := by
  obtain ⟨h1, h2, h3, h4, h5, h6, h7⟩ := metaOkR_tells h
  intro x hx
  obtain ⟨q1, q2, q3, q4, q5⟩ := h7 x hx
  exact ⟨by omega, by omega, q4, fun p hp => by have := q5 p hp; omega⟩
/-- The text that was written last to a page, among the first n that are late. -/
def rpL (page : Int) (base : ByteArray) (late : List S83) : Nat → ByteArray
  | 0 => base
  | n + 1 => if (rd_T83 late (n : Int)).f0 = page then (rd_T83 late (n : Int)).f1 else rpL page base late n
def rpR (pages : List ByteArray) (late : List S83) (page : Int) : ByteArray :=
  if 0 ≤ page ∧ page < (pages.length : Int) then rpL page (rdOf ByteArray.empty pages page) late late.length else ⟨#[]⟩
def marksPut (k : Int) : Nat → List S83
  | 0 => []
  | n + 1 => ⟨k, mtR (k + 1)⟩ :: marksPut (k + 2) n
theorem marksPut_length (n : Nat) : ∀ k, (marksPut k n).length = n := by
  induction n with
  | zero => intro k; rfl
  | succ n ih => intro k; unfold marksPut; rw [List.length_cons, ih]
def dokR (pages : List ByteArray) (late : List S83) : Bool :=
  decide (4 ≤ (pages.length : Int) ∧ (pages.length : Int) ≤ 40) && decide ((late.length : Int) ≤ 200) && !(pages.any fun s => decide ((s.size : Int) > 240)) && !(late.any fun p => !decide (0 ≤ p.f0 ∧ p.f0 ≤ wrap64 ((pages.length : Int) - 1)) || decide ((p.f1.size : Int) > 240))
theorem dokR_tells (pages : List ByteArray) (late : List S83) (h : dokR pages late = true) : 4 ≤ pages.length ∧ pages.length ≤ 40 ∧ late.length ≤ 200 ∧ (∀ s ∈ pages, s.size ≤ 240) ∧ ∀ p ∈ late, 0 ≤ p.f0 ∧ p.f0 < (pages.length : Int) ∧ p.f1.size ≤ 240 := by
  unfold dokR at h
  simp only [Bool.and_eq_true, decide_eq_true_eq, Bool.not_eq_true', List.any_eq_false, Bool.or_eq_true, not_or, Bool.not_eq_true, Bool.not_eq_false'] at h
  obtain ⟨⟨⟨h1, h2⟩, h3⟩, h4⟩ := h
  refine ⟨by omega, by omega, by omega, fun s hs => ?_, fun p hp => ?_⟩
  · have := h3 s hs; omega
  · have h5 := h4 p hp
    rw [w64 (by omega) (by omega)] at h5
    have h6 : 0 ≤ p.f0 ∧ p.f0 ≤ (pages.length : Int) - 1 := of_decide_eq_true (Bool.of_not_eq_false h5.1)
    have h7 := h5.2
    omega
theorem dokR_mk (pages : List ByteArray) (late : List S83) (h1 : 4 ≤ pages.length) (h2 : pages.length ≤ 40) (h3 : late.length ≤ 200) (h4 : ∀ s ∈ pages, s.size ≤ 240) (h5 : ∀ p ∈ late, 0 ≤ p.f0 ∧ p.f0 < (pages.length : Int) ∧ p.f1.size ≤ 240) : dokR pages late = true := by
  unfold dokR
  rw [decide_eq_true (⟨by omega, by omega⟩ : 4 ≤ (pages.length : Int) ∧ (pages.length : Int) ≤ 40), decide_eq_true (by omega : (late.length : Int) ≤ 200)]
  have a1 : (pages.any fun s => decide ((s.size : Int) > 240)) = false := by
    rw [List.any_eq_false]
    intro s hs
    have := h4 s hs
    rw [decide_eq_false (by omega)]; decide
  have a2 : (late.any fun p => !decide (0 ≤ p.f0 ∧ p.f0 ≤ wrap64 ((pages.length : Int) - 1)) || decide ((p.f1.size : Int) > 240)) = false := by
    rw [List.any_eq_false]
    intro p hp
    obtain ⟨g1, g2, g3⟩ := h5 p hp
    rw [w64 (by omega) (by omega), decide_eq_true (⟨g1, by omega⟩ : 0 ≤ p.f0 ∧ p.f0 ≤ (pages.length : Int) - 1), decide_eq_false (by omega)]
    decide
  rw [a1, a2]
  rfl
def setPg (P : List ByteArray) (x : S83) : List ByteArray := if 0 ≤ x.f0 ∧ x.f0 < (P.length : Int) then P.set x.f0.toNat x.f1 else P
def syncL : List ByteArray → List S83 → List ByteArray
  | P, [] => P
  | P, x :: t => syncL (setPg P x) t
theorem setPg_length (P : List ByteArray) (x : S83) : (setPg P x).length = P.length := by unfold setPg; split <;> simp
theorem syncL_length (L : List S83) : ∀ P, (syncL P L).length = P.length := by
  induction L with
  | nil => intro P; rfl
  | cons x t ih => intro P; unfold syncL; rw [ih, setPg_length]
theorem syncL_append (a b : List S83) : ∀ P, syncL P (a ++ b) = syncL (syncL P a) b := by
  induction a with
  | nil => intro P; rfl
  | cons x t ih => intro P; exact ih _
theorem rdOf_set (P : List ByteArray) (j : Nat) (v : ByteArray) (page : Int) (h0 : 0 ≤ page) (h : page < (P.length : Int)) : rdOf ByteArray.empty (P.set j v) page = if (j : Int) = page then v else rdOf ByteArray.empty P page := by
  obtain ⟨i, rfl⟩ := Int.eq_ofNat_of_zero_le h0
  rw [rdOf_get _ _ i (by rw [List.length_set]; omega), rdOf_get _ _ i (by omega), List.getElem_set]
  by_cases c : j = i
  · rw [if_pos c, if_pos (by omega)]
  · rw [if_neg c, if_neg (by omega)]
theorem setPg_read (P : List ByteArray) (x : S83) (page : Int) (h0 : 0 ≤ page) (h : page < (P.length : Int)) : rdOf ByteArray.empty (setPg P x) page = if x.f0 = page then x.f1 else rdOf ByteArray.empty P page := by
  unfold setPg
  by_cases c : 0 ≤ x.f0 ∧ x.f0 < (P.length : Int)
  · rw [if_pos c, rdOf_set P _ _ page h0 h, Int.toNat_of_nonneg c.1]
  · rw [if_neg c, if_neg (by omega)]
theorem syncL_take (P : List ByteArray) (L : List S83) (page : Int) (h0 : 0 ≤ page) (h : page < (P.length : Int)) : ∀ n, n ≤ L.length → rdOf ByteArray.empty (syncL P (L.take n)) page = rpL page (rdOf ByteArray.empty P page) L n := by
  intro n
  induction n with
  | zero => intro _; rfl
  | succ n ih =>
    intro hn
    rw [take_succ_rdOf z83 L n (by omega), syncL_append]
    show rdOf ByteArray.empty (setPg (syncL P (L.take n)) _) page = _
    rw [setPg_read _ _ page h0 (by rw [syncL_length]; exact h), ih (by omega)]
    rfl
theorem syncL_read (P : List ByteArray) (L : List S83) (page : Int) (h0 : 0 ≤ page) (h : page < (P.length : Int)) : rdOf ByteArray.empty (syncL P L) page = rpR P L page := by
  have := syncL_take P L page h0 h L.length (Nat.le_refl _)
  rw [List.take_length] at this
  rw [this]
  unfold rpR
  rw [if_pos ⟨h0, h⟩]
theorem rpL_prefix (page : Int) (base : ByteArray) (l m : List S83) : ∀ n, n ≤ l.length → rpL page base (l ++ m) n = rpL page base l n := by
  intro n
  induction n with
  | zero => intro _; rfl
  | succ n ih =>
    intro hn
    unfold rpL
    have e1 : rd_T83 (l ++ m) (n : Int) = rd_T83 l (n : Int) := by
      show rdOf z83 (l ++ m) (n : Int) = rdOf z83 l (n : Int)
      rw [rdOf_get _ _ n (by rw [List.length_append]; omega), rdOf_get _ _ n (by omega), List.getElem_append_left (by omega)]
    rw [e1, ih (by omega)]
theorem rpR_write (P : List ByteArray) (L : List S83) (x : S83) (page : Int) (h0 : 0 ≤ page) (h : page < (P.length : Int)) : rpR P (L ++ [x]) page = if x.f0 = page then x.f1 else rpR P L page := by
  unfold rpR
  rw [if_pos (show 0 ≤ page ∧ page < (P.length : Int) from ⟨h0, h⟩), if_pos (show 0 ≤ page ∧ page < (P.length : Int) from ⟨h0, h⟩), List.length_append, List.length_singleton]
  show (if (rd_T83 (L ++ [x]) (L.length : Int)).f0 = page then (rd_T83 (L ++ [x]) (L.length : Int)).f1 else rpL page (rdOf ByteArray.empty P page) (L ++ [x]) L.length) = _
  have e1 : rd_T83 (L ++ [x]) (L.length : Int) = x := by
    show rdOf z83 (L ++ [x]) (L.length : Int) = x
    exact rdOf_mid z83 L [] x _ rfl
  rw [e1, rpL_prefix _ _ L [x] L.length (Nat.le_refl _)]
theorem mem_set_le {P : List ByteArray} {j : Nat} {v : ByteArray} {m : Nat} (h : ∀ s ∈ P, s.size ≤ m) (hv : v.size ≤ m) : ∀ s ∈ P.set j v, s.size ≤ m := by
  intro s hs
  rcases List.mem_or_eq_of_mem_set hs with h1 | h1
  · exact h s h1
  · rw [h1]; exact hv
theorem syncL_small (m : Nat) (L : List S83) : ∀ P : List ByteArray, (∀ s ∈ P, s.size ≤ m) → (∀ p ∈ L, p.f1.size ≤ m) → ∀ s ∈ syncL P L, s.size ≤ m := by
  induction L with
  | nil => intro P h _; exact h
  | cons x t ih =>
    intro P h g
    refine ih _ ?_ (fun p hp => g p (by simp [hp]))
    unfold setPg
    split
    · exact mem_set_le h (g x (by simp))
    · exact h
theorem dokR_sync {P : List ByteArray} {L : List S83} (h : dokR P L = true) : dokR (syncL P L) [] = true := by
  obtain ⟨h1, h2, h3, h4, h5⟩ := dokR_tells P L h
  refine dokR_mk _ _ (by rw [syncL_length]; exact h1) (by rw [syncL_length]; exact h2) (Nat.zero_le _) (syncL_small 240 L P h4 (fun p hp => (h5 p hp).2.2)) (fun p hp => by cases hp)
theorem dokR_write {P : List ByteArray} {L : List S83} (h : dokR P L = true) (x : S83) (hl : L.length < 200) (h0 : 0 ≤ x.f0) (h1 : x.f0 < (P.length : Int)) (h2 : x.f1.size ≤ 240) : dokR P (L ++ [x]) = true := by
  obtain ⟨g1, g2, g3, g4, g5⟩ := dokR_tells P L h
  refine dokR_mk _ _ g1 g2 (by rw [List.length_append, List.length_singleton]; omega) g4 (fun p hp => ?_)
  rcases List.mem_append.1 hp with hp | hp
  · exact g5 p hp
  · rw [List.mem_singleton.1 hp]; exact ⟨h0, h1, h2⟩
def wpR (P : List ByteArray) (L : List S83) (page : Int) (text : ByteArray) : List ByteArray × List S83 × Bool :=
  if dokR P L = true ∧ (0 ≤ page ∧ page < (P.length : Int)) ∧ text.size ≤ 240 ∧ L.length < 200 then (P, L ++ [⟨page, text⟩], true) else (P, L, false)
/-- What falls: of what is late that which is left, torn at one place. -/
def fallL (left : List Bool) (torn : Int) : Nat → List ByteArray → List S83 → List ByteArray
  | _, P, [] => P
  | i, P, x :: t => fallL left torn (i + 1) (if rdOf false left (i : Int) = true then P.set x.f0.toNat (if (i : Int) = torn then x.f1.extract 0 (x.f1.size / 2) else x.f1) else P) t
theorem fallL_length (left : List Bool) (torn : Int) (L : List S83) : ∀ i P, (fallL left torn i P L).length = P.length := by
  induction L with
  | nil => intro i P; rfl
  | cons x t ih => intro i P; unfold fallL; rw [ih]; split <;> simp
def fallR (P : List ByteArray) (L : List S83) (left : List Bool) (torn : Int) : List ByteArray × List S83 :=
  if dokR P L = true then (fallL left torn 0 P L, []) else (P, L)
/-- What fell on a page was kept there, or late, whole or half. -/
def fellAt (val : ByteArray) (page : Int) (left : List Bool) (torn : Int) (k : Int) (x : S83) : Prop := x.f0 = page ∧ rdOf false left k = true ∧ (val = x.f1 ∨ (k = torn ∧ val = x.f1.extract 0 (x.f1.size / 2)))
theorem fallL_read (left : List Bool) (torn : Int) (page : Int) (h0 : 0 ≤ page) (L : List S83) : ∀ (i : Nat) (P : List ByteArray), page < (P.length : Int) → (∀ x ∈ L, 0 ≤ x.f0) → rdOf ByteArray.empty (fallL left torn i P L) page = rdOf ByteArray.empty P page ∨ ∃ k, ∃ h : k < L.length, fellAt (rdOf ByteArray.empty (fallL left torn i P L) page) page left torn ((i + k : Nat) : Int) L[k] := by
  induction L with
  | nil => intro i P _ _; exact .inl rfl
  | cons x t ih =>
    intro i P h hx
    unfold fallL
    rcases ih (i + 1) (if rdOf false left (i : Int) = true then P.set x.f0.toNat (if (i : Int) = torn then x.f1.extract 0 (x.f1.size / 2) else x.f1) else P) (by
      have e : (if rdOf false left (i : Int) = true then P.set x.f0.toNat (if (i : Int) = torn then x.f1.extract 0 (x.f1.size / 2) else x.f1) else P).length = P.length := by split <;> simp
      rw [e]; exact h) (fun y hy => hx y (by simp [hy])) with h1 | ⟨k, hk, h1⟩
    · rw [h1]
      by_cases c : rdOf false left (i : Int) = true
      · rw [if_pos c, rdOf_set P _ _ page h0 h, Int.toNat_of_nonneg (hx x (by simp))]
        by_cases e : x.f0 = page
        · rw [if_pos e]
          refine .inr ⟨0, by simp, e, c, ?_⟩
          show (if (i : Int) = torn then x.f1.extract 0 (x.f1.size / 2) else x.f1) = x.f1 ∨ _
          by_cases q : (i : Int) = torn
          · rw [if_pos q]; exact .inr ⟨q, rfl⟩
          · rw [if_neg q]; exact .inl rfl
        · rw [if_neg e]; exact .inl rfl
      · rw [if_neg c]; exact .inl rfl
    · refine .inr ⟨k + 1, by simp; omega, ?_⟩
      rw [show i + (k + 1) = i + 1 + k by omega]
      exact h1
theorem fallL_none (torn : Int) (L : List S83) : ∀ (i : Nat) (P : List ByteArray), fallL [] torn i P L = P := by
  induction L with
  | nil => intro i P; rfl
  | cons x t ih =>
    intro i P
    unfold fallL
    have : rdOf false ([] : List Bool) (i : Int) = false := by unfold rdOf; simp
    rw [this, if_neg (by decide)]
    exact ih _ _
theorem spec_l01In_eq (x a b : Int) : spec_l01In.f x a b = some (decide (a ≤ x ∧ x ≤ b)) := in_dec x a b
theorem spec_l06In_loop (l : List Int) (v : Int) (hl : l.length ≤ 1099511627776) : ∀ (d i : Nat), i + d = l.length → Ev (fun k => spec_l06In.l0 k l v (i : Int)) ((l.drop i).any fun x => decide (x = v)) := by
  intro d
  induction d with
  | zero =>
    intro i hi
    refine ev_end fun k => ?_
    rw [spec_l06In.l0, if_neg (by omega), List.drop_eq_nil_of_le (by omega)]
    rfl
  | succ d ih =>
    intro i hi
    rw [drop_rd l i (by omega), List.any_cons]
    by_cases c : rd l (i : Int) = v
    · rw [decide_eq_true c, Bool.true_or]
      refine ev_end fun k => ?_
      rw [spec_l06In.l0, if_pos (by omega), if_pos (by omega), if_pos c]
    · rw [decide_eq_false c, Bool.false_or]
      refine ev_go (ih (i + 1) (by omega)) fun k => ?_
      rw [spec_l06In.l0, if_pos (by omega), if_pos (by omega), if_neg c, w64 (by omega) (by omega)]
      rfl
theorem spec_l06In_fev (l : List Int) (v : Int) (hl : l.length ≤ 1099511627776) : Ev (fun k => spec_l06In.f k l v) (l.any fun x => decide (x = v)) := by
  have := spec_l06In_loop l v hl l.length 0 (by omega)
  rw [List.drop_zero] at this
  exact this
theorem spec_MetaOk_inner (tx root next : Int) (hn : 2 ≤ next ∧ next ≤ 40) (F : List S60) (i x0 : Int) (P : List Int) (hP : P.length ≤ 1048576) (res : Bool) : ∀ (d j : Nat) (seen : List Int), j + d = P.length → seen.length + d ≤ 1099511627776 → (((List.range' j d).all (pgAt next P) && seenL seen (P.drop j)) = true → Ev (fun k => spec_MetaOk.l0 k (seen ++ P.drop j) (wrap64 (i + 1)) tx root next F) res) → Ev (fun k => spec_MetaOk.l1 k seen i (j : Int) tx root next F x0 P) (if ((List.range' j d).all (pgAt next P) && seenL seen (P.drop j)) = true then res else false) := by
  intro d
  induction d with
  | zero =>
    intro j seen hj hs rest
    have h1 : ((List.range' j 0).all (pgAt next P) && seenL seen (P.drop j)) = true := by rw [List.drop_eq_nil_of_le (by omega)]; rfl
    have rest := rest h1
    rw [List.drop_eq_nil_of_le (by omega), List.append_nil] at rest
    rw [if_pos h1]
    refine ev_go rest fun k => ?_
    rw [spec_MetaOk.l1, if_neg (by omega)]
  | succ d ih =>
    intro j seen hj hs rest
    have stop : ∀ k, spec_MetaOk.j4 (k + 1) seen i (j : Int) true tx root next F x0 P = some false := fun k => by rw [spec_MetaOk.j4, if_pos rfl]
    obtain ⟨K1, e1⟩ := spec_l06In_fev seen (rd P (j : Int)) (by omega)
    dsimp only at e1
    rw [List.range'_succ, List.all_cons] at rest ⊢
    rw [drop_rd P j (by omega)] at rest ⊢
    unfold seenL at rest ⊢
    have hw : wrap64 (next - 1) = next - 1 := w64 (by omega) (by omega)
    by_cases c1 : 2 ≤ rd P (j : Int) ∧ rd P (j : Int) ≤ next - 1
    · by_cases c2 : j = 0 ∨ rd P ((j : Int) - 1) < rd P (j : Int)
      · have hp : pgAt next P j = true := by
          unfold pgAt
          rw [decide_eq_true c1, Bool.true_and, Bool.or_eq_true, decide_eq_true_eq, decide_eq_true_eq]
          exact c2
        have top : ∀ k r, spec_MetaOk.j4 k seen i (j : Int) (seen.any fun x => decide (x = rd P (j : Int))) tx root next F x0 P = some r → K1 ≤ k → spec_MetaOk.l1 (k + 1) seen i (j : Int) tx root next F x0 P = some r := by
          intro k r h hk
          rw [spec_MetaOk.l1, if_pos (by omega), if_pos (by omega), spec_l01In_eq, Option.bind_some, hw, decide_eq_true c1, if_pos rfl]
          by_cases c : j = 0
          · rw [if_neg (by omega), e1 k hk, Option.bind_some]; exact h
          · rw [if_pos (by omega), w64 (by omega) (by omega), if_pos (by omega), if_pos (by omega), if_neg (by omega), e1 k hk, Option.bind_some]; exact h
        rw [hp, Bool.true_and] at rest ⊢
        by_cases c : (seen.any fun x => decide (x = rd P (j : Int))) = true
        · rw [if_pos c, Bool.and_false, if_neg (by decide)]
          refine ev_succ ⟨K1 + 1, fun k hk => ?_⟩
          obtain ⟨k, rfl⟩ : ∃ q, k = q + 1 := ⟨k - 1, by omega⟩
          exact top _ _ (by rw [c]; exact stop k) (by omega)
        · rw [if_neg c] at rest ⊢
          obtain ⟨K2, e2⟩ := ih (j + 1) (seen ++ [rd P (j : Int)]) (by omega) (by simp; omega) (fun h => by rw [List.append_assoc, List.singleton_append]; exact rest h)
          dsimp only at e2
          refine ev_succ ⟨K1 + K2 + 1, fun k hk => ?_⟩
          obtain ⟨k, rfl⟩ : ∃ q, k = q + 1 := ⟨k - 1, by omega⟩
          refine top _ _ ?_ (by omega)
          rw [spec_MetaOk.j4, if_neg c, if_pos (by omega), if_pos (by omega), if_pos (by omega), w64 (by omega) (by omega)]
          exact e2 k (by omega)
      · have hp : pgAt next P j = false := by
          unfold pgAt
          rw [decide_eq_true c1, Bool.true_and, Bool.or_eq_false_iff, decide_eq_false_iff_not, decide_eq_false_iff_not]
          omega
        rw [hp, Bool.false_and, Bool.false_and, if_neg (by decide)]
        refine ev_succ ⟨1, fun k hk => ?_⟩
        obtain ⟨k, rfl⟩ : ∃ q, k = q + 1 := ⟨k - 1, by omega⟩
        rw [spec_MetaOk.l1, if_pos (by omega), if_pos (by omega), spec_l01In_eq, Option.bind_some, hw, decide_eq_true c1, if_pos rfl, if_pos (by omega), w64 (by omega) (by omega), if_pos (by omega), if_pos (by omega), if_pos (by omega)]
        exact stop k
    · have hp : pgAt next P j = false := by
        unfold pgAt
        rw [decide_eq_false c1, Bool.false_and]
      rw [hp, Bool.false_and, Bool.false_and, if_neg (by decide)]
      refine ev_succ ⟨1, fun k hk => ?_⟩
      obtain ⟨k, rfl⟩ : ∃ q, k = q + 1 := ⟨k - 1, by omega⟩
      rw [spec_MetaOk.l1, if_pos (by omega), if_pos (by omega), spec_l01In_eq, Option.bind_some, hw, decide_eq_false c1, if_neg (by decide)]
      exact stop k
theorem spec_MetaOk_loop (tx root next : Int) (hnx : 2 ≤ next ∧ next ≤ 40) (F : List S60) (hF : F.length ≤ 20) (hs : ∀ x ∈ F, x.f1.length ≤ 1048576) : Ev (fun k => spec_MetaOk.l0 k [root] 0 tx root next F) ((List.range' 0 F.length).all (freeAt tx root next F)) := by
  rw [← ite_tf ((List.range' 0 F.length).all (freeAt tx root next F))]
  have stop : ∀ (k : Nat) (i : Int) (seen : List Int) (x0 : Int) (P : List Int), spec_MetaOk.j2 (k + 1) seen i true tx root next F x0 P = some false := fun k i seen x0 P => by rw [spec_MetaOk.j2, if_pos rfl]
  have top : ∀ (i : Nat), i < F.length → ∀ (k : Nat) (r : Bool), (1 ≤ (rd_T60 F (i : Int)).f0 ∧ (rd_T60 F (i : Int)).f0 ≤ tx) → (i = 0 ∨ (rd_T60 F ((i : Int) - 1)).f0 < (rd_T60 F (i : Int)).f0) → spec_MetaOk.j2 k (seenTo root F i) (i : Int) (!decide (1 ≤ ((rd_T60 F (i : Int)).f1.length : Int) ∧ ((rd_T60 F (i : Int)).f1.length : Int) ≤ 40)) tx root next F (rd_T60 F (i : Int)).f0 (rd_T60 F (i : Int)).f1 = some r → spec_MetaOk.l0 (k + 1) (seenTo root F i) (i : Int) tx root next F = some r := by
    intro i hi k r c1 c2 h
    rw [spec_MetaOk.l0, if_pos (by omega), if_pos (by omega), spec_l01In_eq, Option.bind_some, decide_eq_true c1, if_pos rfl]
    by_cases c : i = 0
    · rw [if_neg (by omega), spec_l01In_eq, Option.bind_some]; exact h
    · rw [if_pos (by omega), w64 (by omega) (by omega), if_pos (by omega), if_pos (by omega), if_neg (by omega), spec_l01In_eq, Option.bind_some]; exact h
  refine ev_every (fun k i => spec_MetaOk.l0 k (seenTo root F i) (i : Int) tx root next F) (freeAt tx root next F) F.length ?_ ?_ ?_ F.length 0 (by omega)
  · refine ev_end fun k => ?_
    rw [spec_MetaOk.l0, if_neg (by omega)]
  · intro i hi hp res hr
    unfold freeAt freeOkR at hp
    simp only [Bool.and_eq_true, Bool.or_eq_true, decide_eq_true_eq] at hp
    obtain ⟨⟨⟨⟨p1, p2⟩, p3⟩, p4⟩, p5⟩ := hp
    have hl : (rd_T60 F (i : Int)).f1.length ≤ 1048576 := hs _ (rdOf_mem z60 F i hi)
    have hn := seenTo_length root F hs i
    rw [seenTo_step root F i hi] at hr
    have inner := spec_MetaOk_inner tx root next hnx F (i : Int) (rd_T60 F (i : Int)).f0 (rd_T60 F (i : Int)).f1 hl res (rd_T60 F (i : Int)).f1.length 0 (seenTo root F i) (by omega) (by omega) (fun _ => by rw [List.drop_zero, w64 (by omega) (by omega)]; exact hr)
    rw [List.drop_zero, p1, p5, Bool.true_and, if_pos rfl] at inner
    obtain ⟨K2, e2⟩ := inner
    dsimp only at e2
    refine ev_succ ⟨K2 + 1, fun k hk => ?_⟩
    obtain ⟨k, rfl⟩ : ∃ q, k = q + 1 := ⟨k - 1, by omega⟩
    refine top i hi _ _ p2 p4 ?_
    rw [decide_eq_true p3, spec_MetaOk.j2, if_neg (by decide)]
    exact e2 k (by omega)
  · intro i hi hp
    have hl : (rd_T60 F (i : Int)).f1.length ≤ 1048576 := hs _ (rdOf_mem z60 F i hi)
    have hn := seenTo_length root F hs i
    by_cases c1 : 1 ≤ (rd_T60 F (i : Int)).f0 ∧ (rd_T60 F (i : Int)).f0 ≤ tx
    · by_cases c2 : i = 0 ∨ (rd_T60 F ((i : Int) - 1)).f0 < (rd_T60 F (i : Int)).f0
      · by_cases c3 : 1 ≤ ((rd_T60 F (i : Int)).f1.length : Int) ∧ ((rd_T60 F (i : Int)).f1.length : Int) ≤ 40
        · have c2' : (decide (i = 0) || decide ((rd_T60 F ((i : Int) - 1)).f0 < (rd_T60 F (i : Int)).f0)) = true := by rw [Bool.or_eq_true, decide_eq_true_eq, decide_eq_true_eq]; exact c2
          unfold freeAt freeOkR at hp
          rw [c2', decide_eq_true c1, decide_eq_true c3, Bool.and_true, Bool.and_true, Bool.and_true] at hp
          have inner := spec_MetaOk_inner tx root next hnx F (i : Int) (rd_T60 F (i : Int)).f0 (rd_T60 F (i : Int)).f1 hl true (rd_T60 F (i : Int)).f1.length 0 (seenTo root F i) (by omega) (by omega) (fun h => by rw [List.drop_zero, hp] at h; cases h)
          rw [List.drop_zero, hp, if_neg (by decide)] at inner
          obtain ⟨K2, e2⟩ := inner
          dsimp only at e2
          refine ev_succ ⟨K2 + 1, fun k hk => ?_⟩
          obtain ⟨k, rfl⟩ : ∃ q, k = q + 1 := ⟨k - 1, by omega⟩
          refine top i hi _ _ c1 c2 ?_
          rw [decide_eq_true c3, spec_MetaOk.j2, if_neg (by decide)]
          exact e2 k (by omega)
        · refine ev_succ ⟨1, fun k hk => ?_⟩
          obtain ⟨k, rfl⟩ : ∃ q, k = q + 1 := ⟨k - 1, by omega⟩
          refine top i hi _ _ c1 c2 ?_
          rw [decide_eq_false c3]
          exact stop k _ _ _ _
      · refine ev_succ ⟨1, fun k hk => ?_⟩
        obtain ⟨k, rfl⟩ : ∃ q, k = q + 1 := ⟨k - 1, by omega⟩
        rw [spec_MetaOk.l0, if_pos (by omega), if_pos (by omega), spec_l01In_eq, Option.bind_some, decide_eq_true c1, if_pos rfl, if_pos (by omega), w64 (by omega) (by omega), if_pos (by omega), if_pos (by omega), if_pos (by omega)]
        exact stop k _ _ _ _
    · refine ev_succ ⟨1, fun k hk => ?_⟩
      obtain ⟨k, rfl⟩ : ∃ q, k = q + 1 := ⟨k - 1, by omega⟩
      rw [spec_MetaOk.l0, if_pos (by omega), if_pos (by omega), spec_l01In_eq, Option.bind_some, decide_eq_false c1, if_neg (by decide)]
      exact stop k _ _ _ _
theorem spec_MetaOk_fev (tx root next : Int) (F : List S60) (hF : F.length ≤ 1048576) (hs : ∀ x ∈ F, x.f1.length ≤ 1048576) : Ev (fun k => spec_MetaOk.f k tx root next F) (metaOkR tx root next F) := by
  have stop : ∀ k, spec_MetaOk.j0 (k + 1) true tx root next F = some false := fun k => by rw [spec_MetaOk.j0, if_pos rfl]
  have main : (2 ≤ next ∧ next ≤ 40) → Ev (fun k => spec_MetaOk.j0 k (decide ((F.length : Int) > 20)) tx root next F) (decide ((F.length : Int) ≤ 20) && (List.range' 0 F.length).all (freeAt tx root next F)) := by
    intro c2
    by_cases c : (F.length : Int) > 20
    · rw [decide_eq_true c, decide_eq_false (by omega), Bool.false_and]
      exact ev_end stop
    · rw [decide_eq_false c, decide_eq_true (by omega), Bool.true_and]
      refine ev_go (spec_MetaOk_loop tx root next c2 F (by omega) hs) fun k => ?_
      rw [spec_MetaOk.j0, if_neg (by decide)]
  unfold metaOkR metaHeadOk
  by_cases c1 : 0 ≤ tx ∧ tx ≤ 100000
  · rw [decide_eq_true c1, Bool.true_and]
    by_cases c2 : 2 ≤ next ∧ next ≤ 40
    · rw [decide_eq_true c2, Bool.true_and]
      by_cases c3 : root = 0
      · rw [decide_eq_true c3, Bool.true_or, Bool.true_and]
        refine Ev.congr (fun k => ?_) (main c2)
        unfold spec_MetaOk.f
        rw [spec_l01In_eq, Option.bind_some, decide_eq_true c1, if_pos rfl, spec_l01In_eq, Option.bind_some, decide_eq_true c2, if_pos rfl, if_pos c3]
      · rw [decide_eq_false c3, Bool.false_or]
        by_cases c4 : 2 ≤ root ∧ root ≤ next - 1
        · rw [decide_eq_true c4, Bool.true_and]
          refine Ev.congr (fun k => ?_) (main c2)
          unfold spec_MetaOk.f
          rw [spec_l01In_eq, Option.bind_some, decide_eq_true c1, if_pos rfl, spec_l01In_eq, Option.bind_some, decide_eq_true c2, if_pos rfl, if_neg c3, spec_l01In_eq, Option.bind_some, w64 (by omega) (by omega), decide_eq_true c4, if_pos rfl]
        · rw [decide_eq_false c4, Bool.false_and, Bool.false_and]
          refine ev_end fun k => ?_
          unfold spec_MetaOk.f
          rw [spec_l01In_eq, Option.bind_some, decide_eq_true c1, if_pos rfl, spec_l01In_eq, Option.bind_some, decide_eq_true c2, if_pos rfl, if_neg c3, spec_l01In_eq, Option.bind_some, w64 (by omega) (by omega), decide_eq_false c4, if_neg (by decide), stop]
    · rw [decide_eq_false c2, Bool.false_and, Bool.false_and, Bool.false_and]
      refine ev_end fun k => ?_
      unfold spec_MetaOk.f
      rw [spec_l01In_eq, Option.bind_some, decide_eq_true c1, if_pos rfl, spec_l01In_eq, Option.bind_some, decide_eq_false c2, if_neg (by decide), stop]
  · rw [decide_eq_false c1, Bool.false_and, Bool.false_and, Bool.false_and, Bool.false_and]
    refine ev_end fun k => ?_
    unfold spec_MetaOk.f
    rw [spec_l01In_eq, Option.bind_some, decide_eq_false c1, if_neg (by decide), stop]
theorem spec_l01Var_ev : ∀ (n : Nat) (acc : List Int), n ≤ 9223372036854775807 → acc.length + n ≤ 140737488355327 → Ev (fun k => spec_l01Var.l0 k (n : Int) acc) (strOfNums (acc ++ varL n)) := by
  intro n
  induction n using Nat.strongRecOn with
  | ind n ih =>
    intro acc hn hl
    by_cases h : n > 127
    · refine ev_go (f := fun k => spec_l01Var.l0 k ((n / 128 : Nat) : Int) (acc ++ [(n : Int) % 128 + 128])) ?_ ?_
      · have := ih (n / 128) (by omega) (acc ++ [(n : Int) % 128 + 128]) (by omega) (by rw [List.length_append, List.length_singleton]; omega)
        rw [List.append_assoc, List.singleton_append, ← varL_big h] at this
        exact this
      · intro k
        have e1 : wrap64 (Int.tdiv (n : Int) 128) = ((n / 128 : Nat) : Int) := by rw [Int.tdiv_eq_ediv_of_nonneg (by omega), w64 (by omega) (by omega)]; omega
        have e2 : (wrap64 (Int.tmod (n : Int) 128 + 128)) % 256 = (n : Int) % 128 + 128 := by rw [Int.tmod_eq_emod_of_nonneg (by omega), w64 (by omega) (by omega)]; omega
        rw [spec_l01Var.l0, if_pos (by omega), if_pos (by omega), e1, e2]
    · refine ev_end fun k => ?_
      rw [spec_l01Var.l0, if_neg (by omega), if_pos (by omega), varL_small h]
      rw [show (n : Int) % 256 = (n : Int) by omega]
theorem spec_l01Var_fev (n : Int) (h0 : 0 ≤ n) (h : n ≤ 140737488355327) : Ev (fun k => spec_l01Var.f k n) (varB n.toNat) := by
  have := spec_l01Var_ev n.toNat [] (by omega) (by simp; omega)
  rw [Int.toNat_of_nonneg h0, List.nil_append] at this
  exact this
theorem spec_SumMore_steps (s : ByteArray) (i : Int) (r : Int) : ∀ (d : Nat) (x : Int) (j : Int), j + d = 8 → 0 ≤ j → 0 ≤ x ∧ x < 4294967296 → Ev (fun k => spec_SumMore.l0 k (sumSteps d x) s (wrap64 (i + 1))) r → Ev (fun k => spec_SumMore.l1 k x s i j) r := by
  intro d
  induction d with
  | zero =>
    intro x j hj h0 hx h
    refine ev_go h fun k => ?_
    rw [spec_SumMore.l1, if_neg (by omega)]
    rfl
  | succ d ih =>
    intro x j hj h0 hx h
    refine ev_go (ih (sumStep x) (j + 1) (by omega) (by omega) (sumStep_range x hx) h) fun k => ?_
    rw [spec_SumMore.l1, if_pos (by omega), Int.tmod_eq_emod_of_nonneg hx.1, Int.tdiv_eq_ediv_of_nonneg hx.1, w64 (n := j + 1) (by omega) (by omega), show x / 2 % 4294967296 = x / 2 by omega]
    unfold sumStep
    by_cases c : x % 2 = 1
    · rw [if_pos c, if_pos c]
    · rw [if_neg c, if_neg c]
theorem spec_SumMore_loop (s : ByteArray) (hs : s.size ≤ 140737488351232) : ∀ (d : Nat) (x : Int) (i : Nat), i + d = s.size → 0 ≤ x ∧ x < 4294967296 → Ev (fun k => spec_SumMore.l0 k x s (i : Int)) (sumL x ((bytesOf s).drop i)) := by
  intro d
  induction d with
  | zero =>
    intro x i hi hx
    refine ev_end fun k => ?_
    rw [spec_SumMore.l0, if_neg (by omega), List.drop_eq_nil_of_le (by rw [bytesOf_length]; omega)]
    rfl
  | succ d ih =>
    intro x i hi hx
    have hb := bt_lo s i
    have hb' := bt_hi s i
    rw [bytesOf_drop s i (by omega)]
    have hn := ih (sumByte x (bt s i)) (i + 1) (by omega) (sumByte_range _ _)
    refine ev_go (spec_SumMore_steps s i _ 8 (Go.bits .xor .u32 x (bt s i)) 0 (by omega) (by omega) (bits_u32_range _ _ _ rfl) ?_) fun k => ?_
    · rw [w64 (by omega) (by omega)]
      exact hn
    · rw [spec_SumMore.l0, if_pos (by omega), if_pos (by omega), show bt s i % 4294967296 = bt s i by omega]
theorem spec_SumMore_fev (x : Int) (hx : 0 ≤ x ∧ x < 4294967296) (s : ByteArray) (hs : s.size ≤ 140737488351232) : Ev (fun k => spec_SumMore.f k x s) (sumR x s) :=
  spec_SumMore_loop s hs s.size x 0 (by omega) hx
theorem spec_SumOf_fev (s : ByteArray) (hs : s.size ≤ 140737488351232) : Ev (fun k => spec_SumOf.f k s) (sumR 4294967295 s) :=
  ev_call (spec_SumMore_fev 4294967295 (by omega) s hs) (Ev.now _) fun _ => rfl
theorem spec_Sealed_fev (s : ByteArray) (hs : s.size ≤ 140737488351232) : Ev (fun k => spec_Sealed.f k s) (sealedR s) := by
  unfold sealedR
  by_cases c : (s.size : Int) > 20000
  · rw [if_pos c]
    exact ev_some fun k => by unfold spec_Sealed.f; rw [if_pos c]
  · rw [if_neg c]
    refine ev_call (spec_SumOf_fev s hs) (c := fun k t => (spec_l02Four.f t).bind fun t106 => (if s.size + t106.size ≤ 9223372036854775807 then (some (s ++ t106, true)) else (none))) (ev_some fun k => ?_) fun k => by unfold spec_Sealed.f; rw [if_neg c]
    unfold spec_l02Four.f
    rw [Option.bind_some]
    have h4 : (sealB s).size = 4 := sealB_size s
    unfold sealB fourB at h4
    rw [if_pos (by omega)]
    rfl
theorem spec_MetaText_inner (tx root next : Int) (F : List S60) (i : Int) (hi0 : 0 ≤ i) (hi1 : i < (F.length : Int)) (P : List Int) (hPF : (rd_T60 F i).f1 = P) (hP : P.length ≤ 40) (hp : ∀ p ∈ P, 0 ≤ p ∧ p ≤ 1000000000) (r : ByteArray × Bool) : ∀ (d j : Nat) (acc : ByteArray), j + d = P.length → acc.size + 10 * d ≤ 1000000000 → Ev (fun k => spec_MetaText.l0 k (acc ++ pagesB (P.drop j)) (wrap64 (i + 1)) tx root next F) r → Ev (fun k => spec_MetaText.l1 k acc i (j : Int) tx root next F) r := by
  intro d
  induction d with
  | zero =>
    intro j acc hj ha rest
    rw [List.drop_eq_nil_of_le (by omega)] at rest
    have e : acc ++ pagesB [] = acc := ByteArray.append_empty
    rw [e] at rest
    refine ev_go rest fun k => ?_
    rw [spec_MetaText.l1, hPF, if_pos hi0, if_pos hi1, if_neg (by omega)]
  | succ d ih =>
    intro j acc hj ha rest
    have hm := hp _ (rd_mem P j (by omega))
    have hz := varB_size_int (rd P (j : Int)) hm.2
    obtain ⟨K1, e1⟩ := spec_l01Var_fev (rd P (j : Int)) hm.1 (by omega)
    rw [drop_rd P j (by omega), pagesB, ← ByteArray.append_assoc] at rest
    obtain ⟨K2, e2⟩ := ih (j + 1) (acc ++ varB (rd P (j : Int)).toNat) (by omega) (by rw [ByteArray.size_append]; omega) rest
    dsimp only at e1 e2
    refine ev_succ ⟨K1 + K2, fun k hk => ?_⟩
    rw [spec_MetaText.l1, hPF, if_pos hi0, if_pos hi1, if_pos (by omega), if_pos (by omega), e1 k (by omega), Option.bind_some, if_pos (by omega), w64 (by omega) (by omega)]
    exact e2 k (by omega)
theorem spec_MetaText_loop (tx root next : Int) (F : List S60) (hF : F.length ≤ 1000) (hf : FreeFits F) : ∀ (d i : Nat) (acc : ByteArray), i + d = F.length → acc.size + 420 * d ≤ 1000000 → Ev (fun k => spec_MetaText.l0 k acc (i : Int) tx root next F) (metaFin (acc ++ freesB (F.drop i))) := by
  intro d
  induction d with
  | zero =>
    intro i acc hi ha
    rw [List.drop_eq_nil_of_le (by omega)]
    have e : acc ++ freesB ([] : List S60) = acc := ByteArray.append_empty
    rw [e]
    obtain ⟨K1, e1⟩ := spec_Sealed_fev acc (by omega)
    dsimp only at e1
    have hz := sealB_size acc
    refine ev_succ ⟨K1, fun k hk => ?_⟩
    rw [spec_MetaText.l0, if_neg (by omega), e1 k hk, Option.bind_some]
    unfold metaFin sealedR
    by_cases c0 : (acc.size : Int) > 20000
    · rw [if_pos c0, if_neg (by decide), if_pos (by omega)]
    · rw [if_neg c0, if_pos rfl]
      dsimp only
      by_cases c : (acc.size : Int) + 4 > 240
      · rw [if_pos (by rw [ByteArray.size_append]; omega), if_pos c]
      · rw [if_neg (by rw [ByteArray.size_append]; omega), if_neg c]
  | succ d ih =>
    intro i acc hi ha
    obtain ⟨q1, q2, q3, q4⟩ : 0 ≤ (rd_T60 F (i : Int)).f0 ∧ (rd_T60 F (i : Int)).f0 ≤ 1000000000 ∧ (rd_T60 F (i : Int)).f1.length ≤ 40 ∧ ∀ p ∈ (rd_T60 F (i : Int)).f1, 0 ≤ p ∧ p ≤ 1000000000 := hf _ (rdOf_mem z60 F i (by omega))
    have z1 := varB_size_int _ q2
    have z2 := varB_size_le (rd_T60 F (i : Int)).f1.length (by omega)
    have z3 := pagesB_size _ (fun p hp => (q4 p hp).2)
    obtain ⟨K1, e1⟩ := spec_l01Var_fev (rd_T60 F (i : Int)).f0 q1 (by omega)
    obtain ⟨K2, e2⟩ := spec_l01Var_fev ((rd_T60 F (i : Int)).f1.length : Int) (by omega) (by omega)
    rw [Int.toNat_natCast] at e2
    have hr := ih (i + 1) (acc ++ freeB (rd_T60 F (i : Int))) (by omega) (by unfold freeB; rw [ByteArray.size_append, ByteArray.size_append, ByteArray.size_append]; omega)
    have hd : F.drop i = rd_T60 F (i : Int) :: F.drop (i + 1) := drop_rdOf z60 F i (by omega)
    rw [hd, freesB, ← ByteArray.append_assoc]
    obtain ⟨K3, e3⟩ := spec_MetaText_inner tx root next F (i : Int) (by omega) (by omega) (rd_T60 F (i : Int)).f1 rfl q3 q4 _ (rd_T60 F (i : Int)).f1.length 0 ((acc ++ varB (rd_T60 F (i : Int)).f0.toNat) ++ varB (rd_T60 F (i : Int)).f1.length) (by omega) (by rw [ByteArray.size_append, ByteArray.size_append]; omega) (by
      have e : ((acc ++ varB (rd_T60 F (i : Int)).f0.toNat) ++ varB (rd_T60 F (i : Int)).f1.length) ++ pagesB (rd_T60 F (i : Int)).f1 = acc ++ freeB (rd_T60 F (i : Int)) := by
        unfold freeB
        simp only [ByteArray.append_assoc]
      rw [List.drop_zero, e, w64 (by omega) (by omega)]
      exact hr)
    dsimp only at e1 e2 e3
    refine ev_succ ⟨K1 + K2 + K3, fun k hk => ?_⟩
    rw [spec_MetaText.l0, if_pos (by omega), if_pos (by omega), e1 k (by omega), Option.bind_some, if_pos (by omega), e2 k (by omega), Option.bind_some, if_pos (by rw [ByteArray.size_append]; omega)]
    exact e3 k (by omega)
theorem spec_MetaText_fev (tx root next : Int) (F : List S60) (hF : F.length ≤ 1048576) (hs : ∀ x ∈ F, x.f1.length ≤ 1048576) : Ev (fun k => spec_MetaText.f k tx root next F) (metaTextR tx root next F) := by
  obtain ⟨K1, e1⟩ := spec_MetaOk_fev tx root next F hF hs
  dsimp only at e1
  unfold metaTextR
  cases h : metaOkR tx root next F with
  | false =>
    refine ⟨K1, fun k hk => ?_⟩
    dsimp only
    unfold spec_MetaText.f
    rw [e1 k hk, Option.bind_some, h, if_neg (by decide), if_neg (by decide)]
  | true =>
    obtain ⟨h1, h2, h3, h4, h5, h6, h7⟩ := metaOkR_tells h
    have a1 := varB_size_int tx (by omega)
    have a2 := varB_size_int root (by omega)
    have a3 := varB_size_int next (by omega)
    have a4 := varB_size_le F.length (by omega)
    obtain ⟨K2, e2⟩ := spec_l01Var_fev tx h1 (by omega)
    obtain ⟨K3, e3⟩ := spec_l01Var_fev root (by omega) (by omega)
    obtain ⟨K4, e4⟩ := spec_l01Var_fev next (by omega) (by omega)
    obtain ⟨K5, e5⟩ := spec_l01Var_fev (F.length : Int) (by omega) (by omega)
    rw [Int.toNat_natCast] at e5
    obtain ⟨K6, e6⟩ := spec_MetaText_loop tx root next F (by omega) (metaOkR_fits h) F.length 0 (((varB tx.toNat ++ varB root.toNat) ++ varB next.toNat) ++ varB F.length) (by omega) (by rw [ByteArray.size_append, ByteArray.size_append, ByteArray.size_append]; omega)
    dsimp only at e2 e3 e4 e5 e6
    refine ⟨K1 + K2 + K3 + K4 + K5 + K6, fun k hk => ?_⟩
    dsimp only
    unfold spec_MetaText.f
    rw [e1 k (by omega), Option.bind_some, h, if_pos rfl, if_pos rfl, e2 k (by omega), Option.bind_some, e3 k (by omega), Option.bind_some, if_pos (by omega), e4 k (by omega), Option.bind_some, if_pos (by rw [ByteArray.size_append]; omega), e5 k (by omega), Option.bind_some, if_pos (by rw [ByteArray.size_append, ByteArray.size_append]; omega)]
    exact e6 k (by omega)
theorem spec_Unsealed_fev (s : ByteArray) (hs : s.size ≤ 140737488351232) : Ev (fun k => spec_Unsealed.f k s) (unsealedR s) := by
  unfold unsealedR
  by_cases c : 4 ≤ s.size ∧ s.size ≤ 20004
  · have hw : wrap64 ((s.size : Int) - 4) = (s.size : Int) - 4 := w64 (by omega) (by omega)
    have hx := extract_size_le s 0 (s.size - 4)
    have hn : ((s.size : Int) - 4).toNat = s.size - 4 := by omega
    refine ev_call (spec_SumOf_fev (s.extract 0 (s.size - 4)) (by omega)) (c := fun _ t105 => ((spec_l02Four.f t105).bind fun t106 => (if (s.extract (s.size - 4) s.size).toList = t106.toList then (some (s.extract 0 (s.size - 4), true)) else (some ((⟨#[]⟩ : ByteArray), false))))) (ev_some fun k => ?_) (fun k => ?_)
    · unfold spec_l02Four.f
      rw [Option.bind_some]
      change (if (s.extract (s.size - 4) s.size).toList = (sealB (s.extract 0 (s.size - 4))).toList then _ else _) = _
      by_cases c2 : s.extract (s.size - 4) s.size = sealB (s.extract 0 (s.size - 4))
      · rw [if_pos ((toList_eq_iff _ _).2 c2), if_pos ⟨c.1, c.2, c2⟩]
      · rw [if_neg (fun h => c2 ((toList_eq_iff _ _).1 h)), if_neg (fun h => c2 h.2.2)]
    · unfold spec_Unsealed.f
      rw [hw, if_neg (by omega), if_neg (by omega), if_pos (by omega), if_pos (by omega), hn]
  · rw [if_neg (fun h => c ⟨h.1, h.2.1⟩)]
    refine ev_some fun k => ?_
    unfold spec_Unsealed.f
    rw [w64 (by omega) (by omega)]
    by_cases c1 : (s.size : Int) - 4 < 0
    · rw [if_pos c1]
    · rw [if_neg c1, if_pos (by omega)]
theorem spec_ReadVar_ev (s : ByteArray) (hs : s.size ≤ 140737488351232) (a : Nat) (ha : a ≤ s.size) : ∀ (d j : Nat) (n : Int), 5 - j = d → j ≤ 5 → a + j ≤ s.size → 0 ≤ n → n < 128 ^ j → decAt ((bytesOf s).drop a) j n →
    Ev (fun k => spec_ReadVar.l0 k s (a : Int) n (128 ^ j) ((a : Int) + j)) (rvL a ((bytesOf s).drop a)) := by
  intro d
  induction d with
  | zero =>
    intro j n hd hj hl h0 h1 hD
    obtain rfl : j = 5 := by omega
    rw [rvL_none (decAt_over hD)]
    refine ev_succ ⟨1, fun k hk => ?_⟩
    obtain ⟨k, rfl⟩ : ∃ m, k = m + 1 := ⟨k - 1, by omega⟩
    rw [spec_ReadVar.l0]
    by_cases c : (a : Int) + (5 : Nat) < (s.size : Int)
    · rw [if_pos c, w64 (by omega) (by omega), decide_eq_false (by omega), spec_ReadVar.j1, if_neg (by decide)]
    · rw [if_neg c, spec_ReadVar.j1, if_neg (by decide)]
  | succ d ih =>
    intro j n hd hj hl h0 h1 hD
    by_cases c : a + j < s.size
    · have hdrop : ((bytesOf s).drop a).drop j = bt s ((a : Int) + j) :: ((bytesOf s).drop (a + j + 1)) := by
        rw [List.drop_drop, bytesOf_drop s (a + j) c]
        rw [show ((a + j : Nat) : Int) = (a : Int) + j by omega]
      have hb0 := bt_lo s ((a : Int) + j)
      have hb1 := bt_hi s ((a : Int) + j)
      obtain ⟨m1, m2, m3, m4⟩ := rv_mul j (by omega) n (bt s ((a : Int) + j)) h0 h1 hb0 hb1
      by_cases cb : bt s ((a : Int) + j) < 128
      · have hE := decAt_end hD (by omega) hdrop cb
        rw [show bt s ((a : Int) + j) % 128 = bt s ((a : Int) + j) by omega] at m1 m2 m3 m4
        by_cases cm : n + 128 ^ j * bt s ((a : Int) + j) > 1000000000
        · rw [rvL_bad hE (by omega)]
          refine ev_succ ⟨1, fun k hk => ?_⟩
          obtain ⟨k, rfl⟩ : ∃ m, k = m + 1 := ⟨k - 1, by omega⟩
          rw [spec_ReadVar.l0, if_pos (by omega), w64 (n := (a : Int) + 5) (by omega) (by omega), decide_eq_true (by omega), spec_ReadVar.j1, if_pos rfl, if_pos (by omega), if_pos (by omega), if_pos cb, m1, if_pos cm]
        · obtain ⟨K, hK⟩ := spec_l01Var_fev (n + 128 ^ j * bt s ((a : Int) + j)) m2 (by omega)
          dsimp only at hK
          refine ev_succ ⟨K + 1, fun k hk => ?_⟩
          obtain ⟨k, rfl⟩ : ∃ m, k = m + 1 := ⟨k - 1, by omega⟩
          rw [spec_ReadVar.l0, if_pos (by omega), w64 (n := (a : Int) + 5) (by omega) (by omega), decide_eq_true (by omega), spec_ReadVar.j1, if_pos rfl, if_pos (by omega), if_pos (by omega), if_pos cb, m1, if_neg cm]
          rw [hK k (by omega), Option.bind_some, w64 (n := (a : Int) + j + 1) (by omega) (by omega), if_pos (by omega), if_pos (by omega), if_pos (by omega)]
          have he : ((varB (n + 128 ^ j * bt s ((a : Int) + j)).toNat).toList = (s.extract (a : Int).toNat ((a : Int) + j + 1).toNat).toList) ↔ varL (n + 128 ^ j * bt s ((a : Int) + j)).toNat = ((bytesOf s).drop a).take (1 + j) := by
            rw [toList_eq_iff, varB, strOfNums_eq_iff _ _ (varL_range _), bytesOf_extract]
            rw [show (a : Int).toNat = a by omega, show ((a : Int) + j + 1).toNat - a = 1 + j by omega]
          by_cases ce : varL (n + 128 ^ j * bt s ((a : Int) + j)).toNat = ((bytesOf s).drop a).take (1 + j)
          · rw [if_pos (he.2 ce), rvL_good hE (by omega) ce]
            simp only [Option.some.injEq, Prod.mk.injEq, and_true, true_and]
            omega
          · rw [if_neg (fun h => ce (he.1 h)), rvL_bad hE (fun h => ce h.2)]
      · have hN := decAt_next hD (by omega) hdrop cb
        rw [show bt s ((a : Int) + j) % 128 = bt s ((a : Int) + j) - 128 by omega] at m1 m2 m3 m4
        have hsc : wrap64 (128 ^ j * 128) = 128 ^ (j + 1) := by
          rw [Int.pow_succ]
          rcases pow128 j (by omega) with ⟨h, _⟩ | ⟨h, _⟩ | ⟨h, _⟩ | ⟨h, _⟩ | ⟨h, _⟩ <;> (rw [h]; exact w64 (by omega) (by omega))
        have hi := ih (j + 1) _ (by omega) (by omega) (by omega) m2 m3 hN
        obtain ⟨K, hK⟩ := hi
        refine ev_succ ⟨K + 1, fun k hk => ?_⟩
        obtain ⟨k, rfl⟩ : ∃ m, k = m + 1 := ⟨k - 1, by omega⟩
        rw [spec_ReadVar.l0, if_pos (by omega), w64 (n := (a : Int) + 5) (by omega) (by omega), decide_eq_true (by omega), spec_ReadVar.j1, if_pos rfl, if_pos (by omega), if_pos (by omega), if_neg cb, m1, hsc, w64 (n := (a : Int) + j + 1) (by omega) (by omega)]
        have := hK k (by omega)
        simp only [Int.natCast_add, Int.natCast_one] at this
        rw [Int.add_assoc]
        exact this
    · have hdrop : ((bytesOf s).drop a).drop j = [] := by
        rw [List.drop_drop, List.drop_eq_nil_iff, bytesOf_length]; omega
      rw [rvL_none (decAt_short hD hdrop)]
      refine ev_succ ⟨1, fun k hk => ?_⟩
      obtain ⟨k, rfl⟩ : ∃ m, k = m + 1 := ⟨k - 1, by omega⟩
      rw [spec_ReadVar.l0, if_neg (by omega), spec_ReadVar.j1, if_neg (by decide)]
theorem spec_ReadVar_fev (s : ByteArray) (hs : s.size ≤ 140737488351232) (a : Int) : Ev (fun k => spec_ReadVar.f k s a) (rvR s a) := by
  unfold rvR
  by_cases c : 0 ≤ a ∧ a ≤ (s.size : Int)
  · rw [if_pos c]
    have := spec_ReadVar_ev s hs a.toNat (by omega) 5 0 0 (by omega) (by omega) (by omega) (by omega) (by simp) (decAt_zero _)
    rw [show ((a.toNat : Nat) : Int) = a by omega] at this
    simp only [Int.pow_zero, Int.natCast_zero, Int.add_zero] at this
    refine Ev.congr (fun k => ?_) this
    unfold spec_ReadVar.f spec_l01In.f
    rw [if_pos (by omega), Option.bind_some, decide_eq_true (by omega), if_pos rfl]
  · rw [if_neg c]
    refine ev_some fun k => ?_
    unfold spec_ReadVar.f spec_l01In.f
    by_cases c1 : a ≥ 0
    · rw [if_pos c1, Option.bind_some, decide_eq_false (by omega), if_neg (by decide)]
    · rw [if_neg c1, Option.bind_some, if_neg (by decide)]
theorem spec_l04Var_fev (s : ByteArray) (hs : s.size ≤ 140737488351232) (a : Int) (bad : Bool) : Ev (fun k => spec_l04Var.f k s a bad) ((numR s 1000000000 a bad).1, s, (numR s 1000000000 a bad).2.1, (numR s 1000000000 a bad).2.2) := by
  refine ev_call (spec_ReadVar_fev s hs a) (ev_some fun k => ?_) fun k => rfl
  unfold numR
  cases bad with
  | true => rw [if_pos rfl, if_neg (by simp)]
  | false =>
    rw [if_neg (by decide)]
    rcases hr : rvR s a with ⟨n, nx, ok⟩
    cases ok with
    | false => rw [if_neg (by simp), if_neg (by simp)]
    | true =>
      obtain ⟨_, _, h3⟩ := rvR_took hr
      rw [if_pos rfl, if_pos ⟨rfl, rfl, h3⟩]
theorem pgP_length (s : ByteArray) (stop : Bool) : ∀ (d : Nat) (a : Int) (bad : Bool) (P : List Int), (pgP s stop d a bad P).2.2.length ≤ P.length + d
  | 0, a, bad, P => by simp [pgP]
  | d + 1, a, bad, P => by
    unfold pgP
    split
    · simp only []; omega
    · have := pgP_length s stop d (numR s 1000000000 a bad).2.1 (numR s 1000000000 a bad).2.2 (P ++ [(numR s 1000000000 a bad).1])
      rw [List.length_append, List.length_singleton] at this
      omega
theorem spec_ReadMeta_end (t s : ByteArray) (tx root next n i a : Int) (bad : Bool) (F : List S60) (hF : F.length ≤ 1048576) (hP : ∀ x ∈ F, x.f1.length ≤ 1048576) : Ev (fun k => spec_ReadMeta.j1 k t n i false s a bad tx root next F) (metaBack t (tx, root, next, a, bad, F)) := by
  obtain ⟨K1, e1⟩ := spec_MetaText_fev tx root next F hF hP
  dsimp only at e1
  unfold metaBack
  dsimp only
  refine ev_succ ⟨K1, fun k hk => ?_⟩
  rw [spec_ReadMeta.j1, if_neg (by decide), e1 k hk, Option.bind_some]
  cases bad with
  | true => rw [if_pos rfl, if_neg (by simp)]
  | false =>
    rw [if_neg (by decide)]
    rcases hn : metaTextR tx root next F with ⟨x, o⟩
    dsimp only
    cases o with
    | false => rw [if_neg (by decide), if_neg (by simp)]
    | true =>
      rw [if_pos rfl]
      by_cases c : x = t
      · rw [if_pos (by rw [c]), if_pos ⟨rfl, by rw [c]⟩]
      · rw [if_neg (fun h => c (toList_inj h)), if_neg (fun h => c (by simpa using h.2))]
theorem spec_ReadMeta_inner (t s : ByteArray) (hs : s.size ≤ 140737488351232) (tx root next n cnt ftx : Int) (i : Nat) (hi : i ≤ 1048576) (F : List S60) (hF : F.length ≤ 1048576) (R : Int → Bool → List Int → Int × Int × Int × List S60 × Bool)
    (rest : ∀ (a : Int) (bad : Bool) (P : List Int), P.length ≤ 50 → Ev (fun k => spec_ReadMeta.l0 k t n ((i + 1 : Nat) : Int) s a bad tx root next (F ++ [(⟨ftx, P⟩ : S60)])) (R a bad P)) :
    ∀ (d j : Nat) (P : List Int) (a : Int) (bad : Bool), j + d = min cnt.toNat 50 → P.length ≤ j → Ev (fun k => spec_ReadMeta.l1 k t n (i : Int) cnt (j : Int) s a bad tx root next F ftx P) (R (pgP s true d a bad P).1 (pgP s true d a bad P).2.1 (pgP s true d a bad P).2.2) := by
  have hw : wrap64 ((i : Int) + 1) = ((i + 1 : Nat) : Int) := by rw [w64 (by omega) (by omega)]; rfl
  intro d
  induction d with
  | zero =>
    intro j P a bad hj hP
    refine ev_go (rest a bad P (by omega)) fun k => ?_
    rw [spec_ReadMeta.l1]
    by_cases c : (j : Int) < cnt
    · rw [if_pos c, if_neg (by omega), if_pos (by omega), hw]
    · rw [if_neg c, if_pos (by omega), hw]
  | succ d ih =>
    intro j P a bad hj hP
    unfold pgP
    cases bad with
    | true =>
      rw [if_pos (by simp)]
      refine ev_go (rest a true P (by omega)) fun k => ?_
      rw [spec_ReadMeta.l1, if_pos (by omega), if_pos (by omega), if_pos rfl, if_pos (by omega), hw]
    | false =>
      rw [if_neg (by simp)]
      obtain ⟨K1, e1⟩ := spec_l04Var_fev s hs a false
      obtain ⟨K2, e2⟩ := ih (j + 1) (P ++ [(numR s 1000000000 a false).1]) (numR s 1000000000 a false).2.1 (numR s 1000000000 a false).2.2 (by omega) (by simp; omega)
      dsimp only at e1 e2
      refine ev_succ ⟨K1 + K2, fun k hk => ?_⟩
      rw [spec_ReadMeta.l1, if_pos (by omega), if_pos (by omega), if_neg (by decide), e1 k (by omega), Option.bind_some, if_pos (by omega), w64 (n := (j : Int) + 1) (by omega) (by omega)]
      exact e2 k (by omega)
theorem spec_ReadMeta_loop (t s : ByteArray) (hs : s.size ≤ 140737488351232) (tx root next n : Int) : ∀ (d i : Nat) (F : List S60) (a : Int) (bad : Bool), i + d = min n.toNat 30 → F.length ≤ i → (∀ x ∈ F, x.f1.length ≤ 50) →
    Ev (fun k => spec_ReadMeta.l0 k t n (i : Int) s a bad tx root next F) (metaBack t (tx, root, next, (frP s true 1000000000 50 d a bad F).1, (frP s true 1000000000 50 d a bad F).2.1, (frP s true 1000000000 50 d a bad F).2.2)) := by
  intro d
  induction d with
  | zero =>
    intro i F a bad hi hF hP
    refine ev_go (spec_ReadMeta_end t s tx root next n (i : Int) a bad F (by omega) (fun x hx => by have := hP x hx; omega)) fun k => ?_
    rw [spec_ReadMeta.l0]
    by_cases c : (i : Int) < n
    · rw [if_pos c, if_neg (by omega)]
    · rw [if_neg c]
  | succ d ih =>
    intro i F a bad hi hF hP
    unfold frP
    cases bad with
    | true =>
      rw [if_pos (by simp)]
      refine ev_go (spec_ReadMeta_end t s tx root next n (i : Int) a true F (by omega) (fun x hx => by have := hP x hx; omega)) fun k => ?_
      rw [spec_ReadMeta.l0, if_pos (by omega), if_pos (by omega)]
      rfl
    | false =>
      rw [if_neg (by simp)]
      dsimp only
      obtain ⟨K1, e1⟩ := spec_l04Var_fev s hs a false
      dsimp only at e1
      rcases hx : numR s 1000000000 a false with ⟨x, xa, xb⟩
      rw [hx] at e1
      obtain ⟨K2, e2⟩ := spec_l04Var_fev s hs xa xb
      dsimp only at e1 e2 ⊢
      rcases hy : numR s 1000000000 xa xb with ⟨y, ya, yb⟩
      rw [hy] at e2
      dsimp only at e2 ⊢
      obtain ⟨K3, e3⟩ := spec_ReadMeta_inner t s hs tx root next n y x i (by omega) F (by omega)
        (fun a' bad' P => metaBack t (tx, root, next, (frP s true 1000000000 50 d a' bad' (F ++ [⟨x, P⟩])).1, (frP s true 1000000000 50 d a' bad' (F ++ [⟨x, P⟩])).2.1, (frP s true 1000000000 50 d a' bad' (F ++ [⟨x, P⟩])).2.2))
        (fun a' bad' P hPl => by
          have hi' := ih (i + 1) (F ++ [⟨x, P⟩]) a' bad' (by omega) (by rw [List.length_append, List.length_singleton]; omega) (fun z hz => by
            rcases List.mem_append.1 hz with h | h
            · exact hP z h
            · rw [List.mem_singleton.1 h]; exact hPl)
          exact hi')
        (min y.toNat 50) 0 [] ya yb (Nat.zero_add _) (Nat.le_refl _)
      dsimp only at e3
      refine ⟨K1 + K2 + K3 + 2, fun k hk => ?_⟩
      obtain ⟨k, rfl⟩ : ∃ q, k = q + 2 := ⟨k - 2, by omega⟩
      dsimp only
      rw [spec_ReadMeta.l0, if_pos (by omega), if_pos (by omega), show (!false) = true from rfl, spec_ReadMeta.j1, if_pos rfl, e1 k (by omega), Option.bind_some]
      dsimp only
      rw [e2 k (by omega), Option.bind_some]
      exact e3 k (by omega)
theorem spec_ReadMeta_fev (t : ByteArray) (ht : t.size ≤ 140737488351232) : Ev (fun k => spec_ReadMeta.f k t) (readMetaR t) := by
  have hz : (unsealedR t).1.size ≤ 140737488351232 := by
    rcases hu : unsealedR t with ⟨s, ok⟩
    cases ok with
    | true => have := (unsealedR_tells hu).2.1; dsimp only; omega
    | false => rw [unsealedR_no hu]; decide
  obtain ⟨K1, e1⟩ := spec_Unsealed_fev t ht
  obtain ⟨K2, e2⟩ := spec_l04Var_fev (unsealedR t).1 hz 0 (!(unsealedR t).2)
  unfold readMetaR metaP
  dsimp only
  revert e1 e2 hz
  rcases unsealedR t with ⟨s, ok⟩
  dsimp only
  intro hz e1 e2
  rcases hx : numR s 1000000000 0 (!ok) with ⟨x, xa, xb⟩
  obtain ⟨K3, e3⟩ := spec_l04Var_fev s hz xa xb
  rcases hy : numR s 1000000000 xa xb with ⟨y, ya, yb⟩
  obtain ⟨K4, e4⟩ := spec_l04Var_fev s hz ya yb
  rcases hw : numR s 1000000000 ya yb with ⟨z, za, zb⟩
  obtain ⟨K5, e5⟩ := spec_l04Var_fev s hz za zb
  rcases hn : numR s 1000000000 za zb with ⟨n, na, nb⟩
  rw [hx] at e2
  rw [hy] at e3
  rw [hw] at e4
  rw [hn] at e5
  obtain ⟨K6, e6⟩ := spec_ReadMeta_loop t s hz x y z n (min n.toNat 30) 0 [] na nb (Nat.zero_add _) (Nat.le_refl _) (fun _ h => by cases h)
  dsimp only at e2 e3 e4 e5 e6 ⊢
  refine ⟨K1 + K2 + K3 + K4 + K5 + K6, fun k hk => ?_⟩
  dsimp only
  unfold spec_ReadMeta.f
  rw [e1 k (by omega), Option.bind_some]
  dsimp only
  rw [e2 k (by omega), Option.bind_some]
  dsimp only
  rw [e3 k (by omega), Option.bind_some]
  dsimp only
  rw [e4 k (by omega), Option.bind_some]
  dsimp only
  rw [e5 k (by omega), Option.bind_some]
  exact e6 k (by omega)
theorem spec_ReadPage_loop (pages : List ByteArray) (late : List S83) (page : Int) (hp : 0 ≤ page ∧ page < (pages.length : Int)) (hl : late.length ≤ 1048576) : ∀ n : Nat, n ≤ late.length → Ev (fun k => spec_ReadPage.l0 k page ((n : Int) - 1) pages late) (rpL page (rdOf ByteArray.empty pages page) late n) := by
  intro n
  induction n with
  | zero =>
    intro hn
    refine ev_end fun k => ?_
    rw [spec_ReadPage.l0, if_neg (by omega), if_pos hp.1, if_pos hp.2]
    rfl
  | succ n ih =>
    intro hn
    unfold rpL
    rw [show (((n + 1 : Nat) : Int) - 1) = (n : Int) by omega]
    by_cases c : (rd_T83 late (n : Int)).f0 = page
    · rw [if_pos c]
      refine ev_end fun k => ?_
      rw [spec_ReadPage.l0, if_pos (by omega), if_pos (by omega), if_pos (by omega), if_pos c]
    · rw [if_neg c]
      refine ev_go (ih (by omega)) fun k => ?_
      rw [spec_ReadPage.l0, if_pos (by omega), if_pos (by omega), if_pos (by omega), if_neg c, w64 (by omega) (by omega)]
theorem spec_ReadPage_fev (pages : List ByteArray) (late : List S83) (page : Int) (hpg : pages.length ≤ 1048576) (hl : late.length ≤ 1048576) : Ev (fun k => spec_ReadPage.f k pages late page) (rpR pages late page) := by
  unfold rpR
  have e1 : wrap64 ((pages.length : Int) - 1) = (pages.length : Int) - 1 := w64 (by omega) (by omega)
  have e2 : wrap64 ((late.length : Int) - 1) = (late.length : Int) - 1 := w64 (by omega) (by omega)
  by_cases c : 0 ≤ page ∧ page < (pages.length : Int)
  · rw [if_pos c]
    refine Ev.congr (fun k => ?_) (spec_ReadPage_loop pages late page c hl late.length (Nat.le_refl _))
    unfold spec_ReadPage.f spec_l01In.f
    rw [e1, e2, if_pos (by omega), Option.bind_some, decide_eq_true (by omega), if_pos rfl]
  · rw [if_neg c]
    refine ev_some fun k => ?_
    unfold spec_ReadPage.f spec_l01In.f
    rw [e1]
    by_cases c1 : page ≥ 0
    · rw [if_pos c1, Option.bind_some, decide_eq_false (by omega), if_neg (by decide)]
    · rw [if_neg c1, Option.bind_some, if_neg (by decide)]
theorem readMetaR_small (t : ByteArray) : (readMetaR t).2.2.2.1.length ≤ 20 ∧ ∀ x ∈ (readMetaR t).2.2.2.1, x.f1.length ≤ 40 := by
  rcases hr : readMetaR t with ⟨a, b, c, F, ok⟩
  cases ok with
  | true =>
    have h := metaOkR_tells (metaTextR_tells (readMetaR_tells hr)).1
    exact ⟨h.2.2.2.2.2.1, fun x hx => (h.2.2.2.2.2.2 x hx).2.2.2.1⟩
  | false =>
    unfold readMetaR metaBack at hr
    split at hr
    · simp at hr
    · simp only [Prod.mk.injEq] at hr
      obtain ⟨_, _, _, rfl, _⟩ := hr
      exact ⟨by simp, fun x hx => by cases hx⟩
theorem rpL_size (B : Nat) (page : Int) (b : ByteArray) (hb : b.size ≤ B) (L : List S83) (hL : ∀ x ∈ L, x.f1.size ≤ B) : ∀ n, n ≤ L.length → (rpL page b L n).size ≤ B := by
  intro n
  induction n with
  | zero => intro _; exact hb
  | succ n ih =>
    intro h
    unfold rpL
    split
    · exact hL _ (rdOf_mem _ L n (by omega))
    · exact ih (by omega)
theorem rpR_size (B : Nat) (P : List ByteArray) (L : List S83) (page : Int) (hP : ∀ x ∈ P, x.size ≤ B) (hL : ∀ x ∈ L, x.f1.size ≤ B) : (rpR P L page).size ≤ B := by
  unfold rpR
  split
  · rename_i c
    refine rpL_size B page _ ?_ L hL _ (Nat.le_refl _)
    have h := rdOf_mem ByteArray.empty P page.toNat (by omega)
    rw [show ((page.toNat : Nat) : Int) = page by omega] at h
    exact hP _ h
  · exact Nat.zero_le _
def bestR (P : List ByteArray) (L : List S83) : Int × Int × Int × List S60 × Bool := spec_BestMeta.pick (readMetaR (rpR P L 0)) (readMetaR (rpR P L 1))
theorem bestR_small (P : List ByteArray) (L : List S83) : (bestR P L).2.2.2.1.length ≤ 20 ∧ ∀ x ∈ (bestR P L).2.2.2.1, x.f1.length ≤ 40 := by
  unfold bestR spec_BestMeta.pick
  split
  · exact readMetaR_small _
  · split
    · exact readMetaR_small _
    · exact ⟨by simp, fun x hx => by cases hx⟩
theorem spec_BestMeta_fev (P : List ByteArray) (L : List S83) (hp : P.length ≤ 1048576) (hl : L.length ≤ 1048576) (hP : ∀ x ∈ P, x.size ≤ 1048576) (hL : ∀ x ∈ L, x.f1.size ≤ 1048576) : Ev (fun k => spec_BestMeta.f k P L) (bestR P L) := by
  obtain ⟨K1, e1⟩ := spec_ReadPage_fev P L 0 hp hl
  obtain ⟨K2, e2⟩ := spec_ReadMeta_fev (rpR P L 0) (Nat.le_trans (rpR_size _ P L 0 hP hL) (by omega))
  obtain ⟨K3, e3⟩ := spec_ReadPage_fev P L 1 hp hl
  obtain ⟨K4, e4⟩ := spec_ReadMeta_fev (rpR P L 1) (Nat.le_trans (rpR_size _ P L 1 hP hL) (by omega))
  dsimp only at e1 e2 e3 e4
  refine ⟨K1 + K2 + K3 + K4, fun k hk => ?_⟩
  dsimp only
  unfold spec_BestMeta.f
  rw [e1 k (by omega), Option.bind_some, e2 k (by omega), Option.bind_some, e3 k (by omega), Option.bind_some, e4 k (by omega), Option.bind_some]
  rfl
theorem impl_in_eq (x a b : Int) : impl_in.f x a b = some (decide (a ≤ x ∧ x ≤ b)) := in_dec x a b
theorem impl_SumMore_steps (s : ByteArray) (i : Int) (r : Int) : ∀ (d : Nat) (x : Int) (j : Int), j + d = 8 → 0 ≤ j → 0 ≤ x ∧ x < 4294967296 → Ev (fun k => impl_SumMore.l0 k (sumSteps d x) s (s.size : Int) (wrap64 (i + 1))) r → Ev (fun k => impl_SumMore.l1 k x s (s.size : Int) i j) r := by
  intro d
  induction d with
  | zero =>
    intro x j hj h0 hx h
    refine ev_go h fun k => ?_
    rw [impl_SumMore.l1, if_neg (by omega)]
    rfl
  | succ d ih =>
    intro x j hj h0 hx h
    refine ev_go (ih (sumStep x) (j + 1) (by omega) (by omega) (sumStep_range x hx) h) fun k => ?_
    rw [impl_SumMore.l1, if_pos (by omega), u32_and1 x hx, w64 (n := j + 1) (by omega) (by omega)]
    unfold sumStep
    by_cases c : x % 2 = 1
    · rw [if_pos c, if_pos c]
    · rw [if_neg c, if_neg c]
theorem impl_SumMore_loop (s : ByteArray) (hs : s.size ≤ 140737488351232) : ∀ (d : Nat) (x : Int) (i : Nat), i + d = s.size → 0 ≤ x ∧ x < 4294967296 → Ev (fun k => impl_SumMore.l0 k x s (s.size : Int) (i : Int)) (sumL x ((bytesOf s).drop i)) := by
  intro d
  induction d with
  | zero =>
    intro x i hi hx
    refine ev_end fun k => ?_
    rw [impl_SumMore.l0, if_neg (by omega), List.drop_eq_nil_of_le (by rw [bytesOf_length]; omega)]
    rfl
  | succ d ih =>
    intro x i hi hx
    have hb := bt_lo s i
    have hb' := bt_hi s i
    rw [bytesOf_drop s i (by omega)]
    have hn := ih (sumByte x (bt s i)) (i + 1) (by omega) (sumByte_range _ _)
    refine ev_go (impl_SumMore_steps s i _ 8 (Go.bits .xor .u32 x (bt s i)) 0 (by omega) (by omega) (bits_u32_range _ _ _ rfl) ?_) fun k => ?_
    · rw [w64 (by omega) (by omega)]
      exact hn
    · rw [impl_SumMore.l0, if_pos (by omega), if_pos (by omega), if_pos (by omega), show bt s i % 4294967296 = bt s i by omega]
theorem impl_SumMore_fev (x : Int) (hx : 0 ≤ x ∧ x < 4294967296) (s : ByteArray) (hs : s.size ≤ 140737488351232) : Ev (fun k => impl_SumMore.f k x s) (sumR x s) :=
  impl_SumMore_loop s hs s.size x 0 (by omega) hx
theorem impl_SumOf_fev (s : ByteArray) (hs : s.size ≤ 140737488351232) : Ev (fun k => impl_SumOf.f k s) (sumR 4294967295 s) :=
  ev_call (impl_SumMore_fev 4294967295 (by omega) s hs) (Ev.now _) fun _ => rfl
theorem impl_seal_fev (s : ByteArray) (hs : s.size ≤ 140737488351232) : Ev (fun k => impl_seal.f k s) (sealB s) :=
  ev_call (impl_SumOf_fev s hs) (Ev.now _) fun _ => rfl
theorem impl_Unsealed_fev (s : ByteArray) (hs : s.size ≤ 140737488351232) : Ev (fun k => impl_Unsealed.f k s) (unsealedR s) := by
  unfold unsealedR
  have hw : wrap64 ((s.size : Int) - 4) = (s.size : Int) - 4 := w64 (by omega) (by omega)
  by_cases c : 4 ≤ s.size ∧ s.size ≤ 20004
  · have hx := extract_size_le s 0 (s.size - 4)
    have hn : ((s.size : Int) - 4).toNat = s.size - 4 := by omega
    refine ev_call (impl_seal_fev (s.extract 0 (s.size - 4)) (by omega)) (c := fun _ t106 => (if (s.extract (s.size - 4) s.size).toList = t106.toList then (some (s.extract 0 (s.size - 4), true)) else (some ((⟨#[]⟩ : ByteArray), false)))) (ev_some fun k => ?_) (fun k => ?_)
    · by_cases c2 : s.extract (s.size - 4) s.size = sealB (s.extract 0 (s.size - 4))
      · rw [if_pos ((toList_eq_iff _ _).2 c2), if_pos ⟨c.1, c.2, c2⟩]
      · rw [if_neg (fun h => c2 ((toList_eq_iff _ _).1 h)), if_neg (fun h => c2 h.2.2)]
    · unfold impl_Unsealed.f impl_in.f
      rw [hw, if_pos (by omega), Option.bind_some, decide_eq_true (by omega), if_pos rfl, if_pos (by omega), if_pos (by omega), hn]
  · rw [if_neg (fun h => c ⟨h.1, h.2.1⟩)]
    refine ev_some fun k => ?_
    unfold impl_Unsealed.f impl_in.f
    rw [hw]
    by_cases c1 : (s.size : Int) - 4 ≥ 0
    · rw [if_pos c1, Option.bind_some, decide_eq_false (by omega), if_neg (by decide)]
    · rw [if_neg c1, Option.bind_some, if_neg (by decide)]
theorem impl_ReadVar_ev (s : ByteArray) (hs : s.size ≤ 140737488351232) (a : Nat) (ha : a ≤ s.size) : ∀ (d j : Nat) (n : Int), 5 - j = d → j ≤ 5 → a + j ≤ s.size → 0 ≤ n → n < 128 ^ j → decAt ((bytesOf s).drop a) j n →
    Ev (fun k => impl_ReadVar.l0 k s (a : Int) n (j : Int)) (rvL a ((bytesOf s).drop a)) := by
  have hrange : ∀ x ∈ (bytesOf s).drop a, 0 ≤ x ∧ x ≤ 255 := fun x hx => bytesOf_range s x (List.mem_of_mem_drop hx)
  intro d
  induction d with
  | zero =>
    intro j n hd hj hl h0 h1 hD
    obtain rfl : j = 5 := by omega
    rw [rvL_none (decAt_over hD)]
    refine ev_succ ⟨1, fun k hk => ?_⟩
    obtain ⟨k, rfl⟩ : ∃ m, k = m + 1 := ⟨k - 1, by omega⟩
    rw [impl_ReadVar.l0, if_neg (by omega), impl_ReadVar.j1, if_neg (by decide)]
  | succ d ih =>
    intro j n hd hj hl h0 h1 hD
    by_cases c : a + j < s.size
    · have hdrop : ((bytesOf s).drop a).drop j = bt s ((a : Int) + j) :: ((bytesOf s).drop (a + j + 1)) := by
        rw [List.drop_drop, bytesOf_drop s (a + j) c]
        rw [show ((a + j : Nat) : Int) = (a : Int) + j by omega]
      have hget : ((bytesOf s).drop a).getD j 0 = bt s ((a : Int) + j) := by
        have : ((bytesOf s).drop a)[j]? = some (bt s ((a : Int) + j)) := by
          have := congrArg (fun l : List Int => l[0]?) hdrop
          simpa using this
        rw [List.getD_eq_getElem?_getD, this]
        rfl
      have hb0 := bt_lo s ((a : Int) + j)
      have hb1 := bt_hi s ((a : Int) + j)
      obtain ⟨m1, m2, m3, m4⟩ := rv_mul j (by omega) n (bt s ((a : Int) + j)) h0 h1 hb0 hb1
      have m0 := rv_or j (by omega) n (bt s ((a : Int) + j)) h0 h1 hb0 hb1
      have hw : wrap64 (bt s ((a : Int) + j)) = bt s ((a : Int) + j) := w64 (by omega) (by omega)
      rw [hw] at m0
      by_cases cb : bt s ((a : Int) + j) < 128
      · have hE := decAt_end hD (by omega) hdrop cb
        have hC := decL_canon 5 _ _ _ hrange hE
        rw [show 1 + j - 1 = j by omega, hget] at hC
        rw [show bt s ((a : Int) + j) % 128 = bt s ((a : Int) + j) by omega] at m0 m1 m2 m3 m4
        refine ev_succ ⟨1, fun k hk => ?_⟩
        obtain ⟨k, rfl⟩ : ∃ m, k = m + 1 := ⟨k - 1, by omega⟩
        rw [impl_ReadVar.l0, if_pos (by omega), w64 (n := (a : Int) + j) (by omega) (by omega), decide_eq_true (by omega), impl_ReadVar.j1, if_pos rfl, w64 (n := (a : Int) + j) (by omega) (by omega), if_pos (by omega), if_pos (by omega), w64 (n := 7 * (j : Int)) (by omega) (by omega), if_pos (by omega), hw, if_neg (by omega)]
        rw [w64 (n := 7 * (j : Int)) (by omega) (by omega)] at m0
        rw [m0, w64 (n := (a : Int) + j + 1) (by omega) (by omega)]
        have hN : ¬ (n + 128 ^ j * bt s ((a : Int) + j) > 1000000000) → ¬ (bt s ((a : Int) + j) = 0 ∧ j > 0) → rvL a ((bytesOf s).drop a) = (n + 128 ^ j * bt s ((a : Int) + j), (a : Int) + j + 1, true) := by
          intro g1 g2
          rw [rvL_good hE (by omega) (hC.2 (fun h => g2 ⟨h.2, by omega⟩))]
          simp only [Prod.mk.injEq, and_true, true_and]
          omega
        have hM : n + 128 ^ j * bt s ((a : Int) + j) > 1000000000 → rvL a ((bytesOf s).drop a) = (0, 0, false) := fun g => rvL_bad hE (fun h => by omega)
        by_cases cz : bt s ((a : Int) + j) = 0
        · rw [if_pos cz]
          by_cases cj : (j : Int) > 0
          · rw [if_pos cj, rvL_bad hE]
            intro h
            exact hC.1 h.2 ⟨by omega, cz⟩
          · rw [if_neg cj]
            by_cases cm : n + 128 ^ j * bt s ((a : Int) + j) > 1000000000
            · rw [if_pos cm, hM cm]
            · rw [if_neg cm, hN cm (by omega)]
        · rw [if_neg cz]
          by_cases cm : n + 128 ^ j * bt s ((a : Int) + j) > 1000000000
          · rw [if_pos cm, hM cm]
          · rw [if_neg cm, hN cm (by omega)]
      · have hN := decAt_next hD (by omega) hdrop cb
        rw [show bt s ((a : Int) + j) % 128 = bt s ((a : Int) + j) - 128 by omega] at m0 m1 m2 m3 m4
        have hi := ih (j + 1) _ (by omega) (by omega) (by omega) m2 m3 hN
        obtain ⟨K, hK⟩ := hi
        dsimp only at hK
        refine ev_succ ⟨K + 1, fun k hk => ?_⟩
        obtain ⟨k, rfl⟩ : ∃ m, k = m + 1 := ⟨k - 1, by omega⟩
        rw [w64 (n := 7 * (j : Int)) (by omega) (by omega)] at m0
        rw [impl_ReadVar.l0, if_pos (by omega), w64 (n := (a : Int) + j) (by omega) (by omega), decide_eq_true (by omega), impl_ReadVar.j1, if_pos rfl, w64 (n := (a : Int) + j) (by omega) (by omega), if_pos (by omega), if_pos (by omega), w64 (n := 7 * (j : Int)) (by omega) (by omega), if_pos (by omega), hw, if_pos (by omega), m0, w64 (n := (j : Int) + 1) (by omega) (by omega)]
        have := hK k (by omega)
        simp only [Int.natCast_add, Int.natCast_one] at this
        exact this
    · have hdrop : ((bytesOf s).drop a).drop j = [] := by
        rw [List.drop_drop, List.drop_eq_nil_iff, bytesOf_length]; omega
      rw [rvL_none (decAt_short hD hdrop)]
      refine ev_succ ⟨1, fun k hk => ?_⟩
      obtain ⟨k, rfl⟩ : ∃ m, k = m + 1 := ⟨k - 1, by omega⟩
      rw [impl_ReadVar.l0, if_pos (by omega), w64 (n := (a : Int) + j) (by omega) (by omega), decide_eq_false (by omega), impl_ReadVar.j1, if_neg (by decide)]
theorem impl_ReadVar_fev (s : ByteArray) (hs : s.size ≤ 140737488351232) (a : Int) : Ev (fun k => impl_ReadVar.f k s a) (rvR s a) := by
  unfold rvR
  by_cases c : 0 ≤ a ∧ a ≤ (s.size : Int)
  · rw [if_pos c]
    have := impl_ReadVar_ev s hs a.toNat (by omega) 5 0 0 (by omega) (by omega) (by omega) (by omega) (by simp) (decAt_zero _)
    rw [show ((a.toNat : Nat) : Int) = a by omega] at this
    simp only [Int.natCast_zero] at this
    refine Ev.congr (fun k => ?_) this
    unfold impl_ReadVar.f impl_in.f
    rw [if_pos (by omega), Option.bind_some, decide_eq_true (by omega), if_pos rfl]
  · rw [if_neg c]
    refine ev_some fun k => ?_
    unfold impl_ReadVar.f impl_in.f
    by_cases c1 : a ≥ 0
    · rw [if_pos c1, Option.bind_some, decide_eq_false (by omega), if_neg (by decide)]
    · rw [if_neg c1, Option.bind_some, if_neg (by decide)]
theorem impl_reader_num_fev (s : ByteArray) (hs : s.size ≤ 140737488351232) (a : Int) (bad : Bool) (most : Int) : Ev (fun k => impl_reader_num.f k s a bad most) ((numR s most a bad).1, s, (numR s most a bad).2.1, (numR s most a bad).2.2) := by
  refine ev_call (impl_ReadVar_fev s hs a) (ev_some fun k => ?_) fun k => rfl
  unfold numR
  cases bad with
  | true => rw [if_pos rfl, if_neg (by simp)]
  | false =>
    rw [if_neg (by decide)]
    rcases hr : rvR s a with ⟨n, nx, ok⟩
    cases ok with
    | false => rw [if_neg (by simp), if_neg (by simp)]
    | true =>
      rw [if_pos rfl]
      by_cases c : n ≤ most
      · rw [if_neg (by omega), if_pos ⟨rfl, rfl, c⟩]
      · rw [if_pos (by omega), if_neg (fun h => c h.2.2)]
theorem impl_freeOk_fev (x0 : Int) (l : List Int) (tx root next : Int) (F : List S60) (hl : l.length ≤ 1048576) : Ev (fun k => impl_freeOk.f k x0 l tx root next F) ((List.range' 0 l.length).all (pgAt next l) && decide (1 ≤ x0 ∧ x0 ≤ tx) && decide (1 ≤ (l.length : Int) ∧ (l.length : Int) ≤ 40)) := by
  have h := ev_every (fun k i => impl_freeOk.l0 k l (l.length : Int) (i : Int) x0 l tx root next F) (pgAt next l) l.length (r := decide (1 ≤ x0 ∧ x0 ≤ tx) && decide (1 ≤ (l.length : Int) ∧ (l.length : Int) ≤ 40)) (e := false) ?_ ?_ ?_ l.length 0 (by omega)
  · refine Ev.congr (g := fun k => impl_freeOk.l0 k l (l.length : Int) ((0 : Nat) : Int) x0 l tx root next F) (fun k => rfl) ?_
    have e : ((List.range' 0 l.length).all (pgAt next l) && decide (1 ≤ x0 ∧ x0 ≤ tx) && decide (1 ≤ (l.length : Int) ∧ (l.length : Int) ≤ 40)) = (if (List.range' 0 l.length).all (pgAt next l) = true then (decide (1 ≤ x0 ∧ x0 ≤ tx) && decide (1 ≤ (l.length : Int) ∧ (l.length : Int) ≤ 40)) else false) := by
      cases (List.range' 0 l.length).all (pgAt next l) <;> rfl
    rw [e]
    exact h
  · refine ev_end fun k => ?_
    rw [impl_freeOk.l0, if_neg (by omega), impl_in_eq, Option.bind_some]
    by_cases c : 1 ≤ x0 ∧ x0 ≤ tx
    · rw [decide_eq_true c, if_pos rfl, impl_in_eq, Option.bind_some, Bool.true_and]
    · rw [decide_eq_false c, if_neg (by decide), Bool.false_and]
  · intro i hi hp res hr
    unfold pgAt at hp
    rw [Bool.and_eq_true, decide_eq_true_eq, Bool.or_eq_true, decide_eq_true_eq, decide_eq_true_eq] at hp
    obtain ⟨K, e⟩ := hr
    dsimp only at e
    refine ev_succ ⟨K + 1, fun k hk => ?_⟩
    obtain ⟨k, rfl⟩ : ∃ q, k = q + 1 := ⟨k - 1, by omega⟩
    have step : impl_freeOk.j1 (k + 1) l (l.length : Int) (i : Int) false x0 l tx root next F = some res := by
      rw [impl_freeOk.j1, if_neg (by decide), w64 (by omega) (by omega)]
      exact e k (by omega)
    rw [impl_freeOk.l0, if_pos (by omega), if_pos (by omega), if_pos (by omega), if_neg (by omega), if_neg (by omega)]
    by_cases c : i = 0
    · rw [if_neg (by omega)]; exact step
    · rw [if_pos (by omega), w64 (by omega) (by omega), if_pos (by omega), if_pos (by omega), decide_eq_false (by omega)]; exact step
  · intro i hi hp
    unfold pgAt at hp
    refine ev_succ ⟨1, fun k hk => ?_⟩
    obtain ⟨k, rfl⟩ : ∃ q, k = q + 1 := ⟨k - 1, by omega⟩
    have stop : impl_freeOk.j1 (k + 1) l (l.length : Int) (i : Int) true x0 l tx root next F = some false := by
      rw [impl_freeOk.j1, if_pos rfl]
    rw [impl_freeOk.l0, if_pos (by omega), if_pos (by omega), if_pos (by omega)]
    by_cases c1 : rd l (i : Int) < 2
    · rw [if_pos c1]; exact stop
    · rw [if_neg c1]
      by_cases c2 : rd l (i : Int) ≥ next
      · rw [if_pos c2]; exact stop
      · rw [if_neg c2]
        rw [decide_eq_true (show 2 ≤ rd l (i : Int) ∧ rd l (i : Int) ≤ next - 1 by omega), Bool.true_and, Bool.or_eq_false_iff, decide_eq_false_iff_not, decide_eq_false_iff_not] at hp
        rw [if_pos (by omega), w64 (by omega) (by omega), if_pos (by omega), if_pos (by omega), decide_eq_true (by omega)]; exact stop
theorem slices_Index_int_int_loop (l : List Int) (v : Int) (hl : l.length ≤ 9223372036854775806) : ∀ d i : Nat, i + d = l.length → Ev (fun k => slices_Index_int_int.l0 k l v (l.length : Int) (i : Int)) (idxP (fun x => decide (x = v)) (l.drop i) (i : Int)) := by
  intro d
  induction d with
  | zero =>
    intro i hi
    refine ev_end fun k => ?_
    rw [slices_Index_int_int.l0, if_neg (by omega), List.drop_eq_nil_of_le (by omega)]
    rfl
  | succ d ih =>
    intro i hi
    rw [drop_rd l i (by omega), idxP_step]
    by_cases c : rd l (i : Int) = v
    · rw [if_pos (decide_eq_true c)]
      refine ev_end fun k => ?_
      rw [slices_Index_int_int.l0, if_pos (by omega), if_pos (by omega), if_pos (by omega), if_pos c.symm]
    · rw [decide_eq_false c, if_neg (by decide)]
      refine ev_go (ih (i + 1) (by omega)) fun k => ?_
      rw [slices_Index_int_int.l0, if_pos (by omega), if_pos (by omega), if_pos (by omega), if_neg (fun h => c h.symm), w64 (by omega) (by omega)]
      rfl
theorem slices_Contains_int_int_fev (l : List Int) (v : Int) (hl : l.length ≤ 9223372036854775806) : Ev (fun k => slices_Contains_int_int.f k l v) (l.any fun x => decide (x = v)) := by
  rw [← idxP_any]
  have h := slices_Index_int_int_loop l v hl l.length 0 (by omega)
  rw [List.drop_zero] at h
  exact ev_call h (c := fun _ t => some (decide (t ≥ 0))) (Ev.now _) fun k => rfl
theorem impl_MetaOk_inner (tx root next : Int) (F : List S60) (n i : Int) (P : List Int) (hP : P.length ≤ 1048576) (res : Bool) : ∀ (d j : Nat) (seen : List Int), j + d = P.length → seen.length + d ≤ 1099511627776 → Ev (fun k => impl_MetaOk.l0 k (seen ++ P.drop j) F n (wrap64 (i + 1)) tx root next F) res → Ev (fun k => impl_MetaOk.l1 k seen F n i P (P.length : Int) (j : Int) tx root next F) (if seenL seen (P.drop j) = true then res else false) := by
  intro d
  induction d with
  | zero =>
    intro j seen hj hs rest
    rw [List.drop_eq_nil_of_le (by omega), List.append_nil] at rest
    rw [List.drop_eq_nil_of_le (by omega), if_pos (by rfl)]
    refine ev_go rest fun k => ?_
    rw [impl_MetaOk.l1, if_neg (by omega)]
  | succ d ih =>
    intro j seen hj hs rest
    obtain ⟨K1, e1⟩ := slices_Contains_int_int_fev seen (rd P (j : Int)) (by omega)
    dsimp only at e1
    rw [drop_rd P j (by omega)] at rest ⊢
    unfold seenL
    by_cases c : (seen.any fun x => decide (x = rd P (j : Int))) = true
    · rw [if_pos c, if_neg (by decide)]
      refine ev_succ ⟨K1, fun k hk => ?_⟩
      rw [impl_MetaOk.l1, if_pos (by omega), if_pos (by omega), if_pos (by omega), e1 k hk, Option.bind_some, if_pos c]
    · rw [if_neg c]
      obtain ⟨K2, e2⟩ := ih (j + 1) (seen ++ [rd P (j : Int)]) (by omega) (by simp; omega) (by rw [List.append_assoc, List.singleton_append]; exact rest)
      dsimp only at e2
      refine ev_succ ⟨K1 + K2, fun k hk => ?_⟩
      rw [impl_MetaOk.l1, if_pos (by omega), if_pos (by omega), if_pos (by omega), e1 k (by omega), Option.bind_some, if_neg c, if_pos (by omega), w64 (by omega) (by omega)]
      exact e2 k (by omega)
theorem impl_MetaOk_loop (tx root next : Int) (F : List S60) (hF : F.length ≤ 20) (hs : ∀ x ∈ F, x.f1.length ≤ 1048576) : Ev (fun k => impl_MetaOk.l0 k [root] F (F.length : Int) 0 tx root next F) ((List.range' 0 F.length).all (freeAt tx root next F)) := by
  rw [← ite_tf ((List.range' 0 F.length).all (freeAt tx root next F))]
  refine ev_every (fun k i => impl_MetaOk.l0 k (seenTo root F i) F (F.length : Int) (i : Int) tx root next F) (freeAt tx root next F) F.length ?_ ?_ ?_ F.length 0 (by omega)
  · refine ev_end fun k => ?_
    rw [impl_MetaOk.l0, if_neg (by omega)]
  · intro i hi hp res hr
    unfold freeAt at hp
    rw [Bool.and_eq_true, Bool.and_eq_true, Bool.or_eq_true, decide_eq_true_eq, decide_eq_true_eq] at hp
    obtain ⟨⟨p1, p2⟩, p3⟩ := hp
    have hl := hs _ (rdOf_mem z60 F i hi)
    have hl : (rd_T60 F (i : Int)).f1.length ≤ 1048576 := hl
    have hn := seenTo_length root F hs i
    rw [seenTo_step root F i hi] at hr
    have inner := impl_MetaOk_inner tx root next F (F.length : Int) (i : Int) (rd_T60 F (i : Int)).f1 hl res (rd_T60 F (i : Int)).f1.length 0 (seenTo root F i) (by omega) (by omega) (by rw [List.drop_zero, w64 (by omega) (by omega)]; exact hr)
    rw [List.drop_zero, if_pos p3] at inner
    obtain ⟨K1, e1⟩ := impl_freeOk_fev (rd_T60 F (i : Int)).f0 (rd_T60 F (i : Int)).f1 tx root next F hl
    unfold freeOkR at p1
    rw [p1] at e1
    obtain ⟨K2, e2⟩ := inner
    dsimp only at e1 e2
    refine ev_succ ⟨K1 + K2 + 1, fun k hk => ?_⟩
    obtain ⟨k, rfl⟩ : ∃ q, k = q + 1 := ⟨k - 1, by omega⟩
    have step : impl_MetaOk.j2 (k + 1) (seenTo root F i) F (F.length : Int) (i : Int) false tx root next F (rd_T60 F (i : Int)).f0 (rd_T60 F (i : Int)).f1 = some res := by
      rw [impl_MetaOk.j2, if_neg (by decide)]
      exact e2 k (by omega)
    rw [impl_MetaOk.l0, if_pos (by omega), if_pos (by omega), if_pos (by omega), e1 _ (by omega), Option.bind_some, if_pos rfl]
    by_cases c : i = 0
    · rw [if_neg (by omega)]; exact step
    · rw [if_pos (by omega), w64 (by omega) (by omega), if_pos (by omega), if_pos (by omega), decide_eq_false (by omega)]; exact step
  · intro i hi hp
    have hl : (rd_T60 F (i : Int)).f1.length ≤ 1048576 := hs _ (rdOf_mem z60 F i hi)
    have hn := seenTo_length root F hs i
    obtain ⟨K1, e1⟩ := impl_freeOk_fev (rd_T60 F (i : Int)).f0 (rd_T60 F (i : Int)).f1 tx root next F hl
    have e1 : ∀ k, K1 ≤ k → impl_freeOk.f k (rd_T60 F (i : Int)).f0 (rd_T60 F (i : Int)).f1 tx root next F = some (freeOkR tx next (rd_T60 F (i : Int))) := e1
    have stop : ∀ k, impl_MetaOk.j2 (k + 1) (seenTo root F i) F (F.length : Int) (i : Int) true tx root next F (rd_T60 F (i : Int)).f0 (rd_T60 F (i : Int)).f1 = some false := fun k => by rw [impl_MetaOk.j2, if_pos rfl]
    unfold freeAt at hp
    cases c1 : freeOkR tx next (rd_T60 F (i : Int)) with
    | false =>
      refine ev_succ ⟨K1 + 1, fun k hk => ?_⟩
      obtain ⟨k, rfl⟩ : ∃ q, k = q + 1 := ⟨k - 1, by omega⟩
      rw [impl_MetaOk.l0, if_pos (by omega), if_pos (by omega), if_pos (by omega), e1 _ (by omega), Option.bind_some, c1, if_neg (by decide)]
      exact stop k
    | true =>
      rw [c1, Bool.true_and] at hp
      by_cases c2 : i = 0 ∨ (rd_T60 F ((i : Int) - 1)).f0 < (rd_T60 F (i : Int)).f0
      · have c2' : (decide (i = 0) || decide ((rd_T60 F ((i : Int) - 1)).f0 < (rd_T60 F (i : Int)).f0)) = true := by rw [Bool.or_eq_true, decide_eq_true_eq, decide_eq_true_eq]; exact c2
        rw [c2', Bool.true_and] at hp
        have inner : ∀ d j (seen : List Int), j + d = (rd_T60 F (i : Int)).f1.length → seen.length + d ≤ 1099511627776 → seenL seen ((rd_T60 F (i : Int)).f1.drop j) = false → Ev (fun k => impl_MetaOk.l1 k seen F (F.length : Int) (i : Int) (rd_T60 F (i : Int)).f1 ((rd_T60 F (i : Int)).f1.length : Int) (j : Int) tx root next F) false := by
          intro d
          induction d with
          | zero =>
            intro j seen hj hs2 h
            rw [List.drop_eq_nil_of_le (by omega)] at h
            cases h
          | succ d ih =>
            intro j seen hj hs2 h
            obtain ⟨K3, e3⟩ := slices_Contains_int_int_fev seen (rd (rd_T60 F (i : Int)).f1 (j : Int)) (by omega)
            dsimp only at e3
            rw [drop_rd _ j (by omega)] at h
            unfold seenL at h
            by_cases c : (seen.any fun x => decide (x = rd (rd_T60 F (i : Int)).f1 (j : Int))) = true
            · refine ev_succ ⟨K3, fun k hk => ?_⟩
              rw [impl_MetaOk.l1, if_pos (by omega), if_pos (by omega), if_pos (by omega), e3 k hk, Option.bind_some, if_pos c]
            · rw [if_neg c] at h
              obtain ⟨K4, e4⟩ := ih (j + 1) (seen ++ [rd (rd_T60 F (i : Int)).f1 (j : Int)]) (by omega) (by simp; omega) h
              dsimp only at e4
              refine ev_succ ⟨K3 + K4, fun k hk => ?_⟩
              rw [impl_MetaOk.l1, if_pos (by omega), if_pos (by omega), if_pos (by omega), e3 k (by omega), Option.bind_some, if_neg c, if_pos (by omega), w64 (by omega) (by omega)]
              exact e4 k (by omega)
        obtain ⟨K2, e2⟩ := inner (rd_T60 F (i : Int)).f1.length 0 (seenTo root F i) (by omega) (by omega) (by rw [List.drop_zero]; exact hp)
        dsimp only at e2
        refine ev_succ ⟨K1 + K2 + 1, fun k hk => ?_⟩
        obtain ⟨k, rfl⟩ : ∃ q, k = q + 1 := ⟨k - 1, by omega⟩
        have step : impl_MetaOk.j2 (k + 1) (seenTo root F i) F (F.length : Int) (i : Int) false tx root next F (rd_T60 F (i : Int)).f0 (rd_T60 F (i : Int)).f1 = some false := by
          rw [impl_MetaOk.j2, if_neg (by decide)]
          exact e2 k (by omega)
        rw [impl_MetaOk.l0, if_pos (by omega), if_pos (by omega), if_pos (by omega), e1 _ (by omega), Option.bind_some, c1, if_pos rfl]
        by_cases c : i = 0
        · rw [if_neg (by omega)]; exact step
        · rw [if_pos (by omega), w64 (by omega) (by omega), if_pos (by omega), if_pos (by omega), decide_eq_false (by omega)]; exact step
      · refine ev_succ ⟨K1 + 1, fun k hk => ?_⟩
        obtain ⟨k, rfl⟩ : ∃ q, k = q + 1 := ⟨k - 1, by omega⟩
        rw [impl_MetaOk.l0, if_pos (by omega), if_pos (by omega), if_pos (by omega), e1 _ (by omega), Option.bind_some, c1, if_pos rfl, if_pos (by omega), w64 (by omega) (by omega), if_pos (by omega), if_pos (by omega), decide_eq_true (by omega)]
        exact stop k
theorem impl_MetaOk_fev (tx root next : Int) (F : List S60) (hF : F.length ≤ 1048576) (hs : ∀ x ∈ F, x.f1.length ≤ 1048576) : Ev (fun k => impl_MetaOk.f k tx root next F) (metaOkR tx root next F) := by
  have stop : ∀ k, impl_MetaOk.j0 (k + 1) true tx root next F = some false := fun k => by rw [impl_MetaOk.j0, if_pos rfl]
  have main : Ev (fun k => impl_MetaOk.j0 k (decide ((F.length : Int) > 20)) tx root next F) (decide ((F.length : Int) ≤ 20) && (List.range' 0 F.length).all (freeAt tx root next F)) := by
    by_cases c : (F.length : Int) > 20
    · rw [decide_eq_true c, decide_eq_false (by omega), Bool.false_and]
      exact ev_end stop
    · rw [decide_eq_false c, decide_eq_true (by omega), Bool.true_and]
      refine ev_go (impl_MetaOk_loop tx root next F (by omega) hs) fun k => ?_
      rw [impl_MetaOk.j0, if_neg (by decide)]
  unfold metaOkR metaHeadOk
  by_cases c1 : 0 ≤ tx ∧ tx ≤ 100000
  · rw [decide_eq_true c1, Bool.true_and]
    by_cases c2 : 2 ≤ next ∧ next ≤ 40
    · rw [decide_eq_true c2, Bool.true_and]
      by_cases c3 : root = 0
      · rw [decide_eq_true c3, Bool.true_or, Bool.true_and]
        refine Ev.congr (fun k => ?_) main
        unfold impl_MetaOk.f
        rw [impl_in_eq, Option.bind_some, decide_eq_true c1, if_pos rfl, impl_in_eq, Option.bind_some, decide_eq_true c2, if_pos rfl, if_pos c3]
      · rw [decide_eq_false c3, Bool.false_or]
        by_cases c4 : 2 ≤ root ∧ root ≤ next - 1
        · rw [decide_eq_true c4, Bool.true_and]
          refine Ev.congr (fun k => ?_) main
          unfold impl_MetaOk.f
          rw [impl_in_eq, Option.bind_some, decide_eq_true c1, if_pos rfl, impl_in_eq, Option.bind_some, decide_eq_true c2, if_pos rfl, if_neg c3, impl_in_eq, Option.bind_some, w64 (by omega) (by omega), decide_eq_true c4, if_pos rfl]
        · rw [decide_eq_false c4, Bool.false_and, Bool.false_and]
          refine ev_end fun k => ?_
          unfold impl_MetaOk.f
          rw [impl_in_eq, Option.bind_some, decide_eq_true c1, if_pos rfl, impl_in_eq, Option.bind_some, decide_eq_true c2, if_pos rfl, if_neg c3, impl_in_eq, Option.bind_some, w64 (by omega) (by omega), decide_eq_false c4, if_neg (by decide), stop]
    · rw [decide_eq_false c2, Bool.false_and, Bool.false_and, Bool.false_and]
      refine ev_end fun k => ?_
      unfold impl_MetaOk.f
      rw [impl_in_eq, Option.bind_some, decide_eq_true c1, if_pos rfl, impl_in_eq, Option.bind_some, decide_eq_false c2, if_neg (by decide), stop]
  · rw [decide_eq_false c1, Bool.false_and, Bool.false_and, Bool.false_and, Bool.false_and]
    refine ev_end fun k => ?_
    unfold impl_MetaOk.f
    rw [impl_in_eq, Option.bind_some, decide_eq_false c1, if_neg (by decide), stop]
theorem impl_varText_ev : ∀ (n : Nat) (acc : List Int), n ≤ 9223372036854775807 → acc.length + n ≤ 140737488355327 → Ev (fun k => impl_varText.l0 k (n : Int) acc) (strOfNums (acc ++ varL n)) := by
  intro n
  induction n using Nat.strongRecOn with
  | ind n ih =>
    intro acc hn hl
    by_cases h : n > 127
    · refine ev_go (f := fun k => impl_varText.l0 k ((n / 128 : Nat) : Int) (acc ++ [(n : Int) % 128 + 128])) ?_ ?_
      · have := ih (n / 128) (by omega) (acc ++ [(n : Int) % 128 + 128]) (by omega) (by rw [List.length_append, List.length_singleton]; omega)
        rw [List.append_assoc, List.singleton_append, ← varL_big h] at this
        exact this
      · intro k
        have e1 : (n : Int) / 128 = ((n / 128 : Nat) : Int) := by omega
        have e2 : (Go.bits .or .i64 (Go.bits .and .i64 (n : Int) 127) 128) % 256 = (n : Int) % 128 + 128 := by rw [i64_and127 _ (by omega) (by omega), i64_or128 _ (by omega) (by omega)]; omega
        rw [impl_varText.l0, if_pos (by omega), if_pos (by omega), e1, e2]
    · refine ev_end fun k => ?_
      rw [impl_varText.l0, if_neg (by omega), if_pos (by omega), varL_small h]
      rw [show (n : Int) % 256 = (n : Int) by omega]
theorem impl_varText_fev (n : Int) (h0 : 0 ≤ n) (h : n ≤ 140737488355327) : Ev (fun k => impl_varText.f k n) (varB n.toNat) := by
  have := impl_varText_ev n.toNat [] (by omega) (by simp; omega)
  rw [Int.toNat_of_nonneg h0, List.nil_append] at this
  exact this
theorem impl_MetaText_inner (F : List S60) (n i : Int) (P : List Int) (hP : P.length ≤ 40) (hp : ∀ p ∈ P, 0 ≤ p ∧ p ≤ 1000000000) (r : ByteArray × Bool) : ∀ (d j : Nat) (acc : ByteArray), j + d = P.length → acc.size + 10 * d ≤ 1000000000 → Ev (fun k => impl_MetaText.l0 k (acc ++ pagesB (P.drop j)) F n (wrap64 (i + 1))) r → Ev (fun k => impl_MetaText.l1 k acc F n i P (P.length : Int) (j : Int)) r := by
  intro d
  induction d with
  | zero =>
    intro j acc hj ha rest
    rw [List.drop_eq_nil_of_le (by omega)] at rest
    have e : acc ++ pagesB [] = acc := ByteArray.append_empty
    rw [e] at rest
    refine ev_go rest fun k => ?_
    rw [impl_MetaText.l1, if_neg (by omega)]
  | succ d ih =>
    intro j acc hj ha rest
    have hm := hp _ (rd_mem P j (by omega))
    have hz := varB_size_int (rd P (j : Int)) hm.2
    obtain ⟨K1, e1⟩ := impl_varText_fev (rd P (j : Int)) hm.1 (by omega)
    rw [drop_rd P j (by omega), pagesB, ← ByteArray.append_assoc] at rest
    obtain ⟨K2, e2⟩ := ih (j + 1) (acc ++ varB (rd P (j : Int)).toNat) (by omega) (by rw [ByteArray.size_append]; omega) rest
    dsimp only at e1 e2
    refine ev_succ ⟨K1 + K2, fun k hk => ?_⟩
    rw [impl_MetaText.l1, if_pos (by omega), if_pos (by omega), if_pos (by omega), e1 k (by omega), Option.bind_some, if_pos (by omega), w64 (by omega) (by omega)]
    exact e2 k (by omega)
theorem impl_MetaText_loop (F : List S60) (hF : F.length ≤ 1000) (hf : FreeFits F) : ∀ (d i : Nat) (acc : ByteArray), i + d = F.length → acc.size + 420 * d ≤ 1000000 → Ev (fun k => impl_MetaText.l0 k acc F (F.length : Int) (i : Int)) (metaFin (acc ++ freesB (F.drop i))) := by
  intro d
  induction d with
  | zero =>
    intro i acc hi ha
    rw [List.drop_eq_nil_of_le (by omega)]
    have e : acc ++ freesB ([] : List S60) = acc := ByteArray.append_empty
    rw [e]
    obtain ⟨K1, e1⟩ := impl_seal_fev acc (by omega)
    dsimp only at e1
    have hz := sealB_size acc
    refine ev_succ ⟨K1, fun k hk => ?_⟩
    rw [impl_MetaText.l0, if_neg (by omega), e1 k hk, Option.bind_some, if_pos (by omega)]
    unfold metaFin
    by_cases c : (acc.size : Int) + 4 > 240
    · rw [if_pos (by rw [ByteArray.size_append]; omega), if_pos c]
    · rw [if_neg (by rw [ByteArray.size_append]; omega), if_neg c]
  | succ d ih =>
    intro i acc hi ha
    obtain ⟨q1, q2, q3, q4⟩ : 0 ≤ (rd_T60 F (i : Int)).f0 ∧ (rd_T60 F (i : Int)).f0 ≤ 1000000000 ∧ (rd_T60 F (i : Int)).f1.length ≤ 40 ∧ ∀ p ∈ (rd_T60 F (i : Int)).f1, 0 ≤ p ∧ p ≤ 1000000000 := hf _ (rdOf_mem z60 F i (by omega))
    have z1 := varB_size_int _ q2
    have z2 := varB_size_le (rd_T60 F (i : Int)).f1.length (by omega)
    have z3 := pagesB_size _ (fun p hp => (q4 p hp).2)
    obtain ⟨K1, e1⟩ := impl_varText_fev (rd_T60 F (i : Int)).f0 q1 (by omega)
    obtain ⟨K2, e2⟩ := impl_varText_fev ((rd_T60 F (i : Int)).f1.length : Int) (by omega) (by omega)
    rw [Int.toNat_natCast] at e2
    have hr := ih (i + 1) (acc ++ freeB (rd_T60 F (i : Int))) (by omega) (by unfold freeB; rw [ByteArray.size_append, ByteArray.size_append, ByteArray.size_append]; omega)
    have hd : F.drop i = rd_T60 F (i : Int) :: F.drop (i + 1) := drop_rdOf z60 F i (by omega)
    rw [hd, freesB, ← ByteArray.append_assoc]
    obtain ⟨K3, e3⟩ := impl_MetaText_inner F (F.length : Int) (i : Int) (rd_T60 F (i : Int)).f1 q3 q4 _ (rd_T60 F (i : Int)).f1.length 0 (acc ++ (varB (rd_T60 F (i : Int)).f0.toNat ++ varB (rd_T60 F (i : Int)).f1.length)) (by omega) (by rw [ByteArray.size_append, ByteArray.size_append]; omega) (by
      rw [List.drop_zero, ByteArray.append_assoc, w64 (by omega) (by omega)]
      exact hr)
    dsimp only at e1 e2 e3
    refine ev_succ ⟨K1 + K2 + K3, fun k hk => ?_⟩
    rw [impl_MetaText.l0, if_pos (by omega), if_pos (by omega), if_pos (by omega), e1 k (by omega), Option.bind_some, e2 k (by omega), Option.bind_some, if_pos (by omega), if_pos (by rw [ByteArray.size_append]; omega)]
    exact e3 k (by omega)
theorem impl_MetaText_fev (tx root next : Int) (F : List S60) (hF : F.length ≤ 1048576) (hs : ∀ x ∈ F, x.f1.length ≤ 1048576) : Ev (fun k => impl_MetaText.f k tx root next F) (metaTextR tx root next F) := by
  obtain ⟨K1, e1⟩ := impl_MetaOk_fev tx root next F hF hs
  dsimp only at e1
  unfold metaTextR
  cases h : metaOkR tx root next F with
  | false =>
    refine ⟨K1, fun k hk => ?_⟩
    dsimp only
    unfold impl_MetaText.f
    rw [e1 k hk, Option.bind_some, h, if_neg (by decide), if_neg (by decide)]
  | true =>
    obtain ⟨h1, h2, h3, h4, h5, h6, h7⟩ := metaOkR_tells h
    have a1 := varB_size_int tx (by omega)
    have a2 := varB_size_int root (by omega)
    have a3 := varB_size_int next (by omega)
    have a4 := varB_size_le F.length (by omega)
    obtain ⟨K2, e2⟩ := impl_varText_fev tx h1 (by omega)
    obtain ⟨K3, e3⟩ := impl_varText_fev root (by omega) (by omega)
    obtain ⟨K4, e4⟩ := impl_varText_fev next (by omega) (by omega)
    obtain ⟨K5, e5⟩ := impl_varText_fev (F.length : Int) (by omega) (by omega)
    rw [Int.toNat_natCast] at e5
    obtain ⟨K6, e6⟩ := impl_MetaText_loop F (by omega) (metaOkR_fits h) F.length 0 (((varB tx.toNat ++ varB root.toNat) ++ varB next.toNat) ++ varB F.length) (by omega) (by rw [ByteArray.size_append, ByteArray.size_append, ByteArray.size_append]; omega)
    dsimp only at e2 e3 e4 e5 e6
    refine ⟨K1 + K2 + K3 + K4 + K5 + K6, fun k hk => ?_⟩
    dsimp only
    unfold impl_MetaText.f
    rw [e1 k (by omega), Option.bind_some, h, if_pos rfl, if_pos rfl, e2 k (by omega), Option.bind_some, e3 k (by omega), Option.bind_some, if_pos (by omega), e4 k (by omega), Option.bind_some, if_pos (by rw [ByteArray.size_append]; omega), e5 k (by omega), Option.bind_some, if_pos (by rw [ByteArray.size_append, ByteArray.size_append]; omega)]
    exact e6 k (by omega)
/-- As metaBack, where the end of the text is asked for, too. -/
def rmEnd (t s : ByteArray) (p : Int × Int × Int × Int × Bool × List S60) : Int × Int × Int × List S60 × Bool :=
  if p.2.2.2.2.1 = false ∧ p.2.2.2.1 = (s.size : Int) ∧ metaTextR p.1 p.2.1 p.2.2.1 p.2.2.2.2.2 = (t, true) then (p.1, p.2.1, p.2.2.1, p.2.2.2.2.2, true) else (0, 0, 0, [], false)
theorem impl_ReadMeta_end (t s : ByteArray) (tx root next n i a : Int) (hi : ¬ i < n) (bad : Bool) (F : List S60) (hF : F.length ≤ 1048576) (hP : ∀ x ∈ F, x.f1.length ≤ 1048576) : Ev (fun k => impl_ReadMeta.l0 k t s n i s a bad tx root next F) (rmEnd t s (tx, root, next, a, bad, F)) := by
  obtain ⟨K1, e1⟩ := impl_MetaText_fev tx root next F hF hP
  dsimp only at e1
  unfold rmEnd
  dsimp only
  refine ev_succ ⟨K1, fun k hk => ?_⟩
  rw [impl_ReadMeta.l0, if_neg hi, e1 k hk, Option.bind_some]
  cases bad with
  | true => rw [if_pos rfl, if_neg (by simp)]
  | false =>
    rw [if_neg (by decide)]
    by_cases ca : a = (s.size : Int)
    · rw [if_pos ca]
      rcases hn : metaTextR tx root next F with ⟨x, o⟩
      dsimp only
      cases o with
      | false => rw [if_neg (by decide), if_neg (by simp)]
      | true =>
        rw [if_pos rfl]
        by_cases c : x = t
        · rw [if_pos (by rw [c]), if_pos ⟨rfl, ca, by rw [c]⟩]
        · rw [if_neg (fun h => c (toList_inj h)), if_neg (fun h => c (by simpa using h.2.2))]
    · rw [if_neg ca, if_neg (fun h => ca h.2.1)]
theorem impl_ReadMeta_inner (t s : ByteArray) (hs : s.size ≤ 140737488351232) (tx root next n cnt ftx : Int) (hc : cnt ≤ 40) (i : Nat) (hi : i ≤ 1048576) (F : List S60) (hF : F.length ≤ 1048576) (R : Int → Bool → List Int → Int × Int × Int × List S60 × Bool)
    (rest : ∀ (a : Int) (bad : Bool) (P : List Int), P.length ≤ 40 → Ev (fun k => impl_ReadMeta.l0 k t s n ((i + 1 : Nat) : Int) s a bad tx root next (F ++ [(⟨ftx, P⟩ : S60)])) (R a bad P)) :
    ∀ (d j : Nat) (P : List Int) (a : Int) (bad : Bool), j + d = cnt.toNat → P.length ≤ j → Ev (fun k => impl_ReadMeta.l1 k t s n (i : Int) cnt (j : Int) s a bad tx root next F ftx P) (R (pgP s false d a bad P).1 (pgP s false d a bad P).2.1 (pgP s false d a bad P).2.2) := by
  have hw : wrap64 ((i : Int) + 1) = ((i + 1 : Nat) : Int) := by rw [w64 (by omega) (by omega)]; rfl
  intro d
  induction d with
  | zero =>
    intro j P a bad hj hP
    refine ev_go (rest a bad P (by omega)) fun k => ?_
    rw [impl_ReadMeta.l1, if_neg (by omega), if_pos (by omega), hw]
  | succ d ih =>
    intro j P a bad hj hP
    unfold pgP
    rw [if_neg (by simp)]
    obtain ⟨K1, e1⟩ := impl_reader_num_fev s hs a bad 1000000000
    obtain ⟨K2, e2⟩ := ih (j + 1) (P ++ [(numR s 1000000000 a bad).1]) (numR s 1000000000 a bad).2.1 (numR s 1000000000 a bad).2.2 (by omega) (by simp; omega)
    dsimp only at e1 e2
    refine ev_succ ⟨K1 + K2, fun k hk => ?_⟩
    rw [impl_ReadMeta.l1, if_pos (by omega), e1 k (by omega), Option.bind_some, if_pos (by omega), w64 (n := (j : Int) + 1) (by omega) (by omega)]
    exact e2 k (by omega)
theorem impl_ReadMeta_loop (t s : ByteArray) (hs : s.size ≤ 140737488351232) (tx root next n : Int) (hn : n ≤ 20) : ∀ (d i : Nat) (F : List S60) (a : Int) (bad : Bool), i + d = n.toNat → F.length ≤ i → (∀ x ∈ F, x.f1.length ≤ 40) →
    Ev (fun k => impl_ReadMeta.l0 k t s n (i : Int) s a bad tx root next F) (rmEnd t s (tx, root, next, (frP s false 40 40 d a bad F).1, (frP s false 40 40 d a bad F).2.1, (frP s false 40 40 d a bad F).2.2)) := by
  intro d
  induction d with
  | zero =>
    intro i F a bad hi hF hP
    exact impl_ReadMeta_end t s tx root next n (i : Int) a (by omega) bad F (by omega) (fun x hx => by have := hP x hx; omega)
  | succ d ih =>
    intro i F a bad hi hF hP
    unfold frP
    rw [if_neg (by simp)]
    dsimp only
    obtain ⟨K1, e1⟩ := impl_reader_num_fev s hs a bad 1000000000
    dsimp only at e1
    rcases hx : numR s 1000000000 a bad with ⟨x, xa, xb⟩
    rw [hx] at e1
    obtain ⟨K2, e2⟩ := impl_reader_num_fev s hs xa xb 40
    have hyr := numR_range s 40 xa xb (by omega)
    dsimp only at e1 e2 ⊢
    rcases hy : numR s 40 xa xb with ⟨y, ya, yb⟩
    rw [hy] at e2 hyr
    dsimp only at e2 hyr ⊢
    obtain ⟨K3, e3⟩ := impl_ReadMeta_inner t s hs tx root next n y x (by omega) i (by omega) F (by omega)
      (fun a' bad' P => rmEnd t s (tx, root, next, (frP s false 40 40 d a' bad' (F ++ [⟨x, P⟩])).1, (frP s false 40 40 d a' bad' (F ++ [⟨x, P⟩])).2.1, (frP s false 40 40 d a' bad' (F ++ [⟨x, P⟩])).2.2))
      (fun a' bad' P hPl => by
        have hi' := ih (i + 1) (F ++ [⟨x, P⟩]) a' bad' (by omega) (by rw [List.length_append, List.length_singleton]; omega) (fun z hz => by
          rcases List.mem_append.1 hz with h | h
          · exact hP z h
          · rw [List.mem_singleton.1 h]; exact hPl)
        exact hi')
      y.toNat 0 [] ya yb (Nat.zero_add _) (Nat.le_refl _)
    dsimp only at e3
    rw [show min y.toNat 40 = y.toNat by omega]
    refine ev_succ ⟨K1 + K2 + K3, fun k hk => ?_⟩
    rw [impl_ReadMeta.l0, if_pos (by omega), e1 k (by omega), Option.bind_some]
    dsimp only
    rw [e2 k (by omega), Option.bind_some]
    exact e3 k (by omega)
theorem rmEnd_back (t : ByteArray) : rmEnd t (unsealedR t).1 (metaP (unsealedR t).1 false (!(unsealedR t).2) 20 20 40 40) = readMetaR t := by
  have hb := metaBack_same t false true 20 1000000000 40 1000000000 20 30 40 50 (by omega) (by omega) (by omega) (by omega) (by omega) (by omega) (by omega) (by omega)
  unfold readMetaR
  rw [← hb]
  rcases hp : metaP (unsealedR t).1 false (!(unsealedR t).2) 20 20 40 40 with ⟨a1, a2, a3, a4, a5, a6⟩
  unfold rmEnd metaBack
  dsimp only
  by_cases c : metaTextR a1 a2 a3 a6 = (t, true)
  · have e := metaP_back c false 20 20 40 40 (by omega) (by omega) (by omega) (by omega)
    rw [hp] at e
    simp only [Prod.mk.injEq] at e
    obtain ⟨_, _, _, e4, e5, _⟩ := e
    rw [if_pos ⟨e5, e4, c⟩, if_pos ⟨e5, c⟩]
  · rw [if_neg (fun h => c h.2.2), if_neg (fun h => c h.2)]
theorem impl_ReadMeta_fev (t : ByteArray) (ht : t.size ≤ 140737488351232) : Ev (fun k => impl_ReadMeta.f k t) (readMetaR t) := by
  have hz : (unsealedR t).1.size ≤ 140737488351232 := by
    rcases hu : unsealedR t with ⟨s, ok⟩
    cases ok with
    | true => have := (unsealedR_tells hu).2.1; dsimp only; omega
    | false => rw [unsealedR_no hu]; decide
  obtain ⟨K1, e1⟩ := impl_Unsealed_fev t ht
  obtain ⟨K2, e2⟩ := impl_reader_num_fev (unsealedR t).1 hz 0 (!(unsealedR t).2) 1000000000
  rw [← rmEnd_back t]
  unfold metaP
  dsimp only
  revert e1 e2 hz
  rcases unsealedR t with ⟨s, ok⟩
  dsimp only
  intro hz e1 e2
  rcases hx : numR s 1000000000 0 (!ok) with ⟨x, xa, xb⟩
  obtain ⟨K3, e3⟩ := impl_reader_num_fev s hz xa xb 1000000000
  rcases hy : numR s 1000000000 xa xb with ⟨y, ya, yb⟩
  obtain ⟨K4, e4⟩ := impl_reader_num_fev s hz ya yb 1000000000
  rcases hw : numR s 1000000000 ya yb with ⟨z, za, zb⟩
  obtain ⟨K5, e5⟩ := impl_reader_num_fev s hz za zb 20
  have hr := numR_range s 20 za zb (by omega)
  rcases hn : numR s 20 za zb with ⟨n, na, nb⟩
  rw [hx] at e2
  rw [hy] at e3
  rw [hw] at e4
  rw [hn] at e5 hr
  dsimp only at hr
  obtain ⟨K6, e6⟩ := impl_ReadMeta_loop t s hz x y z n (by omega) n.toNat 0 [] na nb (Nat.zero_add _) (Nat.le_refl _) (fun _ h => by cases h)
  dsimp only at e2 e3 e4 e5 e6 ⊢
  rw [show min n.toNat 20 = n.toNat by omega]
  refine ⟨K1 + K2 + K3 + K4 + K5 + K6, fun k hk => ?_⟩
  dsimp only
  unfold impl_ReadMeta.f
  rw [e1 k (by omega), Option.bind_some]
  dsimp only
  rw [e2 k (by omega), Option.bind_some]
  dsimp only
  rw [e3 k (by omega), Option.bind_some]
  dsimp only
  rw [e4 k (by omega), Option.bind_some]
  dsimp only
  rw [e5 k (by omega), Option.bind_some]
  exact e6 k (by omega)
theorem impl_isPage_eq (P : List ByteArray) (L : List S83) (page : Int) (hp : P.length ≤ 1048577) : impl_isPage.f P L page = some (decide (0 ≤ page ∧ page < (P.length : Int))) := by
  unfold impl_isPage.f
  rw [impl_in_eq, Option.bind_some, w64 (by omega) (by omega)]
  congr 1
  apply decide_eq_decide.2
  omega
theorem impl_ReadPage_loop (pages : List ByteArray) (late : List S83) (page : Int) (hp : 0 ≤ page ∧ page < (pages.length : Int)) (hl : late.length ≤ 1048576) : ∀ n : Nat, n ≤ late.length → Ev (fun k => impl_ReadPage.l0 k page ((n : Int) - 1) pages late) (rpL page (rdOf ByteArray.empty pages page) late n) := by
  intro n
  induction n with
  | zero =>
    intro hn
    refine ev_end fun k => ?_
    rw [impl_ReadPage.l0, if_neg (by omega), if_pos hp.1, if_pos hp.2]
    rfl
  | succ n ih =>
    intro hn
    unfold rpL
    rw [show (((n + 1 : Nat) : Int) - 1) = (n : Int) by omega]
    by_cases c : (rd_T83 late (n : Int)).f0 = page
    · rw [if_pos c]
      refine ev_end fun k => ?_
      rw [impl_ReadPage.l0, if_pos (by omega), if_pos (by omega), if_pos (by omega), if_pos c]
    · rw [if_neg c]
      refine ev_go (ih (by omega)) fun k => ?_
      rw [impl_ReadPage.l0, if_pos (by omega), if_pos (by omega), if_pos (by omega), if_neg c, w64 (by omega) (by omega)]
theorem impl_ReadPage_fev (pages : List ByteArray) (late : List S83) (page : Int) (hpg : pages.length ≤ 1048576) (hl : late.length ≤ 1048576) : Ev (fun k => impl_ReadPage.f k pages late page) (rpR pages late page) := by
  unfold rpR
  have e1 : wrap64 ((pages.length : Int) - 1) = (pages.length : Int) - 1 := w64 (by omega) (by omega)
  have e2 : wrap64 ((late.length : Int) - 1) = (late.length : Int) - 1 := w64 (by omega) (by omega)
  by_cases c : 0 ≤ page ∧ page < (pages.length : Int)
  · rw [if_pos c]
    refine Ev.congr (fun k => ?_) (impl_ReadPage_loop pages late page c hl late.length (Nat.le_refl _))
    unfold impl_ReadPage.f impl_isPage.f impl_in.f
    rw [e1, e2, if_pos (by omega), Option.bind_some, Option.bind_some, decide_eq_true (by omega), if_pos rfl]
  · rw [if_neg c]
    refine ev_some fun k => ?_
    unfold impl_ReadPage.f impl_isPage.f impl_in.f
    rw [e1]
    by_cases c1 : page ≥ 0
    · rw [if_pos c1, Option.bind_some, Option.bind_some, decide_eq_false (by omega), if_neg (by decide)]
    · rw [if_neg c1, Option.bind_some, Option.bind_some, if_neg (by decide)]
theorem impl_BestMeta_fev (P : List ByteArray) (L : List S83) (hp : P.length ≤ 1048576) (hl : L.length ≤ 1048576) (hP : ∀ x ∈ P, x.size ≤ 1048576) (hL : ∀ x ∈ L, x.f1.size ≤ 1048576) : Ev (fun k => impl_BestMeta.f k P L) (bestR P L) := by
  obtain ⟨K1, e1⟩ := impl_ReadPage_fev P L 0 hp hl
  obtain ⟨K2, e2⟩ := impl_ReadMeta_fev (rpR P L 0) (Nat.le_trans (rpR_size _ P L 0 hP hL) (by omega))
  obtain ⟨K3, e3⟩ := impl_ReadPage_fev P L 1 hp hl
  obtain ⟨K4, e4⟩ := impl_ReadMeta_fev (rpR P L 1) (Nat.le_trans (rpR_size _ P L 1 hP hL) (by omega))
  dsimp only at e1 e2 e3 e4
  refine ⟨K1 + K2 + K3 + K4, fun k hk => ?_⟩
  dsimp only
  unfold impl_BestMeta.f
  rw [e1 k (by omega), Option.bind_some, e2 k (by omega), Option.bind_some, e3 k (by omega), Option.bind_some, e4 k (by omega), Option.bind_some]
  rfl
theorem spec_l01Byte_draws (b : List Int) (hb : b.length ≤ 140737488351232) (i h : Int) (hi : 0 ≤ i) : ∃ x i' h' : Int, spec_l01Byte.f b i h = some (x, i', h') ∧ 0 ≤ x ∧ x ≤ 255 ∧ 0 ≤ i' := by
  unfold spec_l01Byte.f
  by_cases c : i < (b.length : Int)
  · rw [if_pos c, if_pos hi, w64 (n := i + 1) (by omega) (by omega)]
    have hr := fun y => i64_and_range y 255 (by omega) (by omega)
    exact ⟨_, _, _, rfl, (hr _).1, (hr _).2, by omega⟩
  · rw [if_neg c]
    have hr := fun y => i64_and_range y 255 (by omega) (by omega)
    exact ⟨_, _, _, rfl, (hr _).1, (hr _).2, hi⟩
theorem spec_l01Below_draws (b : List Int) (hb : b.length ≤ 140737488351232) (i h n : Int) (hi : 0 ≤ i) : ∃ x i' h' : Int, spec_l01Below.f b i h n = some (x, i', h') ∧ (0 < n → 0 ≤ x ∧ x < n) ∧ 0 ≤ i' ∧ 0 ≤ x ∧ (n ≤ 0 → x = 0) := by
  unfold spec_l01Below.f
  by_cases c : n ≤ 0
  · rw [if_pos c]
    exact ⟨0, i, h, rfl, fun hn => by omega, hi, by omega, fun _ => rfl⟩
  · rw [if_neg c]
    obtain ⟨x1, i1, h1, e1, l1, u1, p1⟩ := spec_l01Byte_draws b hb i h hi
    by_cases c2 : n ≤ 256
    · rw [if_pos c2, e1, Option.bind_some, if_neg (by omega)]
      have ht : Int.tmod x1 n = x1 % n := Int.tmod_eq_emod_of_nonneg l1
      have g1 := Int.emod_nonneg x1 (by omega : n ≠ 0)
      have g2 := Int.emod_lt_of_pos x1 (by omega : 0 < n)
      exact ⟨_, _, _, rfl, fun _ => by simp only; rw [ht]; exact ⟨g1, g2⟩, p1, by simp only; rw [ht]; exact g1, fun h => absurd h c⟩
    · rw [if_neg c2, e1, Option.bind_some]
      obtain ⟨x2, i2, h2, e2, l2, u2, p2⟩ := spec_l01Byte_draws b hb i1 h1 p1
      obtain ⟨x3, i3, h3, e3, l3, u3, p3⟩ := spec_l01Byte_draws b hb i2 h2 p2
      obtain ⟨x4, i4, h4, e4, l4, u4, p4⟩ := spec_l01Byte_draws b hb i3 h3 p3
      rw [e2, Option.bind_some, e3, Option.bind_some, e4, Option.bind_some, if_neg (by omega)]
      simp only
      rw [w64 (n := x1 * 16777216) (by omega) (by omega), w64 (n := x2 * 65536) (by omega) (by omega), w64 (n := x1 * 16777216 + _) (by omega) (by omega), w64 (n := x3 * 256) (by omega) (by omega), w64 (n := x1 * 16777216 + x2 * 65536 + _) (by omega) (by omega), w64 (by omega) (by omega)]
      have ht : Int.tmod (x1 * 16777216 + x2 * 65536 + x3 * 256 + x4) n = (x1 * 16777216 + x2 * 65536 + x3 * 256 + x4) % n := Int.tmod_eq_emod_of_nonneg (by omega)
      have g1 := Int.emod_nonneg (x1 * 16777216 + x2 * 65536 + x3 * 256 + x4) (by omega : n ≠ 0)
      have g2 := Int.emod_lt_of_pos (x1 * 16777216 + x2 * 65536 + x3 * 256 + x4) (by omega : 0 < n)
      exact ⟨_, _, _, rfl, fun _ => by rw [ht]; exact ⟨g1, g2⟩, p4, by rw [ht]; exact g1, fun h => absurd h c⟩
theorem spec_l01PickInt_draws (b : List Int) (hb : b.length ≤ 140737488351232) (i h : Int) (hi : 0 ≤ i) (l : List Int) (hl : 0 < l.length) : ∃ (x i' h' : Int), spec_l01PickInt.f b i h l = some (x, i', h') ∧ x ∈ l ∧ 0 ≤ i' := by
  obtain ⟨x, i', h', e, r, p, _⟩ := spec_l01Below_draws b hb i h (l.length : Int) hi
  have r' := r (by omega)
  unfold spec_l01PickInt.f
  rw [e, Option.bind_some, if_pos r'.1, if_pos r'.2]
  obtain ⟨m, rfl⟩ := Int.eq_ofNat_of_zero_le r'.1
  exact ⟨_, _, _, rfl, rd_mem l m (by have := r'.2; omega), p⟩
/-- Pages in a row. -/
def runP (s : Int) : Nat → List Int
  | 0 => []
  | n + 1 => s :: runP (s + 1) n
theorem runP_length (n : Nat) : ∀ s, (runP s n).length = n := by
  induction n with
  | zero => intro s; rfl
  | succ n ih => intro s; show (runP (s + 1) n).length + 1 = n + 1; rw [ih]
theorem runP_snoc (n : Nat) : ∀ s : Int, runP s n ++ [s + n] = runP s (n + 1) := by
  induction n with
  | zero => intro s; show [s + ((0 : Nat) : Int)] = [s]; rw [show s + ((0 : Nat) : Int) = s by omega]
  | succ n ih =>
    intro s
    show s :: (runP (s + 1) n ++ [s + ((n + 1 : Nat) : Int)]) = s :: runP (s + 1) (n + 1)
    rw [← ih (s + 1), show s + ((n + 1 : Nat) : Int) = s + 1 + (n : Int) by omega]
/-- What a drawn meta frees: some pages (two at most) at 1, some at 2. -/
def oneF (t s : Int) (n : Nat) : List S60 := if n = 0 then [] else [⟨t, runP s n⟩]
def drawnF (a b : Nat) : List S60 := oneF 1 4 a ++ oneF 2 (4 + a) b
theorem oneF_le (t s : Int) (n : Nat) : (oneF t s n).length ≤ 1 := by
  unfold oneF; split <;> simp
theorem spec_l06Meta_inner (b : List Int) (hb : b.length ≤ 140737488351232) (m0 m1 m2 : Int) (F : List S60) (hF : F.length ≤ 1) (t s : Int) (ht : 0 ≤ t ∧ t ≤ 2) (hs : 0 ≤ s ∧ s ≤ 10) : ∀ (d n : Nat) (i h : Int), n + d = 2 → 0 ≤ i → ∃ (n' : Nat) (i' h' : Int), n' ≤ 2 ∧ 0 ≤ i' ∧ ∀ r, Ev (fun k => spec_l06Meta.l0 k (s + n') (t + 1) b i' h' m0 m1 m2 (F ++ oneF t s n')) r → Ev (fun k => spec_l06Meta.l1 k (s + n) t (n : Int) b i h m0 m1 m2 F t (runP s n)) r := by
  intro d
  have done : ∀ (n : Nat) (i h : Int), n ≤ 2 → 0 ≤ i → ∀ x i' h', spec_l01Below.f b i h 3 = some (x, i', h') → ¬ (n : Int) < x → ∀ r, Ev (fun k => spec_l06Meta.l0 k (s + n) (t + 1) b i' h' m0 m1 m2 (F ++ oneF t s n)) r → Ev (fun k => spec_l06Meta.l1 k (s + n) t (n : Int) b i h m0 m1 m2 F t (runP s n)) r := by
    intro n i h hn hi x i' h' e c r hr
    refine ev_go hr fun k => ?_
    rw [spec_l06Meta.l1, e, Option.bind_some, if_neg c, runP_length]
    by_cases c2 : (n : Int) > 0
    · rw [if_pos c2, if_pos (by omega), w64 (by omega) (by omega)]
      unfold oneF
      rw [if_neg (by omega)]
    · rw [if_neg c2, w64 (by omega) (by omega)]
      unfold oneF
      rw [if_pos (by omega), List.append_nil]
  induction d with
  | zero =>
    intro n i h hn hi
    obtain ⟨x, i', h', e, hx, p, _⟩ := spec_l01Below_draws b hb i h 3 hi
    have hx := hx (by omega)
    exact ⟨n, i', h', by omega, p, fun r hr => done n i h (by omega) hi x i' h' e (by omega) r hr⟩
  | succ d ih =>
    intro n i h hn hi
    obtain ⟨x, i', h', e, hx, p, _⟩ := spec_l01Below_draws b hb i h 3 hi
    by_cases c : (n : Int) < x
    · obtain ⟨n', i2, h2, q1, q2, q3⟩ := ih (n + 1) i' h' (by omega) p
      refine ⟨n', i2, h2, q1, q2, fun r hr => ev_go (q3 r hr) fun k => ?_⟩
      rw [spec_l06Meta.l1, e, Option.bind_some, if_pos c, if_pos (by rw [runP_length]; omega), w64 (by omega) (by omega), w64 (by omega) (by omega), runP_snoc]
      show spec_l06Meta.l1 k (s + n + 1) t ((n : Int) + 1) b i' h' m0 m1 m2 F t (runP s (n + 1)) = spec_l06Meta.l1 k (s + ((n + 1 : Nat) : Int)) t ((n + 1 : Nat) : Int) b i' h' m0 m1 m2 F t (runP s (n + 1))
      rw [show s + (n : Int) + 1 = s + ((n + 1 : Nat) : Int) by omega, show (n : Int) + 1 = ((n + 1 : Nat) : Int) by omega]
    · exact ⟨n, i', h', by omega, p, fun r hr => done n i h (by omega) hi x i' h' e c r hr⟩
/-- A drawn meta. -/
structure MetaDrawn (tx root next : Int) (F : List S60) : Prop where
  tx_ : 3 ≤ tx ∧ tx ≤ 7
  root_ : root = 0 ∨ root = 2 ∨ root = 3
  next_ : 8 ≤ next ∧ next ≤ 27
  free_ : ∃ a b : Nat, a ≤ 2 ∧ b ≤ 2 ∧ F = drawnF a b
theorem spec_l06Meta_draws (b : List Int) (hb : b.length ≤ 140737488351232) (i h : Int) (hi : 0 ≤ i) : ∃ (tx root next : Int) (F : List S60) (i' h' : Int), Ev (fun k => spec_l06Meta.f k b i h) (tx, root, next, F, i', h') ∧ MetaDrawn tx root next F ∧ 0 ≤ i' := by
  obtain ⟨x1, i1, h1, e1, r1, p1, _⟩ := spec_l01Below_draws b hb i h 5 hi
  obtain ⟨x2, i2, h2, e2, r2, p2, _⟩ := spec_l01Below_draws b hb i1 h1 20 p1
  obtain ⟨x3, i3, h3, e3, m3, p3⟩ := spec_l01PickInt_draws b hb i2 h2 p2 ([0, 2, 3] : List Int) (by simp)
  have r1 := r1 (by omega)
  have r2 := r2 (by omega)
  obtain ⟨n1, i4, h4, q1, p4, g1⟩ := spec_l06Meta_inner b hb (3 + x1) x3 (8 + x2) [] (by simp) 1 4 (by omega) (by omega) 2 0 i3 h3 (by omega) p3
  obtain ⟨n2, i5, h5, q2, p5, g2⟩ := spec_l06Meta_inner b hb (3 + x1) x3 (8 + x2) ([] ++ oneF 1 4 n1) (by rw [List.nil_append]; exact oneF_le _ _ _) 2 (4 + n1) (by omega) (by omega) 2 0 i4 h4 (by omega) p4
  have z0 : Ev (fun k => spec_l06Meta.l0 k (4 + (n1 : Int) + (n2 : Int)) (2 + 1) b i5 h5 (3 + x1) x3 (8 + x2) ([] ++ oneF 1 4 n1 ++ oneF 2 (4 + n1) n2)) (3 + x1, x3, 8 + x2, drawnF n1 n2, h5 |> fun _ => i5, h5) := ev_end fun k => by
    rw [spec_l06Meta.l0, if_neg (by omega)]
    rfl
  have z1 := g2 _ z0
  have z2 : Ev (fun k => spec_l06Meta.l0 k (4 + (n1 : Int)) (1 + 1) b i4 h4 (3 + x1) x3 (8 + x2) ([] ++ oneF 1 4 n1)) (3 + x1, x3, 8 + x2, drawnF n1 n2, i5, h5) := ev_go z1 fun k => by
    rw [spec_l06Meta.l0, if_pos (by omega)]
    show _ = spec_l06Meta.l1 k (4 + (n1 : Int) + ((0 : Nat) : Int)) 2 ((0 : Nat) : Int) b i4 h4 (3 + x1) x3 (8 + x2) ([] ++ oneF 1 4 n1) 2 (runP (4 + n1) 0)
    rw [show 4 + (n1 : Int) + ((0 : Nat) : Int) = 4 + (n1 : Int) by omega]
    rfl
  have z3 := g1 _ z2
  have z4 : Ev (fun k => spec_l06Meta.l0 k 4 1 b i3 h3 (3 + x1) x3 (8 + x2) []) (3 + x1, x3, 8 + x2, drawnF n1 n2, i5, h5) := ev_go z3 fun k => by
    rw [spec_l06Meta.l0, if_pos (by omega)]
    rfl
  refine ⟨3 + x1, x3, 8 + x2, drawnF n1 n2, i5, h5, Ev.congr (fun k => ?_) z4, ⟨by omega, by simpa using m3, by omega, n1, n2, q1, q2, rfl⟩, p5⟩
  unfold spec_l06Meta.f
  rw [e1, Option.bind_some, e2, Option.bind_some, e3, Option.bind_some, w64 (by dsimp only; omega) (by dsimp only; omega), w64 (by dsimp only; omega) (by dsimp only; omega)]
theorem spec_l01New_loop (b : List Int) (hb : b.length ≤ 140737488351232) : ∀ (d i : Nat) (h : Int), i + d = b.length → ∃ h' : Int, Ev (fun k => spec_l01New.l0 k b h (i : Int)) (b, 0, h') := by
  intro d
  induction d with
  | zero =>
    intro i h hi
    exact ⟨h, ev_end fun k => by rw [spec_l01New.l0, if_neg (by omega)]⟩
  | succ d ih =>
    intro i h hi
    by_cases c : i < 4000
    · obtain ⟨h', e⟩ := ih (i + 1) (Go.bits .and .i64 (wrap64 ((wrap64 ((wrap64 (h * 131)) + (wrap64 (rd b (i : Int))))) + 7)) 1073741823) (by omega)
      refine ⟨h', ev_go e fun k => ?_⟩
      rw [spec_l01New.l0, if_pos (by omega), if_pos (by omega), if_pos (by omega), w64 (n := (i : Int) + 1) (by omega) (by omega)]
      rfl
    · exact ⟨h, ev_end fun k => by rw [spec_l01New.l0, if_pos (by omega), if_neg (by omega)]⟩
theorem spec_l01New_draws (b : List Int) (hb : b.length ≤ 140737488351232) : ∃ h : Int, Ev (fun k => spec_l01New.f k b) (b, 0, h) :=
  spec_l01New_loop b hb b.length 0 _ (by omega)
theorem spec_DrawMeta_draws (b : List Int) (hb : b.length ≤ 140737488351232) : ∃ (tx root next : Int) (F : List S60), Ev (fun k => spec_DrawMeta.f k b) (tx, root, next, F) ∧ MetaDrawn tx root next F := by
  obtain ⟨h, e⟩ := spec_l01New_draws b hb
  obtain ⟨tx, root, next, F, i1, h1, e1, hD, p1⟩ := spec_l06Meta_draws b hb 0 h (by omega)
  exact ⟨tx, root, next, F, ev_call e (ev_call e1 (Ev.now _) (fun _ => rfl)) (fun _ => rfl), hD⟩
def dnR (n : Int) : List ByteArray × List S83 × Bool := if 4 ≤ n ∧ n ≤ 40 then (List.replicate n.toNat ⟨#[]⟩, [], true) else ([], [], false)
theorem dnR_lengths (n : Int) : (dnR n).1.length ≤ 40 ∧ (dnR n).2.1.length = 0 := by
  unfold dnR
  split <;> simp
  omega
theorem spec_DiskNew_eq (n : Int) : spec_DiskNew.f n = some (dnR n) := by
  unfold spec_DiskNew.f spec_l01In.f dnR
  by_cases c : 4 ≤ n ∧ n ≤ 40
  · rw [if_pos c, if_pos c.1, Option.bind_some, decide_eq_true c.2, if_pos rfl, if_pos (by omega), if_pos (by omega)]
  · rw [if_neg c]
    by_cases c1 : n ≥ 4
    · rw [if_pos c1, Option.bind_some, decide_eq_false (by omega), if_neg (by decide)]
    · rw [if_neg c1, Option.bind_some, if_neg (by decide)]
theorem spec_l03Copy_eq (P : List ByteArray) (L : List S83) (hp : P.length ≤ 1048577) (hl : L.length ≤ 1048577) : spec_l03Copy.f P L = some (P, L) := by
  unfold spec_l03Copy.f
  rw [Option.bind_some, if_pos (by simp only [List.length_nil]; omega), Option.bind_some, if_pos (by simp only [List.length_nil]; omega)]
  rfl
theorem spec_DiskOk_late (pages : List ByteArray) (late : List S83) (hp : pages.length ≤ 1048576) (hl : late.length ≤ 1048576) : ∀ (d i : Nat), i + d = late.length → Ev (fun k => spec_DiskOk.l1 k (i : Int) pages late) (!((late.drop i).any fun p => !decide (0 ≤ p.f0 ∧ p.f0 ≤ wrap64 ((pages.length : Int) - 1)) || decide ((p.f1.size : Int) > 240)) && (decide (4 ≤ (pages.length : Int) ∧ (pages.length : Int) ≤ 40) && decide ((late.length : Int) ≤ 200))) := by
  intro d
  induction d with
  | zero =>
    intro i hi
    refine ev_end fun k => ?_
    rw [spec_DiskOk.l1, if_neg (by omega), spec_l01In_eq, Option.bind_some, List.drop_eq_nil_of_le (by omega)]
    cases decide (4 ≤ (pages.length : Int) ∧ (pages.length : Int) ≤ 40) <;> rfl
  | succ d ih =>
    intro i hi
    have hd : late.drop i = rd_T83 late (i : Int) :: late.drop (i + 1) := drop_rdOf z83 late i (by omega)
    rw [hd, List.any_cons]
    by_cases c1 : 0 ≤ (rd_T83 late (i : Int)).f0 ∧ (rd_T83 late (i : Int)).f0 ≤ wrap64 ((pages.length : Int) - 1)
    · rw [decide_eq_true c1]
      by_cases c2 : ((rd_T83 late (i : Int)).f1.size : Int) > 240
      · rw [decide_eq_true c2]
        refine ev_end fun k => ?_
        rw [spec_DiskOk.l1, if_pos (by omega), if_pos (by omega), spec_l01In_eq, Option.bind_some, decide_eq_true c1, if_pos rfl, if_pos c2]
        rfl
      · rw [decide_eq_false c2]
        refine ev_go (ih (i + 1) (by omega)) fun k => ?_
        rw [spec_DiskOk.l1, if_pos (by omega), if_pos (by omega), spec_l01In_eq, Option.bind_some, decide_eq_true c1, if_pos rfl, if_neg c2, w64 (n := (i : Int) + 1) (by omega) (by omega)]
        rfl
    · rw [decide_eq_false c1]
      refine ev_end fun k => ?_
      rw [spec_DiskOk.l1, if_pos (by omega), if_pos (by omega), spec_l01In_eq, Option.bind_some, decide_eq_false c1, if_neg (by decide)]
      rfl
theorem spec_DiskOk_pages (pages : List ByteArray) (late : List S83) (hp : pages.length ≤ 1048576) (hl : late.length ≤ 1048576) : ∀ (d i : Nat), i + d = pages.length → Ev (fun k => spec_DiskOk.l0 k (i : Int) pages late) (!((pages.drop i).any fun s => decide ((s.size : Int) > 240)) && (!(late.any fun p => !decide (0 ≤ p.f0 ∧ p.f0 ≤ wrap64 ((pages.length : Int) - 1)) || decide ((p.f1.size : Int) > 240)) && (decide (4 ≤ (pages.length : Int) ∧ (pages.length : Int) ≤ 40) && decide ((late.length : Int) ≤ 200)))) := by
  intro d
  induction d with
  | zero =>
    intro i hi
    rw [List.drop_eq_nil_of_le (by omega)]
    refine ev_go (spec_DiskOk_late pages late hp hl late.length 0 (by omega)) fun k => ?_
    rw [spec_DiskOk.l0, if_neg (by omega)]
    rfl
  | succ d ih =>
    intro i hi
    rw [drop_rdOf ByteArray.empty pages i (by omega), List.any_cons]
    by_cases c : ((rdOf ByteArray.empty pages (i : Int)).size : Int) > 240
    · rw [decide_eq_true c]
      refine ev_end fun k => ?_
      rw [spec_DiskOk.l0, if_pos (by omega), if_pos (by omega), if_pos c]
      rfl
    · rw [decide_eq_false c, Bool.false_or]
      refine ev_go (ih (i + 1) (by omega)) fun k => ?_
      rw [spec_DiskOk.l0, if_pos (by omega), if_pos (by omega), if_neg c, w64 (by omega) (by omega)]
      rfl
theorem spec_DiskOk_fev (pages : List ByteArray) (late : List S83) (hp : pages.length ≤ 1048576) (hl : late.length ≤ 1048576) : Ev (fun k => spec_DiskOk.f k pages late) (dokR pages late) := by
  have h := spec_DiskOk_pages pages late hp hl pages.length 0 (by omega)
  rw [List.drop_zero] at h
  unfold dokR
  generalize (pages.any fun s => decide ((s.size : Int) > 240)) = a at h ⊢
  generalize (late.any fun p => !decide (0 ≤ p.f0 ∧ p.f0 ≤ wrap64 ((pages.length : Int) - 1)) || decide ((p.f1.size : Int) > 240)) = b at h ⊢
  generalize decide (4 ≤ (pages.length : Int) ∧ (pages.length : Int) ≤ 40) = c at h ⊢
  generalize decide ((late.length : Int) ≤ 200) = e at h ⊢
  have : (!a && (!b && (c && e))) = (c && e && !a && !b) := by cases a <;> cases b <;> cases c <;> cases e <;> rfl
  rw [← this]
  exact h
theorem spec_WritePage_fev (P : List ByteArray) (L : List S83) (page : Int) (text : ByteArray) (hp : P.length ≤ 1048576) (hl : L.length ≤ 1048576) : Ev (fun k => spec_WritePage.f k P L page text) (wpR P L page text) := by
  obtain ⟨K, e⟩ := spec_DiskOk_fev P L hp hl
  refine ⟨K, fun k hk => ?_⟩
  dsimp only at e ⊢
  unfold spec_WritePage.f wpR
  rw [spec_l03Copy_eq P L (by omega) (by omega), Option.bind_some, e k hk, Option.bind_some]
  by_cases c1 : dokR P L = true
  · obtain ⟨_, _, g3, _⟩ := dokR_tells P L c1
    rw [if_pos c1, spec_l01In_eq, Option.bind_some, w64 (by omega) (by omega)]
    by_cases c2 : 0 ≤ page ∧ page < (P.length : Int)
    · rw [decide_eq_true (by omega), if_pos rfl]
      by_cases c3 : text.size ≤ 240
      · rw [if_neg (by omega)]
        by_cases c4 : L.length < 200
        · rw [if_neg (by omega), if_pos (by show L.length < _; omega), if_pos ⟨c1, c2, c3, c4⟩]
        · rw [if_pos (by omega), if_neg (fun h => c4 h.2.2.2)]
      · rw [if_pos (by omega), if_neg (fun h => c3 h.2.2.1)]
    · rw [decide_eq_false (by omega), if_neg (by decide), if_neg (fun h => c2 h.2.1)]
  · rw [if_neg c1, if_neg (fun h => c1 h.1)]
theorem impl_MetaPage_eq (a : Int) (h : 0 ≤ a) (h2 : a ≤ 1000000000) : impl_MetaPage.f a = some (a % 2) := by
  unfold impl_MetaPage.f
  rw [i64_and1 a h (by omega)]
theorem spec_l06Copy_loop (a b c : Int) (F : List S60) (hF : F.length ≤ 1048576) (hs : ∀ x ∈ F, x.f1.length ≤ 1048576) : ∀ (d i : Nat), i + d = F.length → Ev (fun k => spec_l06Copy.l0 k (i : Int) a b c F a b c (F.take i)) (a, b, c, F) := by
  intro d
  induction d with
  | zero =>
    intro i hi
    refine ev_end fun k => ?_
    rw [spec_l06Copy.l0, if_neg (by omega), List.take_of_length_le (by omega)]
  | succ d ih =>
    intro i hi
    have hm := hs _ (rdOf_mem z60 F i (by omega))
    have hm : (rd_T60 F (i : Int)).f1.length ≤ 1048576 := hm
    refine ev_go (ih (i + 1) (by omega)) fun k => ?_
    rw [spec_l06Copy.l0, if_pos (by omega), if_pos (by omega), Option.bind_some, if_pos (by rw [List.length_nil]; omega), if_pos (by rw [List.length_take]; omega), w64 (by omega) (by omega), List.nil_append]
    have e : F.take i ++ [(⟨(rd_T60 F (i : Int)).f0, (rd_T60 F (i : Int)).f1⟩ : S60)] = F.take (i + 1) := by
      rw [List.take_succ_eq_append_getElem (by omega)]
      congr 2
      exact (show _ = rd_T60 F (i : Int) from rfl).trans (rdOf_get z60 F i (by omega))
    rw [e]
    rfl
theorem spec_l06Copy_fev (a b c : Int) (F : List S60) (hF : F.length ≤ 1048576) (hs : ∀ x ∈ F, x.f1.length ≤ 1048576) : Ev (fun k => spec_l06Copy.f k a b c F) (a, b, c, F) := spec_l06Copy_loop a b c F hF hs F.length 0 (by omega)
theorem drawnF_small {a b : Nat} (ha : a ≤ 2) (hb : b ≤ 2) : (drawnF a b).length ≤ 2 ∧ ∀ x ∈ drawnF a b, 1 ≤ x.f1.length ∧ x.f1.length ≤ 2 := by
  have h1 := oneF_le 1 4 a
  have h2 := oneF_le 2 (4 + a) b
  have h3 : ∀ (t s : Int) (n : Nat), n ≤ 2 → ∀ x ∈ oneF t s n, 1 ≤ x.f1.length ∧ x.f1.length ≤ 2 := by
    intro t s n hn x hx
    unfold oneF at hx
    split at hx
    · cases hx
    · rw [List.mem_singleton.1 hx]
      dsimp only
      rw [runP_length]
      omega
  refine ⟨by unfold drawnF; rw [List.length_append]; omega, fun x hx => ?_⟩
  rcases List.mem_append.1 hx with hx | hx
  · exact h3 _ _ _ ha x hx
  · exact h3 _ _ _ hb x hx
theorem MetaDrawn.small {tx root next : Int} {F : List S60} (h : MetaDrawn tx root next F) : F.length ≤ 2 ∧ ∀ x ∈ F, 1 ≤ x.f1.length ∧ x.f1.length ≤ 2 := by
  obtain ⟨a, b, ha, hb, rfl⟩ := h.free_
  exact drawnF_small ha hb
/-- A drawn meta, or one that is spoilt: its rows are short. -/
theorem spec_l06Any_draws (b : List Int) (hb : b.length ≤ 140737488351232) (i h : Int) (hi : 0 ≤ i) : ∃ (tx root next : Int) (F : List S60) (i' h' : Int), Ev (fun k => spec_l06Any.f k b i h) (tx, root, next, F, i', h') ∧ 0 ≤ i' ∧ F.length ≤ 3 ∧ ∀ x ∈ F, x.f1.length ≤ 3 := by
  obtain ⟨tx, root, next, F, i1, h1, ⟨K1, e1⟩, hD, p1⟩ := spec_l06Meta_draws b hb i h hi
  obtain ⟨hF, hs⟩ := hD.small
  obtain ⟨K2, e2⟩ := spec_l06Copy_fev tx root next F (by omega) (fun x hx => by have := hs x hx; omega)
  obtain ⟨x, i2, h2, e3, r3, p2, _⟩ := spec_l01Below_draws b hb i1 h1 12 p1
  have hF3 : F.length ≤ 3 := by omega
  have hs3 : ∀ x ∈ F, x.f1.length ≤ 3 := fun x hx => by have := hs x hx; omega
  have hn := hD.next_
  dsimp only at e1 e2
  have hgo : ∀ k, K1 + K2 ≤ k → spec_l06Any.f k b i h = _ := fun k hk => by
    unfold spec_l06Any.f
    rw [e1 k (by omega), Option.bind_some, e2 k (by omega), Option.bind_some, e3, Option.bind_some]
  simp only at hgo
  by_cases c0 : x = 0
  · obtain ⟨y, i3, h3, e4, _, p4⟩ := spec_l01PickInt_draws b hb i2 h2 p2 ([(-1), 0, 1, 100000, 100001] : List Int) (by simp)
    exact ⟨y, root, next, F, i3, h3, ⟨K1 + K2, fun k hk => by dsimp only; rw [hgo k hk, if_pos c0, e4, Option.bind_some]⟩, p4, hF3, hs3⟩
  by_cases c1 : x = 1
  · obtain ⟨y, i3, h3, e4, _, p4⟩ := spec_l01PickInt_draws b hb i2 h2 p2 ([(-1), 1, wrap64 (next - 1), next] : List Int) (by simp)
    exact ⟨tx, y, next, F, i3, h3, ⟨K1 + K2, fun k hk => by dsimp only; rw [hgo k hk, if_neg c0, if_pos c1, e4, Option.bind_some]⟩, p4, hF3, hs3⟩
  by_cases c2 : x = 2
  · obtain ⟨y, i3, h3, e4, _, p4⟩ := spec_l01PickInt_draws b hb i2 h2 p2 ([1, 2, 40, 41] : List Int) (by simp)
    exact ⟨tx, root, y, F, i3, h3, ⟨K1 + K2, fun k hk => by dsimp only; rw [hgo k hk, if_neg c0, if_neg c1, if_pos c2, e4, Option.bind_some]⟩, p4, hF3, hs3⟩
  by_cases c3 : x = 3
  · obtain ⟨y, i3, h3, e4, _, p4⟩ := spec_l01PickInt_draws b hb i2 h2 p2 ([0, 3, 50] : List Int) (by simp)
    obtain ⟨z, i4, h4, e5, _, p5, _⟩ := spec_l01Below_draws b hb i3 h3 9 p4
    refine ⟨tx, root, next, F ++ [⟨y, [z]⟩], i4, h4, ⟨K1 + K2, fun k hk => ?_⟩, p5, by simp; omega, ?_⟩
    · dsimp only
      rw [hgo k hk, if_neg c0, if_neg c1, if_neg c2, if_pos c3, e4, Option.bind_some]
      dsimp only
      rw [e5, Option.bind_some, if_pos (by omega)]
    · intro v hv
      rcases List.mem_append.1 hv with hv | hv
      · exact hs3 v hv
      · rw [List.mem_singleton.1 hv]; simp
  by_cases c4 : x = 4
  · by_cases c5 : (F.length : Int) > 0
    · have hm := hs (rd_T60 F ((0 : Nat) : Int)) (rdOf_mem z60 F 0 (by omega))
      have hm : 1 ≤ (rd_T60 F 0).f1.length ∧ (rd_T60 F 0).f1.length ≤ 2 := hm
      refine ⟨tx, root, next, F.set (0 : Int).toNat ⟨(rd_T60 F 0).f0, (rd_T60 F 0).f1 ++ [rd (rd_T60 F 0).f1 0]⟩, i2, h2, ⟨K1 + K2, fun k hk => ?_⟩, p2, by rw [List.length_set]; omega, ?_⟩
      · dsimp only
        rw [hgo k hk, if_neg c0, if_neg c1, if_neg c2, if_neg c3, if_pos c4, if_pos c5, if_pos (by omega), if_pos (by omega)]
      · intro v hv
        rcases List.mem_or_eq_of_mem_set hv with hv | rfl
        · exact hs3 v hv
        · dsimp only
          rw [List.length_append, List.length_singleton]
          omega
    · exact ⟨tx, root, next, F, i2, h2, ⟨K1 + K2, fun k hk => by dsimp only; rw [hgo k hk, if_neg c0, if_neg c1, if_neg c2, if_neg c3, if_pos c4, if_neg c5]⟩, p2, hF3, hs3⟩
  exact ⟨tx, root, next, F, i2, h2, ⟨K1 + K2, fun k hk => by dsimp only; rw [hgo k hk, if_neg c0, if_neg c1, if_neg c2, if_neg c3, if_neg c4]⟩, p2, hF3, hs3⟩
theorem spec_l01Once_draws (b : List Int) (hb : b.length ≤ 140737488351232) (i h n : Int) (hi : 0 ≤ i) : ∃ (x : Bool) (i' h' : Int), spec_l01Once.f b i h n = some (x, i', h') ∧ 0 ≤ i' := by
  obtain ⟨x, i', h', e, _, p, _⟩ := spec_l01Below_draws b hb i h n hi
  unfold spec_l01Once.f
  rw [e, Option.bind_some]
  exact ⟨_, _, _, rfl, p⟩
theorem wpR_keeps {P : List ByteArray} {L : List S83} (h : dokR P L = true) (page : Int) (text : ByteArray) : dokR (wpR P L page text).1 (wpR P L page text).2.1 = true := by
  unfold wpR
  by_cases c : dokR P L = true ∧ (0 ≤ page ∧ page < (P.length : Int)) ∧ text.size ≤ 240 ∧ L.length < 200
  · rw [if_pos c]
    exact dokR_write h ⟨page, text⟩ c.2.2.2 c.2.1.1 c.2.1.2 c.2.2.1
  · rw [if_neg c]
    exact h
theorem spec_DrawBestMeta_loop (b : List Int) (hb : b.length ≤ 140737488351232) : ∀ (d i : Nat) (P : List ByteArray) (L : List S83) (u h : Int), i + d = 2 → dokR P L = true → 0 ≤ u → ∃ (P' : List ByteArray) (L' : List S83), Ev (fun k => spec_DrawBestMeta.l0 k (i : Int) b u h P L) (P', L') ∧ P'.length ≤ 40 ∧ L'.length ≤ 200 ∧ (∀ x ∈ P', x.size ≤ 240) ∧ ∀ x ∈ L', x.f1.size ≤ 240 := by
  intro d
  induction d with
  | zero =>
    intro i P L u h hi hd hu
    obtain ⟨k1, k2, k3, k4, k5⟩ := dokR_tells P L hd
    obtain ⟨y, u2, h2, e2, p2⟩ := spec_l01Once_draws b hb u h 8 hu
    cases y with
    | true =>
      obtain ⟨z, u3, h3, e3, r3, p3, _⟩ := spec_l01Below_draws b hb u2 h2 2 p2
      have r3 := r3 (by omega)
      refine ⟨P.take z.toNat, L, ev_end fun k => ?_, by rw [List.length_take]; omega, k3, fun x hx => k4 x (List.mem_of_mem_take hx), fun x hx => (k5 x hx).2.2⟩
      rw [spec_DrawBestMeta.l0, if_neg (by omega), e2, Option.bind_some, if_pos rfl]
      dsimp only
      rw [e3, Option.bind_some, if_pos (by dsimp only; omega), if_pos (by dsimp only; omega)]
    | false =>
      refine ⟨P, L, ev_end fun k => ?_, k2, k3, k4, fun x hx => (k5 x hx).2.2⟩
      rw [spec_DrawBestMeta.l0, if_neg (by omega), e2, Option.bind_some, if_neg (by simp)]
  | succ d ih =>
    intro i P L u h hi hd hu
    obtain ⟨k1, k2, k3, k4, k5⟩ := dokR_tells P L hd
    obtain ⟨tx, root, next, F, u1, h1, ⟨K1, e1⟩, p1, hF, hs⟩ := spec_l06Any_draws b hb u h hu
    obtain ⟨K2, e2⟩ := spec_MetaText_fev tx root next F (by omega) (fun x hx => by have := hs x hx; omega)
    obtain ⟨y, u2, h2, e3, p2⟩ := spec_l01Once_draws b hb u1 h1 5 p1
    dsimp only at e1 e2
    have go : ∀ s : ByteArray, ∃ (P' : List ByteArray) (L' : List S83) (K : Nat), (∀ k, K ≤ k → ((spec_WritePage.f k P L (i : Int) s).bind fun bt => spec_DrawBestMeta.l0 k (wrap64 ((i : Int) + 1)) b u2 h2 bt.1 bt.2.1) = some (P', L')) ∧ P'.length ≤ 40 ∧ L'.length ≤ 200 ∧ (∀ x ∈ P', x.size ≤ 240) ∧ ∀ x ∈ L', x.f1.size ≤ 240 := by
      intro s
      obtain ⟨K3, e4⟩ := spec_WritePage_fev P L (i : Int) s (by omega) (by omega)
      obtain ⟨P', L', ⟨K, e⟩, q⟩ := ih (i + 1) (wpR P L (i : Int) s).1 (wpR P L (i : Int) s).2.1 u2 h2 (by omega) (wpR_keeps hd (i : Int) s) p2
      dsimp only at e e4
      refine ⟨P', L', K + K3, fun k hk => ?_, q⟩
      rw [e4 k (by omega), Option.bind_some, w64 (by omega) (by omega)]
      exact e k (by omega)
    cases y with
    | true =>
      obtain ⟨P', L', K, e, q⟩ := go (⟨#[120]⟩ : ByteArray)
      refine ⟨P', L', ev_succ ⟨K + K1 + K2, fun k hk => ?_⟩, q⟩
      rw [spec_DrawBestMeta.l0, if_pos (by omega), e1 k (by omega), Option.bind_some]
      dsimp only
      rw [e2 k (by omega), Option.bind_some, e3, Option.bind_some, if_pos rfl]
      exact e k (by omega)
    | false =>
      obtain ⟨P', L', K, e, q⟩ := go (metaTextR tx root next F).1
      refine ⟨P', L', ev_succ ⟨K + K1 + K2, fun k hk => ?_⟩, q⟩
      rw [spec_DrawBestMeta.l0, if_pos (by omega), e1 k (by omega), Option.bind_some]
      dsimp only
      rw [e2 k (by omega), Option.bind_some, e3, Option.bind_some, if_neg (by simp)]
      exact e k (by omega)
theorem dokR_new (n : Nat) (h4 : 4 ≤ n) (h : n ≤ 40) : dokR (List.replicate n (⟨#[]⟩ : ByteArray)) [] = true :=
  dokR_mk _ _ (by simpa using h4) (by simpa using h) (Nat.zero_le _) (fun s hs => by rw [List.eq_of_mem_replicate hs]; exact Nat.zero_le _) (fun p hp => by cases hp)
theorem spec_DrawBestMeta_draws (b : List Int) (hb : b.length ≤ 140737488351232) : ∃ (P' : List ByteArray) (L' : List S83), Ev (fun k => spec_DrawBestMeta.f k b) (P', L') ∧ P'.length ≤ 40 ∧ L'.length ≤ 200 ∧ (∀ x ∈ P', x.size ≤ 240) ∧ ∀ x ∈ L', x.f1.size ≤ 240 := by
  obtain ⟨h, ⟨K, e⟩⟩ := spec_l01New_draws b hb
  obtain ⟨P', L', ⟨K1, e1⟩, q⟩ := spec_DrawBestMeta_loop b hb 2 0 (List.replicate 30 (⟨#[]⟩ : ByteArray)) [] 0 h (by omega) (dokR_new 30 (by omega) (by omega)) (by omega)
  refine ⟨P', L', ⟨K + K1, fun k hk => ?_⟩, q⟩
  dsimp only at e e1 ⊢
  unfold spec_DrawBestMeta.f
  rw [e k (by omega), Option.bind_some, spec_DiskNew_eq, Option.bind_some]
  exact e1 k (by omega)
theorem laws_sameInts_loop (a : List Int) (hb : a.length ≤ 9223372036854775807) : ∀ (d i : Nat), i + d = a.length → Ev (fun k => laws_sameInts.l0 k a a (i : Int)) true := by
  intro d
  induction d with
  | zero =>
    intro i hi
    refine ev_end fun k => ?_
    rw [laws_sameInts.l0, if_neg (by omega)]
  | succ d ih =>
    intro i hi
    refine ev_go (ih (i + 1) (by omega)) fun k => ?_
    rw [laws_sameInts.l0, if_pos (by omega), if_pos (by omega), if_pos (by omega), if_pos rfl, w64 (by omega) (by omega)]
    rfl
theorem laws_sameInts_same (a : List Int) (hb : a.length ≤ 9223372036854775807) : Ev (fun k => laws_sameInts.f k a a) true := by
  refine Ev.congr (fun k => ?_) (laws_sameInts_loop a hb a.length 0 (by omega))
  unfold laws_sameInts.f
  rw [if_pos rfl]
  rfl
theorem laws_sameMeta_loop (p q r : Int) (F : List S60) (hF : F.length ≤ 1048576) (hs : ∀ x ∈ F, x.f1.length ≤ 1048576) : ∀ (d i : Nat), i + d = F.length → Ev (fun k => laws_sameMeta.l0 k (i : Int) p q r F p q r F) true := by
  intro d
  induction d with
  | zero =>
    intro i hi
    refine ev_end fun k => ?_
    rw [laws_sameMeta.l0, if_neg (by omega)]
  | succ d ih =>
    intro i hi
    have hm : (rd_T60 F (i : Int)).f1.length ≤ 1048576 := hs _ (rdOf_mem z60 F i (by omega))
    obtain ⟨K1, e1⟩ := laws_sameInts_same (rd_T60 F (i : Int)).f1 (by omega)
    obtain ⟨K, e⟩ := ih (i + 1) (by omega)
    dsimp only at e e1
    refine ev_succ ⟨K + K1, fun k hk => ?_⟩
    rw [laws_sameMeta.l0, if_pos (by omega), if_pos (by omega), if_pos (by omega), if_pos rfl, e1 k (by omega), Option.bind_some, if_pos rfl, w64 (by omega) (by omega)]
    exact e k (by omega)
theorem laws_sameMeta_same (p q r : Int) (F : List S60) (hF : F.length ≤ 1048576) (hs : ∀ x ∈ F, x.f1.length ≤ 1048576) : Ev (fun k => laws_sameMeta.f k p q r F p q r F) true := by
  have h : Ev (fun k => laws_sameMeta.j0 k false p q r F p q r F) true := ev_go (laws_sameMeta_loop p q r F hF hs F.length 0 (by omega)) fun k => by
    rw [laws_sameMeta.j0, if_neg (by decide)]
    rfl
  refine Ev.congr (fun k => ?_) h
  unfold laws_sameMeta.f
  rw [if_pos rfl, if_pos rfl, if_pos rfl, show ((F.length : Int) != (F.length : Int)) = false from bne_self_eq_false _]
end Go.Proofs.Yteokilffbcbllaa.VFnBest
namespace Go.Proofs.Yteokilffbcbllaa.Pure
open Go.Proofs.Yteokilffbcbllaa.VFnBest
set_option linter.unusedVariables false
set_option linter.unusedSimpArgs false
open Go Go.RowKit Go.Proofs.YteokilffbcbllaaW.PrintWords Go.Proofs.YteokilffbcbllaaW.PrintLast Go.Proofs.YteokilffbcbllaaW.PrintMore
theorem metaOkR_drawn_nat : ∀ i < 6, ∀ j < 20, ∀ r ∈ ([0, 2, 3] : List Int), ∀ a < 3, ∀ b < 3, metaOkR (3 + ((i : Nat) : Int)) r (8 + ((j : Nat) : Int)) (drawnF a b) = true := by decide +kernel
theorem metaOkR_drawn {tx root next : Int} {a b : Nat} (ht : 3 ≤ tx ∧ tx ≤ 8) (hr : root = 0 ∨ root = 2 ∨ root = 3) (hn : 8 ≤ next ∧ next ≤ 27) (ha : a ≤ 2) (hb : b ≤ 2) : metaOkR tx root next (drawnF a b) = true := by
  have h := metaOkR_drawn_nat (tx - 3).toNat (by omega) (next - 8).toNat (by omega) root (by simpa using hr) a (by omega) b (by omega)
  rw [show 3 + (((tx - 3).toNat : Nat) : Int) = tx by omega, show 8 + (((next - 8).toNat : Nat) : Int) = next by omega] at h
  exact h
theorem freesB_size_two (F : List S60) (h : ∀ x ∈ F, x.f0 ≤ 1000000000 ∧ x.f1.length ≤ 2 ∧ ∀ p ∈ x.f1, p ≤ 1000000000) : (freesB F).size ≤ 40 * F.length := by
  induction F with
  | nil => exact Nat.zero_le _
  | cons x t ih =>
    obtain ⟨h1, h2, h3⟩ := h x (by simp)
    have := ih (fun y hy => h y (by simp [hy]))
    have a1 := varB_size_int x.f0 h1
    have a2 := varB_size_le x.f1.length (by omega)
    have a3 := pagesB_size x.f1 h3
    unfold freesB freeB
    rw [ByteArray.size_append, ByteArray.size_append, ByteArray.size_append, List.length_cons]
    omega
theorem metaTextR_drawn {tx root next : Int} {F : List S60} (hD : MetaDrawn tx root next F) (t : Int) (ht : 3 ≤ t ∧ t ≤ 8) : ∃ s : ByteArray, metaTextR t root next F = (s, true) ∧ s.size ≤ 240 := by
  obtain ⟨a, b, ha, hb, e⟩ := hD.free_
  have ok : metaOkR t root next F = true := by rw [e]; exact metaOkR_drawn ht hD.root_ hD.next_ ha hb
  have hs := hD.small
  obtain ⟨g1, g2, g3, g4, g5, g6, g7⟩ := metaOkR_tells ok
  have z := freesB_size_two F (fun x hx => by
    obtain ⟨q1, q2, q3, q4, q5⟩ := g7 x hx
    exact ⟨by omega, (hs.2 x hx).2, fun p hp => by have := q5 p hp; omega⟩)
  have z1 := varB_size_int t (by omega)
  have z2 := varB_size_int root (by omega)
  have z3 := varB_size_int next (by omega)
  have z4 := varB_size_le F.length (by omega)
  have hsz : (metaB t root next F).size ≤ 120 := by
    unfold metaB
    rw [ByteArray.size_append, ByteArray.size_append, ByteArray.size_append, ByteArray.size_append]
    omega
  refine ⟨metaB t root next F ++ sealB (metaB t root next F), ?_, ?_⟩
  · unfold metaTextR
    rw [if_pos ok, if_neg (by omega)]
  · rw [ByteArray.size_append, sealB_size]
    omega
theorem readMetaR_short (t : ByteArray) (h : t.size < 4) : (readMetaR t).2.2.2.2 = false := by
  cases hr : readMetaR t with
  | mk a r =>
    obtain ⟨b, c, F, ok⟩ := r
    cases ok with
    | false => rfl
    | true =>
      have := (metaTextR_tells (readMetaR_tells hr)).2.2
      rw [this, ByteArray.size_append, sealB_size] at h
      omega
theorem pick_left {a b : Int × Int × Int × List S60 × Bool} {tx root next : Int} {F : List S60} (ha : a = (tx, root, next, F, true)) (hb : b.2.2.2.2 = false ∨ tx ≥ b.1) : spec_BestMeta.pick a b = (tx, root, next, F, true) := by
  subst ha
  unfold spec_BestMeta.pick
  rw [if_pos ⟨rfl, hb⟩]
theorem pick_right {a b : Int × Int × Int × List S60 × Bool} {tx root next : Int} {F : List S60} (hb : b = (tx, root, next, F, true)) (ha : a.2.2.2.2 = false ∨ ¬ a.1 ≥ tx) : spec_BestMeta.pick a b = (tx, root, next, F, true) := by
  subst hb
  unfold spec_BestMeta.pick
  rw [if_neg (by
    rintro ⟨h1, h2⟩
    dsimp only at h2
    rcases ha with ha | ha
    · rw [ha] at h1; cases h1
    · rcases h2 with h2 | h2
      · cases h2
      · exact ha h2), if_pos rfl]
theorem rpR_blank (n : Nat) (page : Int) (h0 : 0 ≤ page) (h : page < (n : Int)) : rpR (List.replicate n (⟨#[]⟩ : ByteArray)) [] page = ⟨#[]⟩ := by
  unfold rpR
  rw [if_pos ⟨h0, by rw [List.length_replicate]; exact h⟩]
  obtain ⟨m, rfl⟩ := Int.eq_ofNat_of_zero_le h0
  exact List.eq_of_mem_replicate (rdOf_mem ByteArray.empty _ m (by rw [List.length_replicate]; omega))
/-- Of two metas on a blank disk the later one counts; where the later one is spoilt, the other one does. -/
theorem best_drawn {tx root next : Int} {F : List S60} (ht : 3 ≤ tx ∧ tx ≤ 7) {a b : ByteArray} (ea : metaTextR tx root next F = (a, true)) (eb : metaTextR (tx + 1) root next F = (b, true)) :
    bestR (List.replicate 40 (⟨#[]⟩ : ByteArray)) [⟨tx % 2, a⟩] = (tx, root, next, F, true) ∧ bestR (List.replicate 40 (⟨#[]⟩ : ByteArray)) ([⟨tx % 2, a⟩] ++ [⟨(tx + 1) % 2, b⟩]) = (tx + 1, root, next, F, true) ∧ bestR (List.replicate 40 (⟨#[]⟩ : ByteArray)) (([⟨tx % 2, a⟩] ++ [⟨(tx + 1) % 2, b⟩]) ++ [⟨(tx + 1) % 2, ⟨#[120]⟩⟩]) = (tx, root, next, F, true) := by
  have ra := readMetaR_text ea
  have rb := readMetaR_text eb
  have r0 := readMetaR_short ⟨#[]⟩ (by decide)
  have rx := readMetaR_short ⟨#[120]⟩ (by decide)
  have hl : ∀ page : Int, 0 ≤ page → page < 2 → page < ((List.replicate 40 (⟨#[]⟩ : ByteArray)).length : Int) := fun page _ h => by rw [List.length_replicate]; omega
  have h1 : ∀ page : Int, 0 ≤ page → page < 2 → rpR (List.replicate 40 (⟨#[]⟩ : ByteArray)) [(⟨tx % 2, a⟩ : S83)] page = if tx % 2 = page then a else ⟨#[]⟩ := fun page g0 g1 => by
    have := rpR_write (List.replicate 40 (⟨#[]⟩ : ByteArray)) [] (⟨tx % 2, a⟩ : S83) page g0 (hl page g0 g1)
    rw [rpR_blank 40 page g0 (by omega)] at this
    exact this
  have h2 : ∀ page : Int, 0 ≤ page → page < 2 → rpR (List.replicate 40 (⟨#[]⟩ : ByteArray)) ([(⟨tx % 2, a⟩ : S83)] ++ [⟨(tx + 1) % 2, b⟩]) page = if (tx + 1) % 2 = page then b else if tx % 2 = page then a else ⟨#[]⟩ := fun page g0 g1 => by
    rw [rpR_write _ _ _ page g0 (hl page g0 g1), h1 page g0 g1]
  have h3 : ∀ page : Int, 0 ≤ page → page < 2 → rpR (List.replicate 40 (⟨#[]⟩ : ByteArray)) (([(⟨tx % 2, a⟩ : S83)] ++ [⟨(tx + 1) % 2, b⟩]) ++ [⟨(tx + 1) % 2, ⟨#[120]⟩⟩]) page = if (tx + 1) % 2 = page then ⟨#[120]⟩ else if (tx + 1) % 2 = page then b else if tx % 2 = page then a else ⟨#[]⟩ := fun page g0 g1 => by
    rw [rpR_write _ _ _ page g0 (hl page g0 g1), h2 page g0 g1]
  unfold bestR
  rw [h1 0 (by omega) (by omega), h1 1 (by omega) (by omega), h2 0 (by omega) (by omega), h2 1 (by omega) (by omega), h3 0 (by omega) (by omega), h3 1 (by omega) (by omega)]
  by_cases c : tx % 2 = 0
  · have c1 : (tx + 1) % 2 = 1 := by omega
    rw [c, c1, if_pos rfl, if_neg (by decide), if_neg (by decide), if_pos rfl, if_neg (by decide), if_pos rfl]
    refine ⟨pick_left ra (.inl r0), pick_right rb (.inr ?_), pick_left ra (.inl rx)⟩
    rw [ra]
    dsimp only
    omega
  · have c0 : tx % 2 = 1 := by omega
    have c1 : (tx + 1) % 2 = 0 := by omega
    rw [c0, c1, if_neg (by decide), if_pos rfl, if_pos rfl, if_neg (by decide), if_pos rfl, if_neg (by decide)]
    refine ⟨pick_right ra (.inl r0), pick_left rb (.inr ?_), pick_right ra (.inl rx)⟩
    rw [ra]
    dsimp only
    omega
theorem FnBest : laws_FnBest.Pure := by
  intro l _ hl _
  have hl' : l.length ≤ 140737488351232 := by omega
  obtain ⟨tx, root, next, F, ⟨K1, e1⟩, hD⟩ := spec_DrawMeta_draws l hl'
  have ht := hD.tx_
  have hS := hD.small
  have hs : ∀ x ∈ F, x.f1.length ≤ 1048576 := fun x hx => by have := hS.2 x hx; omega
  obtain ⟨a, ea, za⟩ := metaTextR_drawn hD tx (by omega)
  obtain ⟨b, eb, zb⟩ := metaTextR_drawn hD (tx + 1) (by omega)
  obtain ⟨b1, b2, b3⟩ := best_drawn ht ea eb
  obtain ⟨K2, e2⟩ := spec_MetaText_fev tx root next F (by omega) hs
  obtain ⟨K3, e3⟩ := spec_MetaText_fev (tx + 1) root next F (by omega) hs
  rw [ea] at e2
  rw [eb] at e3
  have hd : dnR 40 = (List.replicate 40 (⟨#[]⟩ : ByteArray), [], true) := by
    unfold dnR
    rw [if_pos (by omega)]
    rfl
  have hP : ∀ x ∈ List.replicate 40 (⟨#[]⟩ : ByteArray), x.size ≤ 1048576 := fun x hx => by rw [List.eq_of_mem_replicate hx]; exact Nat.zero_le _
  have hPl : (List.replicate 40 (⟨#[]⟩ : ByteArray)).length = 40 := List.length_replicate
  have d0 := dokR_new 40 (by omega) (by omega)
  have m0 : 0 ≤ tx % 2 := by omega
  have m1 : tx % 2 < 2 := by omega
  have n0 : 0 ≤ (tx + 1) % 2 := by omega
  have n1 : (tx + 1) % 2 < 2 := by omega
  have p1 := impl_MetaPage_eq tx (by omega) (by omega)
  have p2 := impl_MetaPage_eq (tx + 1) (by omega) (by omega)
  have p3 := impl_MetaPage_eq 5 (by omega) (by omega)
  have p4 := impl_MetaPage_eq 6 (by omega) (by omega)
  generalize tx % 2 = p at b1 b2 b3 m0 m1 p1
  generalize (tx + 1) % 2 = q at b2 b3 n0 n1 p2
  generalize List.replicate 40 (⟨#[]⟩ : ByteArray) = P at b1 b2 b3 hd hP hPl d0
  have w1 : wpR P [] p a = (P, [⟨p, a⟩], true) := by
    unfold wpR; rw [if_pos ⟨d0, ⟨m0, by omega⟩, za, by simp⟩]; rfl
  have d1 : dokR P [(⟨p, a⟩ : S83)] = true := by
    have := wpR_keeps d0 p a; rw [w1] at this; exact this
  have w2 : wpR P [(⟨p, a⟩ : S83)] q b = (P, [⟨p, a⟩] ++ [⟨q, b⟩], true) := by
    unfold wpR; rw [if_pos ⟨d1, ⟨n0, by omega⟩, zb, by simp⟩]
  have d2 : dokR P ([(⟨p, a⟩ : S83)] ++ [⟨q, b⟩]) = true := by
    have := wpR_keeps d1 q b; rw [w2] at this; exact this
  have w3 : wpR P ([(⟨p, a⟩ : S83)] ++ [⟨q, b⟩]) q (⟨#[120]⟩ : ByteArray) = (P, ([⟨p, a⟩] ++ [⟨q, b⟩]) ++ [⟨q, ⟨#[120]⟩⟩], true) := by
    unfold wpR; rw [if_pos ⟨d2, ⟨n0, by omega⟩, by decide, by simp⟩]
  have g1 : ∀ x ∈ [(⟨p, a⟩ : S83)], x.f1.size ≤ 1048576 := fun x hx => by
    rw [List.mem_singleton.1 hx]; dsimp only; omega
  have g2 : ∀ x ∈ [(⟨p, a⟩ : S83)] ++ [⟨q, b⟩], x.f1.size ≤ 1048576 := fun x hx => by
    rcases List.mem_append.1 hx with hx | hx
    · exact g1 x hx
    · rw [List.mem_singleton.1 hx]; dsimp only; omega
  have g3 : ∀ x ∈ ([(⟨p, a⟩ : S83)] ++ [⟨q, b⟩]) ++ [⟨q, ⟨#[120]⟩⟩], x.f1.size ≤ 1048576 := fun x hx => by
    rcases List.mem_append.1 hx with hx | hx
    · exact g2 x hx
    · rw [List.mem_singleton.1 hx]; exact (by decide : (⟨#[120]⟩ : ByteArray).size ≤ 1048576)
  obtain ⟨K4, e4⟩ := spec_WritePage_fev P [] p a (by omega) (by simp)
  obtain ⟨K5, e5⟩ := impl_BestMeta_fev P [(⟨p, a⟩ : S83)] (by omega) (by simp) hP g1
  obtain ⟨K6, e6⟩ := spec_WritePage_fev P [(⟨p, a⟩ : S83)] q b (by omega) (by simp)
  obtain ⟨K7, e7⟩ := impl_BestMeta_fev P ([(⟨p, a⟩ : S83)] ++ [⟨q, b⟩]) (by omega) (by simp) hP g2
  obtain ⟨K8, e8⟩ := spec_WritePage_fev P ([(⟨p, a⟩ : S83)] ++ [⟨q, b⟩]) q (⟨#[120]⟩ : ByteArray) (by omega) (by simp)
  obtain ⟨K9, e9⟩ := impl_BestMeta_fev P (([(⟨p, a⟩ : S83)] ++ [⟨q, b⟩]) ++ [⟨q, ⟨#[120]⟩⟩]) (by omega) (by simp) hP g3
  rw [w1] at e4
  rw [b1] at e5
  rw [w2] at e6
  rw [b2] at e7
  rw [w3] at e8
  rw [b3] at e9
  obtain ⟨P', L', ⟨K10, e10⟩, y1, y2, y3, y4⟩ := spec_DrawBestMeta_draws l hl'
  obtain ⟨K11, e11⟩ := impl_BestMeta_fev P' L' (by omega) (by omega) (fun x hx => by have := y3 x hx; omega) (fun x hx => by have := y4 x hx; omega)
  obtain ⟨K12, e12⟩ := spec_BestMeta_fev P' L' (by omega) (by omega) (fun x hx => by have := y3 x hx; omega) (fun x hx => by have := y4 x hx; omega)
  obtain ⟨y5, y6⟩ := bestR_small P' L'
  generalize bestR P' L' = R at y5 y6 e11 e12
  obtain ⟨K13, e13⟩ := laws_sameMeta_same tx root next F (by omega) hs
  obtain ⟨K14, e14⟩ := laws_sameMeta_same (tx + 1) root next F (by omega) hs
  obtain ⟨K15, e15⟩ := laws_sameMeta_same R.1 R.2.1 R.2.2.1 R.2.2.2.1 (by omega) (fun x hx => by have := y6 x hx; omega)
  dsimp only at e1 e2 e3 e4 e5 e6 e7 e8 e9 e10 e11 e12 e13 e14 e15
  refine ⟨K1 + K2 + K3 + K4 + K5 + K6 + K7 + K8 + K9 + K10 + K11 + K12 + K13 + K14 + K15, ?_⟩
  generalize hk : K1 + K2 + K3 + K4 + K5 + K6 + K7 + K8 + K9 + K10 + K11 + K12 + K13 + K14 + K15 = k
  unfold laws_FnBest.f laws_big.f
  rw [Option.bind_some]
  by_cases c : (l.length : Int) > 1048576
  · rw [if_pos (decide_eq_true c)]
  · rw [if_neg (by simp only [decide_eq_true_eq]; exact c), e1 k (by omega), Option.bind_some]
    dsimp only
    rw [spec_DiskNew_eq, hd, Option.bind_some, e2 k (by omega), Option.bind_some, w64 (n := tx + 1) (by omega) (by omega), e3 k (by omega), Option.bind_some]
    dsimp only
    rw [p1, Option.bind_some, e4 k (by omega), Option.bind_some]
    dsimp only
    rw [e5 k (by omega), Option.bind_some, p2, Option.bind_some, e6 k (by omega), Option.bind_some]
    dsimp only
    rw [e7 k (by omega), Option.bind_some]
    dsimp only
    rw [Option.bind_some, e8 k (by omega), Option.bind_some]
    dsimp only
    rw [e9 k (by omega), Option.bind_some, e10 k (by omega), Option.bind_some]
    dsimp only
    rw [e11 k (by omega), Option.bind_some, e12 k (by omega), Option.bind_some, if_pos rfl, e13 k (by omega), Option.bind_some, if_pos rfl, if_pos rfl, e14 k (by omega), Option.bind_some, if_pos rfl, if_pos rfl, Option.bind_some, if_pos rfl, if_pos (beq_self_eq_true _), e15 k (by omega), Option.bind_some, if_pos rfl, p3, Option.bind_some, if_pos (by decide), p4, Option.bind_some]
    rfl
end Go.Proofs.Yteokilffbcbllaa.Pure
