/- The printed form of FnThings answers true at every input that its bounds let in; no other conditions. -/
import Derived.Test.YtkobbccjjglfmaaVFnThingsx12
import Derived.Test.YtkobbccjjglfmaaZFnThingsG
import Derived.Lib.Bytealg
namespace Go.Proofs.Ytkobbccjjglfmaa.VFnThings
set_option linter.unusedVariables false
set_option linter.unusedSimpArgs false
open Go Go.RowKit Go.Proofs.YtkobbccjjglfmaaW.PrintWords Go.Proofs.YtkobbccjjglfmaaW.PrintLast Go.Proofs.YtkobbccjjglfmaaW.PrintMore
theorem w64 {n : Int} (h : -9223372036854775808 ≤ n) (h' : n ≤ 9223372036854775807) : wrap64 n = n := by
  unfold wrap64; omega
theorem ev_some {α : Type} {g : Nat → Option α} {r : α} (h : ∀ k, g k = some r) : Ev g r := ⟨0, fun k _ => h k⟩
theorem ev_succ {α : Type} {g : Nat → Option α} {r : α} (h : ∃ K, ∀ k, K ≤ k → g (k + 1) = some r) : Ev g r := by
  obtain ⟨K, h⟩ := h
  refine ⟨K + 1, fun k hk => ?_⟩
  obtain ⟨m, rfl⟩ : ∃ m, k = m + 1 := ⟨k - 1, by omega⟩
  exact h m (by omega)
/-- One round that goes on. -/
theorem ev_go {α : Type} {g f : Nat → Option α} {r : α} (hf : Ev f r) (h : ∀ k, g (k + 1) = f k) : Ev g r := Ev.step h hf
/-- One round that ends. -/
theorem ev_end {α : Type} {g : Nat → Option α} {r : α} (h : ∀ k, g (k + 1) = some r) : Ev g r := ev_succ ⟨0, fun k _ => h k⟩
/-- One call, then the rest. -/
theorem ev_call {α β : Type} {g : Nat → Option α} {f : Nat → Option β} {c : Nat → β → Option α} {b : β} {r : α} (hf : Ev f b) (hc : Ev (fun k => c k b) r) (h : ∀ k, g k = (f k).bind (c k)) : Ev g r :=
  Ev.congr h (Ev.bind hf hc)
theorem bt_lo (s : ByteArray) (i : Int) : 0 ≤ bt s i := (bt_range s i).1
theorem bt_hi (s : ByteArray) (i : Int) : bt s i ≤ 255 := (bt_range s i).2
theorem bytesOf_drop (s : ByteArray) (i : Nat) (h : i < s.size) : (bytesOf s).drop i = bt s (i : Int) :: (bytesOf s).drop (i + 1) := by
  have hl : i < (bytesOf s).length := by rw [bytesOf_length]; exact h
  rw [List.drop_eq_getElem_cons hl]
  congr 1
  rw [← rd_bytesOf s (i : Int)]
  unfold rd
  rw [Int.toNat_natCast]
  simp [List.getD, hl]
theorem bytesOf_range (s : ByteArray) : ∀ x ∈ bytesOf s, 0 ≤ x ∧ x ≤ 255 := by
  intro x hx
  unfold bytesOf at hx
  obtain ⟨b, _, rfl⟩ := List.mem_map.1 hx
  have := b.toNat_lt
  omega
theorem toList_inj {s t : ByteArray} (h : s.toList = t.toList) : s = t := by
  rw [ByteArray.toList_eq, ByteArray.toList_eq] at h
  exact ByteArray.ext (Array.toList_inj.1 h)
theorem strOfNums_bytesOf (s : ByteArray) : strOfNums (bytesOf s) = s := by
  apply ByteArray.ext
  apply Array.toList_inj.1
  rw [strOfNums_data]
  unfold bytesOf
  rw [List.map_map]
  conv => rhs; rw [← List.map_id s.data.toList]
  apply List.map_congr_left
  intro b _
  simp
theorem bytesOf_strOfNums (xs : List Int) (h : ∀ x ∈ xs, 0 ≤ x ∧ x ≤ 255) : bytesOf (strOfNums xs) = xs := by
  unfold bytesOf
  rw [strOfNums_data, List.map_map]
  conv => rhs; rw [← List.map_id xs]
  apply List.map_congr_left
  intro b hb
  have := h b hb
  simp only [Function.comp, UInt8.toNat_ofNat', id]
  omega
theorem bytesOf_extract (s : ByteArray) (a b : Nat) : bytesOf (s.extract a b) = ((bytesOf s).drop a).take (b - a) := by
  unfold bytesOf
  rw [ByteArray.data_extract, Array.toList_extract, List.extract_eq_take_drop, List.map_take, List.map_drop]
theorem bytesOf_append (s t : ByteArray) : bytesOf (s ++ t) = bytesOf s ++ bytesOf t := by
  unfold bytesOf
  rw [ByteArray.data_append, Array.toList_append, List.map_append]
theorem bytesOf_inj {s t : ByteArray} (h : bytesOf s = bytesOf t) : s = t := by
  rw [← strOfNums_bytesOf s, ← strOfNums_bytesOf t, h]
theorem toList_eq_iff (s t : ByteArray) : s.toList = t.toList ↔ s = t := ⟨toList_inj, fun h => by rw [h]⟩
theorem strOfNums_eq_iff (xs : List Int) (t : ByteArray) (h : ∀ x ∈ xs, 0 ≤ x ∧ x ≤ 255) : strOfNums xs = t ↔ xs = bytesOf t :=
  ⟨fun e => by rw [← e, bytesOf_strOfNums xs h], fun e => by rw [e, strOfNums_bytesOf]⟩
theorem bytesOf_length_drop (s : ByteArray) (i : Nat) : ((bytesOf s).drop i).length = s.size - i := by rw [List.length_drop, bytesOf_length]
def varL (n : Nat) : List Int := if n > 127 then ((n : Int) % 128 + 128) :: varL (n / 128) else [(n : Int)]
termination_by n
decreasing_by omega
theorem varL_big {n : Nat} (h : n > 127) : varL n = ((n : Int) % 128 + 128) :: varL (n / 128) := by rw [varL, if_pos h]
theorem varL_small {n : Nat} (h : ¬ n > 127) : varL n = [(n : Int)] := by rw [varL, if_neg h]
theorem varL_range (n : Nat) : ∀ x ∈ varL n, 0 ≤ x ∧ x ≤ 255 := by
  induction n using Nat.strongRecOn with
  | ind n ih =>
    intro x hx
    by_cases h : n > 127
    · rw [varL_big h] at hx
      rcases List.mem_cons.1 hx with rfl | hx
      · omega
      · exact ih _ (by omega) x hx
    · rw [varL_small h] at hx
      have := List.mem_singleton.1 hx
      omega
theorem varL_length_le (j : Nat) : ∀ n : Nat, n < 128 ^ j → (varL n).length ≤ max j 1 := by
  induction j with
  | zero => intro n hn; simp at hn; subst hn; rw [varL_small (by omega)]; simp
  | succ j ih =>
    intro n hn
    by_cases h : n > 127
    · rw [varL_big h]
      have : n / 128 < 128 ^ j := by rw [Nat.pow_succ] at hn; exact Nat.div_lt_of_lt_mul (by omega)
      have := ih _ this
      cases j with
      | zero => omega
      | succ j => simp only [List.length_cons]; omega
    · rw [varL_small h, List.length_singleton]; omega
def varB (n : Nat) : ByteArray := strOfNums (varL n)
theorem varB_size (n : Nat) : (varB n).size = (varL n).length := strOfNums_size _
theorem varB_size_le (n : Nat) (h : n ≤ 9223372036854775807) : (varB n).size ≤ 10 := by
  rw [varB_size]
  have := varL_length_le 10 n (by omega)
  omega
theorem i64_and127 (x : Int) (h₀ : 0 ≤ x) (h₁ : x ≤ 9223372036854775807) : Go.bits .and .i64 x 127 = x % 128 :=
  Go.bits_mask .i64 63 (by decide) (fun n a b => by rw [IntKind.wrap_i64]; omega) 7 (by decide) x h₀ (by omega)
theorem i64_or_join (i : Nat) (x y : Int) (hx₀ : 0 ≤ x) (hx : x % 2 ^ i = 0) (hx₁ : x ≤ 9223372036854775807) (hy₀ : 0 ≤ y) (hy : y < 2 ^ i) (hy₁ : y ≤ 9223372036854775807) : Go.bits .or .i64 x y = x + y :=
  Go.bits_join .i64 63 (by decide) (fun n a b => by rw [IntKind.wrap_i64]; omega) i x y hx₀ hx (by omega) hy₀ hy (by omega)
theorem i64_or_comm (x y : Int) : Go.bits .or .i64 x y = Go.bits .or .i64 y x := by
  unfold Go.bits
  simp only [BitVec.or_comm]
theorem i64_or128 (x : Int) (h₀ : 0 ≤ x) (h₁ : x < 128) : Go.bits .or .i64 x 128 = x + 128 := by
  rw [i64_or_comm, i64_or_join 7 128 x (by omega) (by decide) (by omega) h₀ (by omega) (by omega)]
  omega
def shortB (s : ByteArray) : ByteArray := varB s.size ++ s
def decL : Nat → List Int → Option (Int × Nat)
  | 0, _ => none
  | _ + 1, [] => none
  | f + 1, b :: t => if b < 128 then some (b, 1) else (decL f t).map fun p => (b - 128 + 128 * p.1, p.2 + 1)
def rvL (at_ : Int) (L : List Int) : Int × Int × Bool :=
  match decL 5 L with
  | none => (0, 0, false)
  | some p => if p.1 ≤ 1000000000 ∧ varL p.1.toNat = L.take p.2 then (p.1, at_ + p.2, true) else (0, 0, false)
def rvR (s : ByteArray) (a : Int) : Int × Int × Bool :=
  if 0 ≤ a ∧ a ≤ (s.size : Int) then rvL a ((bytesOf s).drop a.toNat) else (0, 0, false)
theorem decL_pos (f : Nat) : ∀ (l : List Int) (m : Int) (u : Nat), (∀ x ∈ l, 0 ≤ x ∧ x ≤ 255) → decL f l = some (m, u) → 0 ≤ m ∧ m < 128 ^ f ∧ 1 ≤ u ∧ u ≤ f ∧ u ≤ l.length := by
  induction f with
  | zero => intro l m u _ h; simp [decL] at h
  | succ f ih =>
    intro l m u hr h
    cases l with
    | nil => simp [decL] at h
    | cons b t =>
      have hb := hr b (by simp)
      simp only [decL] at h
      have hp : (1 : Int) ≤ 128 ^ f := by have := Nat.one_le_two_pow (n := 7 * f); rw [Nat.pow_mul] at this; exact_mod_cast this
      by_cases c : b < 128
      · rw [if_pos c] at h
        simp only [Option.some.injEq, Prod.mk.injEq] at h
        obtain ⟨rfl, rfl⟩ := h
        refine ⟨hb.1, ?_, by omega, by omega, by simp⟩
        rw [Int.pow_succ]; omega
      · rw [if_neg c] at h
        obtain ⟨⟨m', u'⟩, h1, h2⟩ := Option.map_eq_some_iff.1 h
        simp only [Prod.mk.injEq] at h2
        obtain ⟨rfl, rfl⟩ := h2
        obtain ⟨g1, g2, g3, g4, g5⟩ := ih t m' u' (fun x hx => hr x (by simp [hx])) h1
        refine ⟨by omega, ?_, by omega, by omega, by simp only [List.length_cons]; omega⟩
        rw [Int.pow_succ]; omega
theorem decL_zero (f : Nat) : ∀ (l : List Int) (m : Int) (u : Nat), (∀ x ∈ l, 0 ≤ x ∧ x ≤ 255) → decL f l = some (m, u) → m = 0 → l.getD (u - 1) 0 = 0 := by
  induction f with
  | zero => intro l m u _ h; simp [decL] at h
  | succ f ih =>
    intro l m u hr h hm
    cases l with
    | nil => simp
    | cons b t =>
      have hb := hr b (by simp)
      simp only [decL] at h
      by_cases c : b < 128
      · rw [if_pos c] at h
        simp only [Option.some.injEq, Prod.mk.injEq] at h
        obtain ⟨rfl, rfl⟩ := h
        simpa using hm
      · rw [if_neg c] at h
        obtain ⟨⟨m', u'⟩, h1, h2⟩ := Option.map_eq_some_iff.1 h
        simp only [Prod.mk.injEq] at h2
        obtain ⟨rfl, rfl⟩ := h2
        have hr' : ∀ x ∈ t, 0 ≤ x ∧ x ≤ 255 := fun x hx => hr x (by simp [hx])
        obtain ⟨g1, g2, g3, g4, g5⟩ := decL_pos f t m' u' hr' h1
        have := ih t m' u' hr' h1 (by omega)
        obtain ⟨v, rfl⟩ : ∃ v, u' = v + 1 := ⟨u' - 1, by omega⟩
        simpa using this
theorem decL_canon (f : Nat) : ∀ (l : List Int) (m : Int) (u : Nat), (∀ x ∈ l, 0 ≤ x ∧ x ≤ 255) → decL f l = some (m, u) → (varL m.toNat = l.take u ↔ ¬ (u > 1 ∧ l.getD (u - 1) 0 = 0)) := by
  induction f with
  | zero => intro l m u _ h; simp [decL] at h
  | succ f ih =>
    intro l m u hr h
    cases l with
    | nil => simp [decL] at h
    | cons b t =>
      have hb := hr b (by simp)
      simp only [decL] at h
      by_cases c : b < 128
      · rw [if_pos c] at h
        simp only [Option.some.injEq, Prod.mk.injEq] at h
        obtain ⟨rfl, rfl⟩ := h
        rw [varL_small (by omega)]
        simp
        omega
      · rw [if_neg c] at h
        obtain ⟨⟨m', u'⟩, h1, h2⟩ := Option.map_eq_some_iff.1 h
        simp only [Prod.mk.injEq] at h2
        obtain ⟨rfl, rfl⟩ := h2
        have hr' : ∀ x ∈ t, 0 ≤ x ∧ x ≤ 255 := fun x hx => hr x (by simp [hx])
        obtain ⟨g1, g2, g3, g4, g5⟩ := decL_pos f t m' u' hr' h1
        have hi := ih t m' u' hr' h1
        have hz := decL_zero f t m' u' hr' h1
        obtain ⟨v, rfl⟩ : ∃ v, u' = v + 1 := ⟨u' - 1, by omega⟩
        have e0 : (b :: t).getD (v + 1 + 1 - 1) 0 = t.getD v 0 := by simp
        rw [e0, List.take_succ_cons]
        simp only [Nat.add_sub_cancel] at hi hz
        by_cases z : m' = 0
        · have := hz z
          rw [varL_small (by omega)]
          constructor
          · intro h
            have := (List.cons.inj h).1
            omega
          · intro h
            exact absurd ⟨by omega, this⟩ h
        · rw [varL_big (by omega), show (b - 128 + 128 * m').toNat / 128 = m'.toNat by omega, show (((b - 128 + 128 * m').toNat : Int) % 128 + 128) = b by omega]
          rw [List.cons_inj_right, hi]
          by_cases hv : v = 0
          · subst hv
            have : t.getD 0 0 ≠ 0 := by
              cases f with
              | zero => simp [decL] at h1
              | succ f =>
                cases t with
                | nil => simp [decL] at h1
                | cons y t =>
                  simp only [decL] at h1
                  by_cases c2 : y < 128
                  · rw [if_pos c2] at h1
                    simp only [Option.some.injEq, Prod.mk.injEq] at h1
                    simp; omega
                  · simp; omega
            constructor
            · intro _ h; exact this h.2
            · intro _ h; omega
          · constructor
            · intro h ⟨_, h2⟩; exact h ⟨by omega, h2⟩
            · intro h ⟨_, h2⟩; exact h ⟨by omega, h2⟩
theorem decL_varL (f : Nat) : ∀ (n : Nat) (t : List Int), n < 128 ^ f → 0 < f → decL f (varL n ++ t) = some ((n : Int), (varL n).length) := by
  induction f with
  | zero => intro n t _ h; omega
  | succ f ih =>
    intro n t hn _
    by_cases c : n > 127
    · rw [varL_big c, List.cons_append]
      simp only [decL]
      rw [if_neg (by omega)]
      have h1 : n / 128 < 128 ^ f := by rw [Nat.pow_succ] at hn; exact Nat.div_lt_of_lt_mul (by omega)
      cases f with
      | zero => simp at hn; omega
      | succ f =>
        rw [ih (n / 128) t h1 (by omega)]
        simp only [Option.map_some, List.length_cons, Option.some.injEq, Prod.mk.injEq, and_true]
        omega
    · rw [varL_small c]
      simp only [List.cons_append, List.nil_append, decL]
      rw [if_pos (by omega)]
      simp
theorem decL_step (b : Int) (t : List Int) (f : Nat) : decL (f + 1) (b :: t) = if b < 128 then some (b, 1) else (decL f t).map fun p => (b - 128 + 128 * p.1, p.2 + 1) := rfl
theorem decL_nil (f : Nat) : decL f [] = none := by cases f <;> rfl
/-- What is left to read behind j bytes that go on. -/
def decAt (L : List Int) (j : Nat) (n : Int) : Prop := decL 5 L = (decL (5 - j) (L.drop j)).map fun p => (n + 128 ^ j * p.1, p.2 + j)
theorem decAt_zero (L : List Int) : decAt L 0 0 := by
  unfold decAt
  simp
theorem decAt_end {L : List Int} {j : Nat} {n b : Int} {t : List Int} (h : decAt L j n) (hj : j < 5) (ht : L.drop j = b :: t) (hb : b < 128) : decL 5 L = some (n + 128 ^ j * b, 1 + j) := by
  unfold decAt at h
  rw [h, ht, show 5 - j = (4 - j) + 1 by omega, decL_step, if_pos hb]
  rfl
theorem decAt_next {L : List Int} {j : Nat} {n b : Int} {t : List Int} (h : decAt L j n) (hj : j < 5) (ht : L.drop j = b :: t) (hb : ¬ b < 128) : decAt L (j + 1) (n + 128 ^ j * (b - 128)) := by
  unfold decAt at h ⊢
  have hd : L.drop (j + 1) = t := by rw [← List.drop_drop, ht]; simp
  rw [h, ht, hd, show 5 - j = (4 - j) + 1 by omega, decL_step, if_neg hb, Option.map_map, show 5 - (j + 1) = 4 - j by omega]
  congr 1
  funext p
  simp only [Function.comp, Prod.mk.injEq]
  refine ⟨?_, by omega⟩
  rw [Int.pow_succ, Int.mul_add, Int.mul_assoc, Int.add_assoc]
theorem decAt_short {L : List Int} {j : Nat} {n : Int} (h : decAt L j n) (ht : L.drop j = []) : decL 5 L = none := by
  unfold decAt at h
  rw [h, ht, decL_nil]
  rfl
theorem decAt_over {L : List Int} {n : Int} (h : decAt L 5 n) : decL 5 L = none := by
  unfold decAt at h
  rw [h]
  rfl
theorem rvL_none {a : Int} {L : List Int} (h : decL 5 L = none) : rvL a L = (0, 0, false) := by unfold rvL; rw [h]
theorem rvL_good {a : Int} {L : List Int} {n : Int} {u : Nat} (h : decL 5 L = some (n, u)) (h1 : n ≤ 1000000000) (h2 : varL n.toNat = L.take u) : rvL a L = (n, a + u, true) := by
  unfold rvL; rw [h]; simp only; rw [if_pos ⟨h1, h2⟩]
theorem rvL_bad {a : Int} {L : List Int} {n : Int} {u : Nat} (h : decL 5 L = some (n, u)) (h1 : ¬ (n ≤ 1000000000 ∧ varL n.toNat = L.take u)) : rvL a L = (0, 0, false) := by
  unfold rvL; rw [h]; simp only; rw [if_neg h1]
theorem rvL_tells {a : Int} {L : List Int} {n nx : Int} (hr : ∀ x ∈ L, 0 ≤ x ∧ x ≤ 255) (h : rvL a L = (n, nx, true)) : ∃ u : Nat, 0 ≤ n ∧ n ≤ 1000000000 ∧ varL n.toNat = L.take u ∧ nx = a + u ∧ 1 ≤ u ∧ u ≤ L.length ∧ u ≤ 5 := by
  unfold rvL at h
  cases h5 : decL 5 L with
  | none => rw [h5] at h; simp at h
  | some p =>
    obtain ⟨m, u⟩ := p
    rw [h5] at h
    simp only at h
    by_cases c : m ≤ 1000000000 ∧ varL m.toNat = L.take u
    · rw [if_pos c] at h
      simp only [Prod.mk.injEq, and_true] at h
      obtain ⟨rfl, rfl⟩ := h
      obtain ⟨g1, g2, g3, g4, g5⟩ := decL_pos 5 L m u hr h5
      exact ⟨u, g1, c.1, c.2, rfl, g3, g5, g4⟩
    · rw [if_neg c] at h
      simp at h
theorem rvL_reads (a : Int) (n : Nat) (t : List Int) (h : n ≤ 1000000000) : rvL a (varL n ++ t) = ((n : Int), a + (varL n).length, true) :=
  rvL_good (decL_varL 5 n t (by omega) (by omega)) (by omega) (by simp)
theorem pow128 (j : Nat) (hj : j < 5) : (128 : Int) ^ j = 1 ∧ j = 0 ∨ (128 : Int) ^ j = 128 ∧ j = 1 ∨ (128 : Int) ^ j = 16384 ∧ j = 2 ∨ (128 : Int) ^ j = 2097152 ∧ j = 3 ∨ (128 : Int) ^ j = 268435456 ∧ j = 4 := by
  have : j = 0 ∨ j = 1 ∨ j = 2 ∨ j = 3 ∨ j = 4 := by omega
  rcases this with rfl | rfl | rfl | rfl | rfl <;> simp
theorem rv_mul (j : Nat) (hj : j < 5) (n b : Int) (hn0 : 0 ≤ n) (hn : n < 128 ^ j) (hb0 : 0 ≤ b) (hb : b ≤ 255) :
    wrap64 (n + wrap64 (Int.tmod (wrap64 b) 128 * 128 ^ j)) = n + 128 ^ j * (b % 128) ∧ 0 ≤ n + 128 ^ j * (b % 128) ∧ n + 128 ^ j * (b % 128) < 128 ^ (j + 1) ∧ n + 128 ^ j * (b % 128) ≤ 34359738368 := by
  rw [w64 (n := b) (by omega) (by omega), Int.tmod_eq_emod_of_nonneg hb0, Int.pow_succ]
  rcases pow128 j hj with ⟨h, _⟩ | ⟨h, _⟩ | ⟨h, _⟩ | ⟨h, _⟩ | ⟨h, _⟩ <;> (rw [h] at hn ⊢; rw [w64 (n := b % 128 * _) (by omega) (by omega), w64 (by omega) (by omega)]; omega)
theorem rv_or (j : Nat) (hj : j < 5) (n b : Int) (hn0 : 0 ≤ n) (hn : n < 128 ^ j) (hb0 : 0 ≤ b) (hb : b ≤ 255) :
    Go.bits .or .i64 n (shl .i64 (Go.bits .and .i64 (wrap64 b) 127) (wrap64 (7 * (j : Int)))) = n + 128 ^ j * (b % 128) := by
  rw [w64 (n := b) (by omega) (by omega), w64 (n := 7 * (j : Int)) (by omega) (by omega), i64_and127 b hb0 (by omega)]
  unfold shl
  rw [IntKind.wrap_i64]
  have e : min (7 * (j : Int)).toNat IntKind.i64.bits = 7 * j := by
    have : IntKind.i64.bits = 64 := rfl
    omega
  rw [e, i64_or_comm]
  have hj' : j = 0 ∨ j = 1 ∨ j = 2 ∨ j = 3 ∨ j = 4 := by omega
  rcases hj' with rfl | rfl | rfl | rfl | rfl
  · simp only [Nat.mul_zero, Int.pow_zero, Int.mul_one, Int.one_mul] at hn ⊢
    rw [show n = 0 by omega, show (b % 128 + 9223372036854775808) % 18446744073709551616 - 9223372036854775808 = b % 128 by omega, i64_or_join 0 (b % 128) 0 (by omega) (by simp) (by omega) (by omega) (by omega) (by omega)]
    omega
  · rw [show (128 : Int) ^ 1 = 128 by decide] at hn ⊢
    rw [show (b % 128 * 2 ^ (7 * 1) + 9223372036854775808) % 18446744073709551616 - 9223372036854775808 = 128 * (b % 128) by omega, i64_or_join 7 (128 * (b % 128)) n (by omega) (by omega) (by omega) (by omega) (by omega) (by omega)]
    omega
  · rw [show (128 : Int) ^ 2 = 16384 by decide] at hn ⊢
    rw [show (b % 128 * 2 ^ (7 * 2) + 9223372036854775808) % 18446744073709551616 - 9223372036854775808 = 16384 * (b % 128) by omega, i64_or_join 14 (16384 * (b % 128)) n (by omega) (by omega) (by omega) (by omega) (by omega) (by omega)]
    omega
  · rw [show (128 : Int) ^ 3 = 2097152 by decide] at hn ⊢
    rw [show (b % 128 * 2 ^ (7 * 3) + 9223372036854775808) % 18446744073709551616 - 9223372036854775808 = 2097152 * (b % 128) by omega, i64_or_join 21 (2097152 * (b % 128)) n (by omega) (by omega) (by omega) (by omega) (by omega) (by omega)]
    omega
  · rw [show (128 : Int) ^ 4 = 268435456 by decide] at hn ⊢
    rw [show (b % 128 * 2 ^ (7 * 4) + 9223372036854775808) % 18446744073709551616 - 9223372036854775808 = 268435456 * (b % 128) by omega, i64_or_join 28 (268435456 * (b % 128)) n (by omega) (by omega) (by omega) (by omega) (by omega) (by omega)]
    omega
theorem rvR_tells (s : ByteArray) (a n nx : Int) (h : rvR s a = (n, nx, true)) : ∃ u : Nat, 0 ≤ a ∧ 0 ≤ n ∧ n ≤ 1000000000 ∧ nx = a + u ∧ 1 ≤ u ∧ u ≤ 5 ∧ nx ≤ (s.size : Int) ∧ varL n.toNat = ((bytesOf s).drop a.toNat).take u := by
  unfold rvR at h
  by_cases c : 0 ≤ a ∧ a ≤ (s.size : Int)
  · rw [if_pos c] at h
    obtain ⟨u, h1, h2, h3, h4, h5, h6, h7⟩ := rvL_tells (fun x hx => bytesOf_range s x (List.mem_of_mem_drop hx)) h
    rw [bytesOf_length_drop] at h6
    exact ⟨u, c.1, h1, h2, h4, h5, h7, by omega, h3⟩
  · rw [if_neg c] at h
    simp at h
def rsR (s : ByteArray) (a : Int) : ByteArray × Int × Bool :=
  if (rvR s a).2.2 = true ∧ (rvR s a).1 ≤ 20000 ∧ (rvR s a).1 ≤ (s.size : Int) - (rvR s a).2.1 then (s.extract (rvR s a).2.1.toNat ((rvR s a).2.1 + (rvR s a).1).toNat, (rvR s a).2.1 + (rvR s a).1, true) else (⟨#[]⟩, 0, false)
theorem extract_size_le (s : ByteArray) (a b : Nat) : (s.extract a b).size ≤ s.size := by
  have : (bytesOf (s.extract a b)).length ≤ s.size := by
    rw [bytesOf_extract, List.length_take, bytesOf_length_drop]; omega
  rwa [bytesOf_length] at this
section
variable {α β : Type}
theorem drop_rdOf (d : α) (xs : List α) (i : Nat) (h : i < xs.length) : xs.drop i = rdOf d xs (i : Int) :: xs.drop (i + 1) := by
  rw [List.drop_eq_getElem_cons h]
  congr 1
  unfold rdOf
  rw [Int.toNat_natCast]
  simp [List.getD, h]
theorem rdOf_get (d : α) (xs : List α) (i : Nat) (h : i < xs.length) : rdOf d xs (i : Int) = xs[i] := by
  unfold rdOf
  rw [Int.toNat_natCast]
  simp [List.getD, h]
theorem rd_get (xs : List Int) (i : Nat) (h : i < xs.length) : rd xs (i : Int) = xs[i] := by
  unfold rd
  rw [Int.toNat_natCast]
  simp [List.getD, h]
theorem rdOf_mem (d : α) (xs : List α) (i : Nat) (h : i < xs.length) : rdOf d xs (i : Int) ∈ xs := by
  rw [rdOf_get d xs i h]; exact List.getElem_mem h
theorem rd_mem (xs : List Int) (i : Nat) (h : i < xs.length) : rd xs (i : Int) ∈ xs := by
  rw [rd_get xs i h]; exact List.getElem_mem h
theorem rdOf_mid (d : α) (pre t : List α) (x : α) (i : Nat) (h : pre.length = i) : rdOf d (pre ++ x :: t) (i : Int) = x := by
  subst h
  unfold rdOf
  rw [Int.toNat_natCast]
  simp [List.getD]
end
theorem i64_and_range (y m : Int) (h0 : 0 ≤ m) (h1 : m ≤ 9223372036854775807) : 0 ≤ Go.bits .and .i64 y m ∧ Go.bits .and .i64 y m ≤ m := by
  unfold Go.bits
  simp only
  rw [IntKind.wrap_i64, BitVec.toNat_and]
  have h2 : (2 : Nat) ^ IntKind.i64.bits = 18446744073709551616 := by decide
  have h3 : (BitVec.ofInt IntKind.i64.bits m).toNat = m.toNat := by
    rw [BitVec.toNat_ofInt, h2]; omega
  rw [h3]
  have := Nat.and_le_right (n := (BitVec.ofInt IntKind.i64.bits y).toNat) (m := m.toNat)
  omega
/-- Each key ends, with a figure nought behind it, ahead of all later ones. -/
def Asc (l : List ByteArray) : Prop := ∀ i j : Nat, (hij : i < j) → (hj : j < l.length) → Op.bytesLess ((l[i]'(by omega)).toList ++ [48]) (l[j]).toList = true
theorem Asc.nil : Asc [] := fun i j _ hj => by simp at hj
def lettersL (l : List Int) : Bool := l.all fun b => decide (97 ≤ b ∧ b ≤ 122)
def wordR (s : ByteArray) (most : Int) : Bool := lettersL (bytesOf s) && decide (1 ≤ (s.size : Int) ∧ (s.size : Int) ≤ most)
theorem lettersL_cons (b : Int) (t : List Int) : lettersL (b :: t) = (decide (97 ≤ b ∧ b ≤ 122) && lettersL t) := rfl
theorem idxP_step {α : Type} (p : α → Bool) (x : α) (t : List α) (i : Int) : idxP p (x :: t) i = if p x = true then i else idxP p t (i + 1) := rfl
theorem idxP_append {α : Type} (p : α → Bool) (l m : List α) : ∀ i : Int, idxP p (l ++ m) i = if l.any p = true then idxP p l i else idxP p m (i + l.length) := by
  induction l with
  | nil => intro i; simp
  | cons x t ih =>
    intro i
    rw [List.cons_append, idxP_step, idxP_step, List.any_cons]
    by_cases c : p x = true
    · rw [if_pos c, c]; simp
    · rw [if_neg c, ih (i + 1), if_neg c]
      have : p x = false := by simpa using c
      rw [this, Bool.false_or]
      have e : i + 1 + (t.length : Int) = i + ((x :: t).length : Int) := by simp only [List.length_cons]; omega
      rw [e]
theorem idxP_lt {α : Type} (p : α → Bool) (l : List α) : ∀ i : Int, idxP p l i < i + l.length ∨ idxP p l i = -1 := by
  induction l with
  | nil => intro i; exact .inr rfl
  | cons x t ih =>
    intro i
    rw [idxP_step]
    by_cases c : p x = true
    · rw [if_pos c]; simp only [List.length_cons]; omega
    · rw [if_neg c]
      have := ih (i + 1)
      simp only [List.length_cons]
      omega
/-- The first place at which p holds is that of x itself, if and only if p holds of nothing ahead. -/
theorem idxP_own {α : Type} (p : α → Bool) (pre t : List α) (x : α) (hx : p x = true) : idxP p (pre ++ x :: t) 0 = (pre.length : Int) ↔ pre.any p = false := by
  rw [idxP_append]
  by_cases c : pre.any p = true
  · rw [if_pos c, c]
    have := idxP_lt p pre 0
    constructor
    · intro h; omega
    · intro h; cases h
  · rw [if_neg c, idxP_step, if_pos hx]
    have : pre.any p = false := by simpa using c
    rw [this]
    simp
theorem in_dec (x a b : Int) : (if x ≥ a then some (decide (x ≤ b)) else some false) = some (decide (a ≤ x ∧ x ≤ b)) := by
  by_cases c : x ≥ a
  · rw [if_pos c]
    congr 1
    by_cases d : x ≤ b
    · rw [decide_eq_true d, decide_eq_true ⟨c, d⟩]
    · rw [decide_eq_false d, decide_eq_false (fun h => d h.2)]
  · rw [if_neg c, decide_eq_false (fun h => c h.1)]
def noZero (s : ByteArray) : Bool := (bytesOf s).all fun b => decide (b ≠ 0)
def valueOkR (kind num : Int) (text : ByteArray) : Bool :=
  if kind = 1 then decide (0 ≤ num ∧ num ≤ 999999) && decide (text.size = 0) else decide (kind = 2) && decide (num = 0) && decide ((text.size : Int) ≤ 6) && noZero text
theorem toList_empty_iff (s : ByteArray) : (s.toList == ([] : List UInt8)) = decide (s.size = 0) := by
  rw [ByteArray.toList_eq]
  have : s.data.toList.length = s.size := data_length s
  cases h : s.data.toList with
  | nil => rw [h] at this; simp at this; rw [← this]; rfl
  | cons a t => rw [h] at this; simp at this; rw [decide_eq_false (by omega)]; rfl
theorem indexByte_lo (l : List UInt8) (c : UInt8) : Lib.indexByte l c = -1 ∨ 0 ≤ Lib.indexByte l c := by
  induction l with
  | nil => exact .inl rfl
  | cons b t ih =>
    unfold Lib.indexByte
    split
    · exact .inr (by omega)
    · split
      · exact .inl rfl
      · rename_i h
        simp only [beq_iff_eq] at h
        exact .inr (by omega)
theorem indexByte_zero (l : List UInt8) : decide (0 ≤ Lib.indexByte l 0) = !((l.map fun b => (b.toNat : Int)).all fun b => decide (b ≠ 0)) := by
  induction l with
  | nil => rfl
  | cons b t ih =>
    unfold Lib.indexByte
    rw [List.map_cons, List.all_cons]
    by_cases c : b = 0
    · subst c; rfl
    · have h1 : (b == 0) = false := by simp [c]
      have h2 : ((b.toNat : Int) ≠ 0) := fun h => c (UInt8.toNat_inj.1 (by show b.toNat = 0; omega))
      rw [h1, decide_eq_true h2, Bool.true_and, ← ih]
      simp only [Bool.false_eq_true, if_false]
      have := indexByte_lo t 0
      split
      · rename_i h
        rw [beq_iff_eq] at h
        rw [h]
      · rename_i h
        rw [beq_iff_eq] at h
        rw [decide_eq_true (by omega), decide_eq_true (by omega)]
theorem noZero_index (s : ByteArray) : decide (0 ≤ Lib.indexByte s.data.toList 0) = !noZero s := indexByte_zero _
def Took (s : ByteArray) (a b : Int) (x : ByteArray) : Prop := 0 ≤ a ∧ b ≤ (s.size : Int) ∧ b = a + (x.size : Int) ∧ (bytesOf s).drop a.toNat = bytesOf x ++ (bytesOf s).drop b.toNat
theorem Took.nil (s : ByteArray) (a : Int) (h : 0 ≤ a ∧ a ≤ (s.size : Int)) : Took s a a ⟨#[]⟩ := ⟨h.1, h.2, by show a = a + 0; omega, rfl⟩
theorem Took.trans {s : ByteArray} {a b c : Int} {x y : ByteArray} (h : Took s a b x) (g : Took s b c y) : Took s a c (x ++ y) := by
  obtain ⟨h1, h2, h3, h4⟩ := h
  obtain ⟨g1, g2, g3, g4⟩ := g
  refine ⟨h1, g2, by rw [ByteArray.size_append]; omega, ?_⟩
  rw [h4, g4, bytesOf_append, List.append_assoc]
theorem Took.whole {s : ByteArray} {b : Int} {x : ByteArray} (h : Took s 0 b x) (hb : b = (s.size : Int)) : x = s := by
  obtain ⟨h1, h2, h3, h4⟩ := h
  have e : (bytesOf s).drop b.toNat = [] := List.drop_eq_nil_of_le (by rw [bytesOf_length]; omega)
  rw [e, List.append_nil] at h4
  exact (bytesOf_inj h4).symm
theorem Took.all (s x t : ByteArray) : Took (s ++ x ++ t) (s.size : Int) ((s.size : Int) + (x.size : Int)) x := by
  refine ⟨by omega, by rw [ByteArray.size_append, ByteArray.size_append]; omega, rfl, ?_⟩
  have e1 : (bytesOf s).length = s.size := bytesOf_length s
  have e2 : (bytesOf x).length = x.size := bytesOf_length x
  have e3 : ((s.size : Int) + (x.size : Int)).toNat = s.size + x.size := by omega
  have l1 : ((bytesOf s) ++ (bytesOf x ++ bytesOf t)).drop s.size = bytesOf x ++ bytesOf t := List.drop_left' e1
  have l2 : ((bytesOf s) ++ (bytesOf x ++ bytesOf t)).drop (s.size + x.size) = bytesOf t := by rw [← List.drop_drop, l1]; exact List.drop_left' e2
  rw [bytesOf_append, bytesOf_append, List.append_assoc, Int.toNat_natCast, e3, l1, l2]
theorem Took.extract {s : ByteArray} {a b : Int} {x : ByteArray} (h : Took s a b x) : s.extract a.toNat b.toNat = x := by
  obtain ⟨h1, h2, h3, h4⟩ := h
  apply bytesOf_inj
  rw [bytesOf_extract, h4, show b.toNat - a.toNat = (bytesOf x).length by rw [bytesOf_length]; omega, List.take_left']
  rfl
theorem Took.of_extract (s : ByteArray) (a b : Int) (h0 : 0 ≤ a) (h1 : a ≤ b) (h2 : b ≤ (s.size : Int)) : Took s a b (s.extract a.toNat b.toNat) := by
  have hz : (s.extract a.toNat b.toNat).size = b.toNat - a.toNat := by
    rw [← bytesOf_length, bytesOf_extract, List.length_take, bytesOf_length_drop]; omega
  refine ⟨h0, h2, by rw [hz]; omega, ?_⟩
  have e : (bytesOf s).drop b.toNat = ((bytesOf s).drop a.toNat).drop (b.toNat - a.toNat) := by rw [List.drop_drop]; congr 1; omega
  rw [bytesOf_extract, e, List.take_append_drop]
theorem bytesOf_varB (n : Nat) : bytesOf (varB n) = varL n := bytesOf_strOfNums _ (varL_range n)
theorem rvR_took {s : ByteArray} {a n nx : Int} (h : rvR s a = (n, nx, true)) : Took s a nx (varB n.toNat) ∧ 0 ≤ n ∧ n ≤ 1000000000 := by
  obtain ⟨u, h1, h2, h3, h4, h5, h6, h7, h8⟩ := rvR_tells s a n nx h
  have hl : (((bytesOf s).drop a.toNat).take u).length = u := by rw [List.length_take, bytesOf_length_drop]; omega
  refine ⟨⟨h1, h7, ?_, ?_⟩, h2, h3⟩
  · rw [varB_size, h8, hl]; exact h4
  · rw [bytesOf_varB, h8, h4, show (a + (u : Int)).toNat = a.toNat + u by omega, ← List.drop_drop, List.take_append_drop]
theorem rvR_reads {s : ByteArray} {a b : Int} {n : Nat} (h : Took s a b (varB n)) (hn : n ≤ 1000000000) : rvR s a = ((n : Int), b, true) := by
  obtain ⟨h1, h2, h3, h4⟩ := h
  unfold rvR
  rw [if_pos ⟨h1, by omega⟩, h4, bytesOf_varB, rvL_reads a n _ hn, h3, varB_size]
theorem rsR_took {s t : ByteArray} {a nx : Int} (h : rsR s a = (t, nx, true)) : Took s a nx (shortB t) ∧ t.size ≤ 20000 := by
  unfold rsR at h
  rcases hr : rvR s a with ⟨n, b, ok⟩
  rw [hr] at h
  dsimp only at h
  by_cases c : ok = true ∧ n ≤ 20000 ∧ n ≤ (s.size : Int) - b
  · rw [if_pos c] at h
    obtain ⟨rfl, c2, c3⟩ := c
    obtain ⟨h1, h2, h3⟩ := rvR_took hr
    have hb : 0 ≤ b := by have := h1.1; have := h1.2.2.1; omega
    have ht := Took.of_extract s b (b + n) hb (by omega) (by omega)
    simp only [Prod.mk.injEq, and_true] at h
    obtain ⟨e1, e2⟩ := h
    rw [e1, e2] at ht
    have hz : (t.size : Int) = n := by have := ht.2.2.1; omega
    refine ⟨?_, by omega⟩
    have := h1.trans ht
    unfold shortB
    rwa [show n.toNat = t.size by omega] at this
  · rw [if_neg c] at h
    simp at h
theorem Took.split {s x y : ByteArray} {a c : Int} (h : Took s a c (x ++ y)) : Took s a (a + (x.size : Int)) x ∧ Took s (a + (x.size : Int)) c y := by
  obtain ⟨h1, h2, h3, h4⟩ := h
  rw [ByteArray.size_append] at h3
  rw [bytesOf_append, List.append_assoc] at h4
  have e : (bytesOf s).drop (a + (x.size : Int)).toNat = bytesOf y ++ (bytesOf s).drop c.toNat := by
    rw [show (a + (x.size : Int)).toNat = a.toNat + x.size by omega, ← List.drop_drop, h4, ← bytesOf_length x, List.drop_left']
    rfl
  exact ⟨⟨h1, by omega, rfl, by rw [e]; exact h4⟩, ⟨by omega, h2, by omega, e⟩⟩
theorem rsR_reads {s t : ByteArray} {a b : Int} (h : Took s a b (shortB t)) (ht : t.size ≤ 20000) : rsR s a = (t, b, true) := by
  obtain ⟨g1, g2⟩ := Took.split (x := varB t.size) (y := t) h
  have hr := rvR_reads g1 (by omega)
  unfold rsR
  rw [hr]
  dsimp only
  have hz := g2.2.2.1
  have hb := g2.2.1
  rw [if_pos ⟨rfl, by omega, by omega⟩, ← hz, g2.extract]
/-- A number is read, at most so great; what is bad stays bad. -/
def numR (s : ByteArray) (most at_ : Int) (bad : Bool) : Int × Int × Bool :=
  if bad = false ∧ (rvR s at_).2.2 = true ∧ (rvR s at_).1 ≤ most then ((rvR s at_).1, (rvR s at_).2.1, false) else (0, at_, true)
def txtR (s : ByteArray) (at_ : Int) (bad : Bool) : ByteArray × Int × Bool :=
  if bad = false ∧ (rsR s at_).2.2 = true then ((rsR s at_).1, (rsR s at_).2.1, false) else (⟨#[]⟩, at_, true)
theorem numR_bad (s : ByteArray) (most at_ : Int) : numR s most at_ true = (0, at_, true) := by unfold numR; rw [if_neg (by simp)]
theorem txtR_bad (s : ByteArray) (at_ : Int) : txtR s at_ true = (⟨#[]⟩, at_, true) := by unfold txtR; rw [if_neg (by simp)]
theorem txtR_no {s : ByteArray} {a : Int} {bad : Bool} (h : (txtR s a bad).2.2 = true) : txtR s a bad = (⟨#[]⟩, a, true) := by
  unfold txtR at h ⊢
  split
  · rename_i c; rw [if_pos c] at h; cases h
  · rfl
theorem numR_took {s : ByteArray} {most a n b : Int} {bad : Bool} (h : numR s most a bad = (n, b, false)) : bad = false ∧ Took s a b (varB n.toNat) ∧ 0 ≤ n ∧ n ≤ most ∧ n ≤ 1000000000 := by
  unfold numR at h
  rcases hr : rvR s a with ⟨m, c, ok⟩
  rw [hr] at h
  dsimp only at h
  split at h
  · rename_i q
    obtain ⟨q1, rfl, q3⟩ := q
    simp only [Prod.mk.injEq, and_true] at h
    obtain ⟨rfl, rfl⟩ := h
    obtain ⟨h1, h2, h3⟩ := rvR_took hr
    exact ⟨q1, h1, h2, q3, h3⟩
  · simp at h
theorem numR_reads {s : ByteArray} {most a b : Int} {n : Nat} (h : Took s a b (varB n)) (hn : n ≤ 1000000000) (hm : (n : Int) ≤ most) : numR s most a false = ((n : Int), b, false) := by
  unfold numR
  rw [rvR_reads h hn, if_pos ⟨rfl, rfl, hm⟩]
theorem txtR_took {s t : ByteArray} {a b : Int} {bad : Bool} (h : txtR s a bad = (t, b, false)) : bad = false ∧ Took s a b (shortB t) ∧ t.size ≤ 20000 := by
  unfold txtR at h
  rcases hr : rsR s a with ⟨m, c, ok⟩
  rw [hr] at h
  dsimp only at h
  split at h
  · rename_i q
    obtain ⟨q1, rfl⟩ := q
    simp only [Prod.mk.injEq, and_true] at h
    obtain ⟨rfl, rfl⟩ := h
    obtain ⟨h1, h2⟩ := rsR_took hr
    exact ⟨q1, h1, h2⟩
  · simp at h
theorem txtR_reads {s t : ByteArray} {a b : Int} (h : Took s a b (shortB t)) (ht : t.size ≤ 20000) : txtR s a false = (t, b, false) := by
  unfold txtR
  rw [rsR_reads h ht, if_pos ⟨rfl, rfl⟩]
theorem Took.byte (s : ByteArray) (a : Int) (h0 : 0 ≤ a) (h1 : a < (s.size : Int)) : Took s a (a + 1) (strOfNums [bt s a]) := by
  obtain ⟨i, rfl⟩ := Int.eq_ofNat_of_zero_le h0
  refine ⟨h0, by omega, by rw [strOfNums_size]; rfl, ?_⟩
  have hb := bt_range s (i : Int)
  rw [bytesOf_strOfNums [bt s (i : Int)] (by intro x hx; rw [List.mem_singleton.1 hx]; exact hb), Int.toNat_natCast, bytesOf_drop s i (by omega), show ((i : Int) + 1).toNat = i + 1 by omega]
  rfl
theorem Took.byte_tells {s : ByteArray} {a b n : Int} (hn : 0 ≤ n ∧ n ≤ 255) (h : Took s a b (strOfNums [n])) : b = a + 1 ∧ a < (s.size : Int) ∧ bt s a = n := by
  obtain ⟨h1, h2, h3, h4⟩ := h
  rw [strOfNums_size] at h3
  have h3' : b = a + 1 := h3
  obtain ⟨i, rfl⟩ := Int.eq_ofNat_of_zero_le h1
  rw [bytesOf_strOfNums [n] (by intro x hx; rw [List.mem_singleton.1 hx]; exact hn), Int.toNat_natCast, bytesOf_drop s i (by omega)] at h4
  exact ⟨h3', by omega, (List.cons.inj h4).1⟩
theorem Took.self (s : ByteArray) : Took s 0 (s.size : Int) s := by
  have := Took.all ⟨#[]⟩ s ⟨#[]⟩
  rw [show (⟨#[]⟩ : ByteArray) ++ s = s from ByteArray.empty_append, show s ++ (⟨#[]⟩ : ByteArray) = s from ByteArray.append_empty] at this
  have z : (⟨#[]⟩ : ByteArray).size = 0 := rfl
  rw [z] at this
  simpa using this
theorem txtR_size (s : ByteArray) (a : Int) (bad : Bool) : (txtR s a bad).1.size ≤ 20000 := by
  rcases h : txtR s a bad with ⟨t, b, ok⟩
  cases ok with
  | false => exact (txtR_took h).2.2
  | true =>
    have e := txtR_no (by rw [h] : (txtR s a bad).2.2 = true)
    rw [h] at e
    cases e
    exact Nat.zero_le _
/-- A loop that goes on while p holds of the place. -/
theorem ev_every {α : Type} (g : Nat → Nat → Option α) (p : Nat → Bool) (n : Nat) {r e : α} (h0 : Ev (fun k => g k n) r) (h1 : ∀ i, i < n → p i = true → ∀ res, Ev (fun k => g k (i + 1)) res → Ev (fun k => g k i) res) (h2 : ∀ i, i < n → p i = false → Ev (fun k => g k i) e) : ∀ d i : Nat, i + d = n → Ev (fun k => g k i) (if (List.range' i d).all p = true then r else e) := by
  intro d
  induction d with
  | zero =>
    intro i hi
    have : i = n := by omega
    subst this
    exact h0
  | succ d ih =>
    intro i hi
    rw [List.range'_succ, List.all_cons]
    cases hp : p i with
    | false => exact h2 i (by omega) hp
    | true => exact h1 i (by omega) hp _ (ih (i + 1) (by omega))
theorem ite_tf (b : Bool) : (if b = true then true else false) = b := by cases b <;> rfl
theorem range_all_iff (n : Nat) (p : Nat → Bool) : (List.range' 0 n).all p = true ↔ ∀ i, i < n → p i = true := by
  rw [List.all_eq_true]
  constructor
  · intro h i hi; exact h i (by rw [List.mem_range'_1]; omega)
  · intro h i hi; exact h i (by rw [List.mem_range'_1] at hi; omega)
theorem shortB_size_upto (s : ByteArray) (m : Nat) (h : s.size ≤ m) (hm : m ≤ 1000000) : (shortB s).size ≤ 10 + m := by
  unfold shortB
  rw [ByteArray.size_append]
  have := varB_size_le s.size (by omega)
  omega
def faR (l : List S123) (name : ByteArray) : Int := idxP (fun x : S123 => x.f0.toList == name.toList) l 0
/-- A field that is right but for the others. -/
def fieldOkR (x : S123) : Bool := wordR x.f0 4 && decide (1 ≤ x.f1 ∧ x.f1 ≤ 2)
def soL (n : Int) : List S123 → List S123 → Bool
  | _, [] => decide (1 ≤ n ∧ n ≤ 3)
  | pre, x :: t => if fieldOkR x = true then (if pre.any (fun y => y.f0.toList == x.f0.toList) = true then false else soL n (pre ++ [x]) t) else false
def soR (l : List S123) : Bool := soL (l.length : Int) [] l
theorem soL_tells (n : Int) (rest : List S123) : ∀ pre, soL n pre rest = true → 1 ≤ n ∧ n ≤ 3 ∧ ∀ x ∈ rest, fieldOkR x = true := by
  induction rest with
  | nil => intro pre h; unfold soL at h; have := of_decide_eq_true h; exact ⟨this.1, this.2, fun x hx => by cases hx⟩
  | cons x t ih =>
    intro pre h
    unfold soL at h
    split at h
    · rename_i c
      split at h
      · cases h
      · obtain ⟨h1, h2, h3⟩ := ih _ h
        refine ⟨h1, h2, fun y hy => ?_⟩
        rcases List.mem_cons.1 hy with rfl | hy
        · exact c
        · exact h3 y hy
    · cases h
theorem soR_tells (l : List S123) (h : soR l = true) : 1 ≤ l.length ∧ l.length ≤ 3 ∧ ∀ x ∈ l, fieldOkR x = true := by
  obtain ⟨h1, h2, h3⟩ := soL_tells _ l [] h
  exact ⟨by omega, by omega, h3⟩
theorem fieldOkR_tells (x : S123) (h : fieldOkR x = true) : 1 ≤ x.f0.size ∧ x.f0.size ≤ 4 ∧ 1 ≤ x.f1 ∧ x.f1 ≤ 2 := by
  unfold fieldOkR wordR at h
  simp only [Bool.and_eq_true, decide_eq_true_eq] at h
  omega
def schemaB : List S123 → ByteArray
  | [] => ⟨#[]⟩
  | x :: t => (strOfNums [x.f1 % 256] ++ shortB x.f0) ++ schemaB t
def schemaTextR (l : List S123) : ByteArray × Bool := if soR l = true then (schemaB l, true) else (⟨#[]⟩, false)
theorem shortB_size_le (s : ByteArray) (h : s.size ≤ 140737488351232) : (shortB s).size ≤ 10 + s.size := by
  unfold shortB
  rw [ByteArray.size_append]
  have := varB_size_le s.size (by omega)
  omega
/-- A schema is read, at most so many fields. -/
def schP (t : ByteArray) : Nat → Int → List S123 → Option (List S123)
  | 0, a, out => if a < (t.size : Int) then none else some out
  | d + 1, a, out => if a < (t.size : Int) then (if (rsR t (a + 1)).2.2 = true then schP t d (rsR t (a + 1)).2.1 (out ++ [⟨(rsR t (a + 1)).1, bt t a⟩]) else none) else some out
theorem schP_took (t : ByteArray) (d : Nat) : ∀ (a : Int) (out out' : List S123), 0 ≤ a ∧ a ≤ (t.size : Int) → schP t d a out = some out' → ∃ l, out' = out ++ l ∧ Took t a (t.size : Int) (schemaB l) := by
  have stop : ∀ (a : Int) (out out' : List S123), 0 ≤ a ∧ a ≤ (t.size : Int) → ¬ a < (t.size : Int) → some out = some out' → ∃ l, out' = out ++ l ∧ Took t a (t.size : Int) (schemaB l) := by
    intro a out out' ha c h
    have e : a = (t.size : Int) := by omega
    refine ⟨[], by rw [← Option.some.inj h]; simp, ?_⟩
    rw [← e]
    exact Took.nil t a ha
  induction d with
  | zero =>
    intro a out out' ha h
    unfold schP at h
    split at h
    · cases h
    · exact stop a out out' ha (by assumption) h
  | succ d ih =>
    intro a out out' ha h
    unfold schP at h
    split at h
    · rename_i c
      rcases hr : rsR t (a + 1) with ⟨s, b, ok⟩
      rw [hr] at h
      cases ok with
      | false => rw [if_neg (by simp)] at h; cases h
      | true =>
        rw [if_pos rfl] at h
        obtain ⟨g1, g2⟩ := rsR_took hr
        obtain ⟨l, e, g3⟩ := ih b _ out' ⟨by have := g1.1; have := g1.2.2.1; omega, g1.2.1⟩ h
        refine ⟨⟨s, bt t a⟩ :: l, by rw [e]; simp, ?_⟩
        have := ((Took.byte t a ha.1 c).trans g1).trans g3
        unfold schemaB
        have hb := bt_range t a
        rw [show (⟨s, bt t a⟩ : S123).f1 % 256 = bt t a by show bt t a % 256 = bt t a; omega]
        exact this
    · exact stop a out out' ha (by assumption) h
theorem schP_reads (t : ByteArray) (l : List S123) : ∀ (d : Nat) (a : Int) (out : List S123), l.length ≤ d → (∀ x ∈ l, x.f0.size ≤ 4 ∧ 1 ≤ x.f1 ∧ x.f1 ≤ 2) → Took t a (t.size : Int) (schemaB l) → schP t d a out = some (out ++ l) := by
  induction l with
  | nil =>
    intro d a out _ _ ht
    have hb : (t.size : Int) = a := by have := ht.2.2.1; change _ = a + 0 at this; omega
    cases d <;> simp [schP, hb]
  | cons x l ih =>
    intro d a out hd h ht
    unfold schemaB at ht
    obtain ⟨t1, t2⟩ := Took.split ht
    obtain ⟨t3, t4⟩ := Took.split t1
    obtain ⟨h1, h2, h3⟩ := h x (by simp)
    rw [show x.f1 % 256 = x.f1 by omega] at t1 t2 t3 t4
    obtain ⟨e1, e2, e3⟩ := Took.byte_tells ⟨by omega, by omega⟩ t3
    rw [e1] at t4
    obtain ⟨d, rfl⟩ : ∃ m, d = m + 1 := ⟨d - 1, by rw [List.length_cons] at hd; omega⟩
    unfold schP
    rw [if_pos e2, rsR_reads t4 (by omega), if_pos rfl, e3, ih d _ _ (by rw [List.length_cons] at hd; omega) (fun y hy => h y (by simp [hy])) t2]
    simp
/-- The same, where what is bad stays bad. -/
def schS (t : ByteArray) : Nat → Int → Bool → List S123 → Int × Bool × List S123
  | 0, a, bad, out => (a, bad, out)
  | d + 1, a, bad, out => if a < (t.size : Int) ∧ bad = false then schS t d (txtR t (a + 1) false).2.1 (txtR t (a + 1) false).2.2 (out ++ [⟨(txtR t (a + 1) false).1, bt t a⟩]) else (a, bad, out)
theorem schS_reads (t : ByteArray) (l : List S123) : ∀ (d : Nat) (a : Int) (out : List S123), l.length ≤ d → (∀ x ∈ l, x.f0.size ≤ 4 ∧ 1 ≤ x.f1 ∧ x.f1 ≤ 2) → Took t a (t.size : Int) (schemaB l) → schS t d a false out = ((t.size : Int), false, out ++ l) := by
  induction l with
  | nil =>
    intro d a out _ _ ht
    have hb : (t.size : Int) = a := by have := ht.2.2.1; change _ = a + 0 at this; omega
    cases d <;> simp [schS, hb]
  | cons x l ih =>
    intro d a out hd h ht
    unfold schemaB at ht
    obtain ⟨t1, t2⟩ := Took.split ht
    obtain ⟨t3, t4⟩ := Took.split t1
    obtain ⟨h1, h2, h3⟩ := h x (by simp)
    rw [show x.f1 % 256 = x.f1 by omega] at t1 t2 t3 t4
    obtain ⟨e1, e2, e3⟩ := Took.byte_tells ⟨by omega, by omega⟩ t3
    rw [e1] at t4
    obtain ⟨d, rfl⟩ : ∃ m, d = m + 1 := ⟨d - 1, by rw [List.length_cons] at hd; omega⟩
    unfold schS
    rw [if_pos ⟨e2, rfl⟩, txtR_reads t4 (by omega), e3]
    dsimp only
    rw [ih d _ _ (by rw [List.length_cons] at hd; omega) (fun y hy => h y (by simp [hy])) t2]
    simp
theorem schemaTextR_tells {l : List S123} {t : ByteArray} (h : schemaTextR l = (t, true)) : soR l = true ∧ schemaB l = t := by
  unfold schemaTextR at h
  split at h
  · simp only [Prod.mk.injEq, and_true] at h; exact ⟨by assumption, h⟩
  · simp at h
def readSchemaR (t : ByteArray) : List S123 × Bool :=
  if (schS t 4 0 false []).2.1 = false ∧ schemaTextR (schS t 4 0 false []).2.2 = (t, true) then ((schS t 4 0 false []).2.2, true) else ([], false)
theorem soR_small {l : List S123} (h : soR l = true) : ∀ x ∈ l, x.f0.size ≤ 4 ∧ 1 ≤ x.f1 ∧ x.f1 ≤ 2 := by
  obtain ⟨h1, h2, h3⟩ := soR_tells l h
  intro x hx
  have := fieldOkR_tells x (h3 x hx)
  omega
theorem readSchemaR_text {l : List S123} {t : ByteArray} (h : schemaTextR l = (t, true)) : readSchemaR t = (l, true) := by
  obtain ⟨h1, rfl⟩ := schemaTextR_tells h
  obtain ⟨g1, g2, g3⟩ := soR_tells l h1
  have := schS_reads (schemaB l) l 4 0 [] (by omega) (soR_small h1) (Took.self _)
  unfold readSchemaR
  rw [this]
  dsimp only
  rw [List.nil_append, if_pos ⟨rfl, h⟩]
theorem readSchemaR_tells {l : List S123} {t : ByteArray} (h : readSchemaR t = (l, true)) : schemaTextR l = (t, true) := by
  unfold readSchemaR at h
  split at h
  · rename_i c
    simp only [Prod.mk.injEq, and_true] at h
    rw [← h]; exact c.2
  · simp at h
theorem readSchemaR_no {l : List S123} {t : ByteArray} (h : readSchemaR t = (l, false)) : l = [] := by
  unfold readSchemaR at h
  split at h
  · simp at h
  · simp only [Prod.mk.injEq, and_true] at h; exact h.symm
/-- Both ways to read give the same. -/
theorem readSchemaR_impl (t : ByteArray) : readSchemaR t = match schP t 3 0 [] with | none => ([], false) | some out => if soR out = true then (out, true) else ([], false) := by
  rcases hr : readSchemaR t with ⟨l, ok⟩
  cases ok with
  | true =>
    have h := readSchemaR_tells hr
    obtain ⟨h1, rfl⟩ := schemaTextR_tells h
    obtain ⟨g1, g2, g3⟩ := soR_tells l h1
    rw [schP_reads (schemaB l) l 3 0 [] (by omega) (soR_small h1) (Took.self _), List.nil_append]
    dsimp only
    rw [if_pos h1]
  | false =>
    rw [readSchemaR_no hr]
    cases hp : schP t 3 0 [] with
    | none => rfl
    | some out =>
      dsimp only
      by_cases c : soR out = true
      · obtain ⟨l2, e, ht⟩ := schP_took t 3 0 [] out ⟨Int.le_refl _, by omega⟩ hp
        rw [List.nil_append] at e
        subst e
        have hw := ht.whole rfl
        have : schemaTextR out = (t, true) := by unfold schemaTextR; rw [if_pos c, hw]
        rw [readSchemaR_text this] at hr
        simp at hr
      · rw [if_neg c]
def thingAt (F : List S123) (V : List S143) (i : Nat) : Bool := valueOkR (rd_T123 F (i : Int)).f1 (rd_T143 V (i : Int)).f0 (rd_T143 V (i : Int)).f1
def thingOkR (F : List S123) (V : List S143) : Bool := soR F && decide (V.length = F.length) && (List.range' 0 F.length).all (thingAt F V)
def putB (f : S123) (v : S143) : ByteArray := if f.f1 = 1 then varB v.f0.toNat else shortB v.f1
def thingB : List S123 → List S143 → ByteArray
  | [], _ => ⟨#[]⟩
  | _ :: _, [] => ⟨#[]⟩
  | f :: F, v :: V => putB f v ++ thingB F V
def thingTextR (F : List S123) (V : List S143) : ByteArray × Bool := if thingOkR F V = true then (thingB F V, true) else (⟨#[]⟩, false)
/-- A value of a kind, small enough, and as its text tells it. -/
def fits (f : S123) (v : S143) : Prop := (f.f1 = 1 ∧ 0 ≤ v.f0 ∧ v.f0 ≤ 999999 ∧ v.f1 = ⟨#[]⟩) ∨ (f.f1 ≠ 1 ∧ v.f0 = 0 ∧ v.f1.size ≤ 6)
theorem size_zero_eq {s : ByteArray} (h : s.size = 0) : s = ⟨#[]⟩ := by
  apply bytesOf_inj
  have : (bytesOf s).length = 0 := by rw [bytesOf_length]; exact h
  rw [List.eq_nil_of_length_eq_zero this]
  rfl
theorem valueOkR_fits {f : S123} {v : S143} (h : valueOkR f.f1 v.f0 v.f1 = true) : fits f v := by
  unfold valueOkR at h
  by_cases c : f.f1 = 1
  · rw [if_pos c, Bool.and_eq_true, decide_eq_true_eq, decide_eq_true_eq] at h
    exact .inl ⟨c, h.1.1, h.1.2, size_zero_eq h.2⟩
  · rw [if_neg c] at h
    simp only [Bool.and_eq_true, decide_eq_true_eq] at h
    exact .inr ⟨c, h.1.1.2, by omega⟩
theorem thingOkR_tells {F : List S123} {V : List S143} (h : thingOkR F V = true) : soR F = true ∧ V.length = F.length ∧ F.length ≤ 3 ∧ ∀ (i : Nat) (h1 : i < F.length) (h2 : i < V.length), fits F[i] V[i] := by
  unfold thingOkR at h
  rw [Bool.and_eq_true, Bool.and_eq_true, decide_eq_true_eq] at h
  obtain ⟨⟨h1, h2⟩, h3⟩ := h
  refine ⟨h1, h2, (soR_tells F h1).2.1, fun i g1 g2 => ?_⟩
  have := (range_all_iff _ _).1 h3 i g1
  unfold thingAt at this
  rw [show rd_T123 F (i : Int) = F[i] from rdOf_get z123 F i g1, show rd_T143 V (i : Int) = V[i] from rdOf_get z143 V i g2] at this
  exact valueOkR_fits this
/-- A thing is read, field by field; what is bad stays bad. -/
def thP (t : ByteArray) : List S123 → Int → Bool → List S143 → Int × Bool × List S143
  | [], a, bad, V => (a, bad, V)
  | f :: F, a, bad, V =>
    if f.f1 = 1 then thP t F (numR t 1000000000 a bad).2.1 (numR t 1000000000 a bad).2.2 (V ++ [⟨(numR t 1000000000 a bad).1, ⟨#[]⟩⟩])
    else thP t F (txtR t a bad).2.1 (txtR t a bad).2.2 (V ++ [⟨0, (txtR t a bad).1⟩])
theorem thP_bad (t : ByteArray) (F : List S123) : ∀ (a : Int) (V : List S143), (thP t F a true V).2.1 = true := by
  induction F with
  | nil => intro a V; rfl
  | cons f F ih =>
    intro a V
    unfold thP
    split
    · rw [numR_bad]; exact ih _ _
    · rw [txtR_bad]; exact ih _ _
theorem thP_took (t : ByteArray) (F : List S123) : ∀ (a : Int) (bad : Bool) (V : List S143), 0 ≤ a ∧ a ≤ (t.size : Int) → (thP t F a bad V).2.1 = false →
    ∃ (vs : List S143) (b : Int), thP t F a bad V = (b, false, V ++ vs) ∧ bad = false ∧ vs.length = F.length ∧ Took t a b (thingB F vs) := by
  induction F with
  | nil =>
    intro a bad V ha h
    change bad = false at h
    subst h
    exact ⟨[], a, by simp [thP], rfl, rfl, Took.nil t a ha⟩
  | cons f F ih =>
    intro a bad V ha h
    cases bad with
    | true => rw [thP_bad] at h; cases h
    | false =>
      unfold thP at h ⊢
      by_cases c : f.f1 = 1
      · rw [if_pos c] at h ⊢
        rcases hx : numR t 1000000000 a false with ⟨n, a1, b1⟩
        rw [hx] at h
        dsimp only at h ⊢
        cases b1 with
        | true => rw [thP_bad] at h; cases h
        | false =>
          obtain ⟨_, t1, _⟩ := numR_took hx
          obtain ⟨vs, b, e, _, hl, ht⟩ := ih a1 false _ ⟨by have := t1.1; have := t1.2.2.1; omega, t1.2.1⟩ h
          refine ⟨⟨n, ⟨#[]⟩⟩ :: vs, b, by rw [e]; simp, rfl, by simp [hl], ?_⟩
          unfold thingB putB
          rw [if_pos c]
          exact t1.trans ht
      · rw [if_neg c] at h ⊢
        rcases hx : txtR t a false with ⟨s, a1, b1⟩
        rw [hx] at h
        dsimp only at h ⊢
        cases b1 with
        | true => rw [thP_bad] at h; cases h
        | false =>
          obtain ⟨_, t1, _⟩ := txtR_took hx
          obtain ⟨vs, b, e, _, hl, ht⟩ := ih a1 false _ ⟨by have := t1.1; have := t1.2.2.1; omega, t1.2.1⟩ h
          refine ⟨⟨0, s⟩ :: vs, b, by rw [e]; simp, rfl, by simp [hl], ?_⟩
          unfold thingB putB
          rw [if_neg c]
          exact t1.trans ht
theorem thP_reads (t : ByteArray) (F : List S123) : ∀ (vs : List S143) (a b : Int) (V : List S143), vs.length = F.length → (∀ (i : Nat) (h1 : i < F.length) (h2 : i < vs.length), fits F[i] vs[i]) → Took t a b (thingB F vs) → thP t F a false V = (b, false, V ++ vs) := by
  induction F with
  | nil =>
    intro vs a b V hl _ ht
    have hb : b = a := by have := ht.2.2.1; change b = a + 0 at this; omega
    subst hb
    rw [List.eq_nil_of_length_eq_zero hl]
    simp [thP]
  | cons f F ih =>
    intro vs a b V hl hf ht
    obtain ⟨v, vs, rfl⟩ : ∃ v w, vs = v :: w := by
      cases vs with
      | nil => simp at hl
      | cons v w => exact ⟨v, w, rfl⟩
    unfold thingB at ht
    obtain ⟨t1, t2⟩ := Took.split ht
    have h0 := hf 0 (by simp) (by simp)
    have hr := ih vs _ b (V ++ [v]) (by simpa using hl) (fun i h1 h2 => by have := hf (i + 1) (by simp; omega) (by simp; omega); simpa using this) t2
    unfold putB at t1 hr
    unfold thP
    rcases h0 with ⟨c, g1, g2, g3⟩ | ⟨c, g1, g2⟩
    · change f.f1 = 1 at c
      change 0 ≤ v.f0 at g1
      change v.f0 ≤ 999999 at g2
      change v.f1 = _ at g3
      rw [if_pos c] at t1 hr ⊢
      rw [numR_reads t1 (by omega) (by omega)]
      dsimp only
      rw [Int.toNat_of_nonneg g1, ← g3]
      rw [hr]
      simp
    · change f.f1 ≠ 1 at c
      change v.f0 = 0 at g1
      change v.f1.size ≤ 6 at g2
      rw [if_neg c] at t1 hr ⊢
      rw [txtR_reads t1 (by omega)]
      dsimp only
      rw [← g1]
      rw [hr]
      simp
theorem thingTextR_tells {F : List S123} {V : List S143} {t : ByteArray} (h : thingTextR F V = (t, true)) : thingOkR F V = true ∧ thingB F V = t := by
  unfold thingTextR at h
  split at h
  · simp only [Prod.mk.injEq, and_true] at h; exact ⟨by assumption, h⟩
  · simp at h
def readThingR (F : List S123) (t : ByteArray) : List S143 × Bool :=
  if (thP t (F.take 10) 0 false []).2.1 = false ∧ thingTextR F (thP t (F.take 10) 0 false []).2.2 = (t, true) then ((thP t (F.take 10) 0 false []).2.2, true) else ([], false)
theorem readThingR_text {F : List S123} {V : List S143} {t : ByteArray} (h : thingTextR F V = (t, true)) : readThingR F t = (V, true) := by
  obtain ⟨h1, rfl⟩ := thingTextR_tells h
  obtain ⟨g1, g2, g3, g4⟩ := thingOkR_tells h1
  have := thP_reads (thingB F V) F V 0 _ [] g2 g4 (Took.self _)
  unfold readThingR
  rw [List.take_of_length_le (by omega), this]
  dsimp only
  rw [List.nil_append, if_pos ⟨rfl, h⟩]
theorem readThingR_tells {F : List S123} {V : List S143} {t : ByteArray} (h : readThingR F t = (V, true)) : thingTextR F V = (t, true) := by
  unfold readThingR at h
  split at h
  · rename_i c
    simp only [Prod.mk.injEq, and_true] at h
    rw [← h]; exact c.2
  · simp at h
theorem readThingR_no {F : List S123} {V : List S143} {t : ByteArray} (h : readThingR F t = (V, false)) : V = [] := by
  unfold readThingR at h
  split at h
  · simp at h
  · simp only [Prod.mk.injEq, and_true] at h; exact h.symm
theorem readThingR_impl (F : List S123) (t : ByteArray) : readThingR F t = if (thP t F 0 false []).2.1 = false ∧ (thP t F 0 false []).1 = (t.size : Int) ∧ thingOkR F (thP t F 0 false []).2.2 = true then ((thP t F 0 false []).2.2, true) else ([], false) := by
  rcases hr : readThingR F t with ⟨V, ok⟩
  cases ok with
  | true =>
    have h := readThingR_tells hr
    obtain ⟨h1, rfl⟩ := thingTextR_tells h
    obtain ⟨g1, g2, g3, g4⟩ := thingOkR_tells h1
    rw [thP_reads (thingB F V) F V 0 _ [] g2 g4 (Took.self _)]
    dsimp only
    rw [List.nil_append, if_pos ⟨rfl, rfl, h1⟩]
  | false =>
    rw [readThingR_no hr]
    by_cases c : (thP t F 0 false []).2.1 = false ∧ (thP t F 0 false []).1 = (t.size : Int) ∧ thingOkR F (thP t F 0 false []).2.2 = true
    · rw [if_pos c]
      obtain ⟨c1, c2, c3⟩ := c
      obtain ⟨vs, b, e, _, hl, ht⟩ := thP_took t F 0 false [] ⟨Int.le_refl _, by omega⟩ c1
      rw [e] at c2 c3 ⊢
      dsimp only at c2 c3 ⊢
      rw [List.nil_append] at c3 ⊢
      have hw := ht.whole c2
      have : thingTextR F vs = (t, true) := by unfold thingTextR; rw [if_pos c3, hw]
      rw [readThingR_text this] at hr
      simp at hr
    · rw [if_neg c]
theorem putB_size {f : S123} {v : S143} (h : fits f v) : (putB f v).size ≤ 20 := by
  unfold putB
  rcases h with ⟨c, g1, g2, g3⟩ | ⟨c, g1, g2⟩
  · rw [if_pos c]
    have := varB_size_le v.f0.toNat (by omega)
    omega
  · rw [if_neg c]
    have := shortB_size_upto v.f1 6 g2 (by omega)
    omega
theorem thing_step {F : List S123} {V : List S143} (h : thingOkR F V = true) (i : Nat) (hi : i < F.length) : fits (rd_T123 F (i : Int)) (rd_T143 V (i : Int)) ∧ thingB (F.drop i) (V.drop i) = putB (rd_T123 F (i : Int)) (rd_T143 V (i : Int)) ++ thingB (F.drop (i + 1)) (V.drop (i + 1)) := by
  obtain ⟨g1, g2, g3, g4⟩ := thingOkR_tells h
  have e1 : F.drop i = rd_T123 F (i : Int) :: F.drop (i + 1) := drop_rdOf z123 F i hi
  have e2 : V.drop i = rd_T143 V (i : Int) :: V.drop (i + 1) := drop_rdOf z143 V i (by omega)
  refine ⟨?_, by rw [e1, e2]; rfl⟩
  have := g4 i hi (by omega)
  rwa [← show rd_T123 F (i : Int) = F[i] from rdOf_get z123 F i hi, ← show rd_T143 V (i : Int) = V[i]'(by omega) from rdOf_get z143 V i (by omega)] at this
theorem spec_l01In_eq (x a b : Int) : spec_l01In.f x a b = some (decide (a ≤ x ∧ x ≤ b)) := in_dec x a b
theorem spec_l04Word_loop (s : ByteArray) (hs : s.size ≤ 9223372036854775807) (most : Int) : ∀ (d i : Nat), i + d = s.size → Ev (fun k => spec_l04Word.l0 k s most (i : Int)) (lettersL ((bytesOf s).drop i) && decide (1 ≤ (s.size : Int) ∧ (s.size : Int) ≤ most)) := by
  intro d
  induction d with
  | zero =>
    intro i hi
    refine ev_end fun k => ?_
    rw [spec_l04Word.l0, if_neg (by omega), spec_l01In_eq, Option.bind_some, List.drop_eq_nil_of_le (by rw [bytesOf_length]; omega)]
    rfl
  | succ d ih =>
    intro i hi
    rw [bytesOf_drop s i (by omega), lettersL_cons]
    by_cases c1 : bt s (i : Int) < 97
    · rw [decide_eq_false (by omega)]
      refine ev_end fun k => ?_
      rw [spec_l04Word.l0, if_pos (by omega), if_pos (by omega), if_pos c1]
      rfl
    · by_cases c2 : bt s (i : Int) > 122
      · rw [decide_eq_false (by omega)]
        refine ev_end fun k => ?_
        rw [spec_l04Word.l0, if_pos (by omega), if_pos (by omega), if_neg c1, if_pos c2]
        rfl
      · rw [decide_eq_true (by omega), Bool.true_and]
        refine ev_go (ih (i + 1) (by omega)) fun k => ?_
        rw [spec_l04Word.l0, if_pos (by omega), if_pos (by omega), if_neg c1, if_neg c2, w64 (by omega) (by omega)]
        rfl
theorem spec_l04Word_fev (s : ByteArray) (hs : s.size ≤ 9223372036854775807) (most : Int) : Ev (fun k => spec_l04Word.f k s most) (wordR s most) :=
  spec_l04Word_loop s hs most s.size 0 (by omega)
theorem spec_SchemaOk_inner (l pre t : List S123) (x : S123) (hl : l = pre ++ x :: t) (hn : l.length ≤ 1048576) (r : Bool) (h : Ev (fun k => spec_SchemaOk.l0 k l ((pre.length : Int) + 1)) r) : ∀ (d i : Nat), i + d = pre.length → Ev (fun k => spec_SchemaOk.l1 k l (pre.length : Int) (i : Int)) (if (pre.drop i).any (fun y => y.f0.toList == x.f0.toList) = true then false else r) := by
  have hlen : l.length = pre.length + 1 + t.length := by rw [hl, List.length_append, List.length_cons]; omega
  have hx : rd_T123 l (pre.length : Int) = x := by rw [hl]; exact rdOf_mid z123 pre t x _ rfl
  intro d
  induction d with
  | zero =>
    intro i hi
    rw [List.drop_eq_nil_of_le (by omega)]
    refine ev_go h fun k => ?_
    rw [spec_SchemaOk.l1, if_neg (by omega), w64 (by omega) (by omega)]
  | succ d ih =>
    intro i hi
    have hy : rd_T123 l (i : Int) = pre[i]'(by omega) := by
      show rdOf z123 l (i : Int) = _
      rw [rdOf_get z123 l i (by omega)]
      subst hl
      exact List.getElem_append_left (by omega)
    rw [List.drop_eq_getElem_cons (by omega : i < pre.length), List.any_cons]
    by_cases c : ((pre[i]'(by omega)).f0).toList = x.f0.toList
    · rw [show ((pre[i]'(by omega)).f0.toList == x.f0.toList) = true from beq_iff_eq.2 c]
      refine ev_end fun k => ?_
      rw [spec_SchemaOk.l1, if_pos (by omega), if_pos (by omega), if_pos (by omega), if_pos (by omega), if_pos (by omega), hx, hy, if_pos c]
      rfl
    · rw [show ((pre[i]'(by omega)).f0.toList == x.f0.toList) = false from beq_eq_false_iff_ne.2 c, Bool.false_or]
      refine ev_go (ih (i + 1) (by omega)) fun k => ?_
      rw [spec_SchemaOk.l1, if_pos (by omega), if_pos (by omega), if_pos (by omega), if_pos (by omega), if_pos (by omega), hx, hy, if_neg c, w64 (by omega) (by omega)]
      rfl
theorem spec_SchemaOk_loop (l : List S123) (hn : l.length ≤ 1048576) (hs : ∀ x ∈ l, x.f0.size ≤ 9223372036854775807) : ∀ (rest pre : List S123), l = pre ++ rest → Ev (fun k => spec_SchemaOk.l0 k l (pre.length : Int)) (soL (l.length : Int) pre rest) := by
  intro rest
  induction rest with
  | nil =>
    intro pre hl
    have : l.length = pre.length := by rw [hl, List.append_nil]
    refine ev_end fun k => ?_
    rw [spec_SchemaOk.l0, if_neg (by omega), spec_l01In_eq, Option.bind_some]
    rfl
  | cons x t ih =>
    intro pre hl
    have hlen : l.length = pre.length + 1 + t.length := by rw [hl, List.length_append, List.length_cons]; omega
    have hx : rd_T123 l (pre.length : Int) = x := by rw [hl]; exact rdOf_mid z123 pre t x _ rfl
    have hxs := hs x (by rw [hl]; simp)
    have hn' := ih (pre ++ [x]) (by rw [hl]; simp)
    rw [List.length_append, List.length_singleton, show ((pre.length + 1 : Nat) : Int) = (pre.length : Int) + 1 by omega] at hn'
    have hin := spec_SchemaOk_inner l pre t x hl hn _ hn' pre.length 0 (by omega)
    obtain ⟨K1, e1⟩ := spec_l04Word_fev x.f0 hxs 4
    obtain ⟨K2, e2⟩ := hin
    dsimp only at e1 e2
    unfold soL fieldOkR
    refine ev_succ ⟨K1 + K2 + 1, fun k hk => ?_⟩
    obtain ⟨k, rfl⟩ : ∃ m, k = m + 1 := ⟨k - 1, by omega⟩
    rw [spec_SchemaOk.l0, if_pos (by omega), if_pos (by omega), hx, e1 _ (by omega), Option.bind_some]
    cases h1 : wordR x.f0 4 with
    | false => rw [if_neg (by decide), spec_SchemaOk.j1, if_pos rfl]; rfl
    | true =>
      rw [if_pos rfl, spec_l01In_eq, Option.bind_some, spec_SchemaOk.j1]
      by_cases h2 : 1 ≤ x.f1 ∧ x.f1 ≤ 2
      · rw [decide_eq_true h2, if_neg (by decide)]
        exact e2 k (by omega)
      · rw [decide_eq_false h2, if_pos (by decide)]
        rfl
theorem spec_SchemaOk_fev (l : List S123) (hn : l.length ≤ 1048576) (hs : ∀ x ∈ l, x.f0.size ≤ 9223372036854775807) : Ev (fun k => spec_SchemaOk.f k l) (soR l) :=
  spec_SchemaOk_loop l hn hs l [] rfl
theorem spec_l04Value_loop (kind num : Int) (s : ByteArray) (hs : s.size ≤ 9223372036854775807) : ∀ (d i : Nat), i + d = s.size → Ev (fun k => spec_l04Value.l0 k kind (i : Int) num s) (((bytesOf s).drop i).all (fun b => decide (b ≠ 0)) && (decide (kind = 2) && decide (num = 0) && decide ((s.size : Int) ≤ 6))) := by
  intro d
  induction d with
  | zero =>
    intro i hi
    refine ev_end fun k => ?_
    rw [spec_l04Value.l0, if_neg (by omega), List.drop_eq_nil_of_le (by rw [bytesOf_length]; omega)]
    by_cases c1 : kind = 2
    · rw [if_pos c1, decide_eq_true c1]
      by_cases c2 : num = 0
      · rw [if_pos c2, decide_eq_true c2]; rfl
      · rw [if_neg c2, decide_eq_false c2]; rfl
    · rw [if_neg c1, decide_eq_false c1]; rfl
  | succ d ih =>
    intro i hi
    rw [bytesOf_drop s i (by omega), List.all_cons]
    by_cases c : bt s (i : Int) = 0
    · rw [decide_eq_false (fun h => h c)]
      refine ev_end fun k => ?_
      rw [spec_l04Value.l0, if_pos (by omega), if_pos (by omega), if_pos c]
      rfl
    · rw [decide_eq_true c, Bool.true_and]
      refine ev_go (ih (i + 1) (by omega)) fun k => ?_
      rw [spec_l04Value.l0, if_pos (by omega), if_pos (by omega), if_neg c, w64 (by omega) (by omega)]
      rfl
theorem spec_l04Value_fev (kind num : Int) (s : ByteArray) (hs : s.size ≤ 9223372036854775807) : Ev (fun k => spec_l04Value.f k kind num s) (valueOkR kind num s) := by
  unfold valueOkR
  by_cases c : kind = 1
  · rw [if_pos c]
    refine ev_some fun k => ?_
    unfold spec_l04Value.f
    rw [if_pos c, spec_l01In_eq, Option.bind_some]
    cases decide (0 ≤ num ∧ num ≤ 999999) with
    | false => rfl
    | true => rw [if_pos rfl, toList_empty_iff]; rfl
  · rw [if_neg c]
    have h := spec_l04Value_loop kind num s hs s.size 0 (by omega)
    rw [List.drop_zero, Bool.and_comm] at h
    refine Ev.congr (fun k => ?_) h
    unfold spec_l04Value.f
    rw [if_neg c]
    rfl
theorem spec_ThingOk_loop (F : List S123) (V : List S143) (hF : F.length ≤ 1048576) (hl : V.length = F.length) (hv : ∀ x ∈ V, x.f1.size ≤ 9223372036854775807) : Ev (fun k => spec_ThingOk.l0 k F V 0) ((List.range' 0 F.length).all (thingAt F V)) := by
  rw [← ite_tf ((List.range' 0 F.length).all (thingAt F V))]
  have size : ∀ i : Nat, i < F.length → (rd_T143 V (i : Int)).f1.size ≤ 9223372036854775807 := fun i hi => hv _ (rdOf_mem z143 V i (by omega))
  refine ev_every (fun k i => spec_ThingOk.l0 k F V (i : Int)) (thingAt F V) F.length ?_ ?_ ?_ F.length 0 (by omega)
  · refine ev_end fun k => ?_
    rw [spec_ThingOk.l0, if_neg (by omega)]
  · intro i hi hp res hr
    obtain ⟨K1, e1⟩ := spec_l04Value_fev (rd_T123 F (i : Int)).f1 (rd_T143 V (i : Int)).f0 (rd_T143 V (i : Int)).f1 (size i hi)
    obtain ⟨K2, e2⟩ := hr
    unfold thingAt at hp
    rw [hp] at e1
    refine ev_succ ⟨K1 + K2, fun k hk => ?_⟩
    dsimp only at e1 e2
    rw [spec_ThingOk.l0, if_pos (by omega), if_pos (by omega), if_pos (by omega), e1 k (by omega), Option.bind_some, if_pos rfl, w64 (by omega) (by omega)]
    exact e2 k (by omega)
  · intro i hi hp
    obtain ⟨K1, e1⟩ := spec_l04Value_fev (rd_T123 F (i : Int)).f1 (rd_T143 V (i : Int)).f0 (rd_T143 V (i : Int)).f1 (size i hi)
    unfold thingAt at hp
    rw [hp] at e1
    refine ev_succ ⟨K1, fun k hk => ?_⟩
    dsimp only at e1
    rw [spec_ThingOk.l0, if_pos (by omega), if_pos (by omega), if_pos (by omega), e1 k (by omega), Option.bind_some, if_neg (by decide)]
theorem spec_ThingOk_fev (F : List S123) (V : List S143) (hF : F.length ≤ 1048576) (hs : ∀ x ∈ F, x.f0.size ≤ 9223372036854775807) (hv : ∀ x ∈ V, x.f1.size ≤ 9223372036854775807) : Ev (fun k => spec_ThingOk.f k F V) (thingOkR F V) := by
  obtain ⟨K1, e1⟩ := spec_SchemaOk_fev F hF hs
  have bad : ∀ k, spec_ThingOk.j0 (k + 1) F V true = some false := fun k => by rw [spec_ThingOk.j0, if_pos rfl]
  unfold thingOkR
  cases h : soR F with
  | false =>
    rw [h] at e1
    refine ev_succ ⟨K1, fun k hk => ?_⟩
    dsimp only at e1 ⊢
    unfold spec_ThingOk.f
    rw [e1 (k + 1) (by omega), Option.bind_some, if_neg (by decide), bad]
    rfl
  | true =>
    rw [h] at e1
    rw [Bool.true_and]
    by_cases c : V.length = F.length
    · rw [decide_eq_true c, Bool.true_and]
      obtain ⟨K2, e2⟩ := spec_ThingOk_loop F V hF c hv
      refine ev_succ ⟨K1 + K2, fun k hk => ?_⟩
      dsimp only at e1 e2 ⊢
      unfold spec_ThingOk.f
      rw [e1 (k + 1) (by omega), Option.bind_some, if_pos rfl, c, bne_self_eq_false, spec_ThingOk.j0, if_neg (by decide)]
      exact e2 k (by omega)
    · rw [decide_eq_false c, Bool.false_and]
      have e : ((V.length : Int) != (F.length : Int)) = true := by simp only [bne_iff_ne, ne_eq]; omega
      refine ev_succ ⟨K1, fun k hk => ?_⟩
      dsimp only at e1 ⊢
      unfold spec_ThingOk.f
      rw [e1 (k + 1) (by omega), Option.bind_some, if_pos rfl, e, bad]
theorem impl_FieldAt_eq (l : List S123) (name : ByteArray) : impl_FieldAt.f l name = some (faR l name) := rfl
theorem impl_in_eq (x a b : Int) : impl_in.f x a b = some (decide (a ≤ x ∧ x ≤ b)) := in_dec x a b
theorem impl_lettersOk_loop (s : ByteArray) (hs : s.size ≤ 9223372036854775807) (most : Int) : ∀ (d i : Nat), i + d = s.size → Ev (fun k => impl_lettersOk.l0 k s most (s.size : Int) (i : Int)) (lettersL ((bytesOf s).drop i) && decide (1 ≤ (s.size : Int) ∧ (s.size : Int) ≤ most)) := by
  intro d
  induction d with
  | zero =>
    intro i hi
    refine ev_end fun k => ?_
    rw [impl_lettersOk.l0, if_neg (by omega), impl_in_eq, Option.bind_some, List.drop_eq_nil_of_le (by rw [bytesOf_length]; omega)]
    rfl
  | succ d ih =>
    intro i hi
    rw [bytesOf_drop s i (by omega), lettersL_cons]
    by_cases c1 : bt s (i : Int) < 97
    · rw [decide_eq_false (by omega)]
      refine ev_end fun k => ?_
      rw [impl_lettersOk.l0, if_pos (by omega), if_pos (by omega), if_pos (by omega), if_pos c1]
      rfl
    · by_cases c2 : bt s (i : Int) > 122
      · rw [decide_eq_false (by omega)]
        refine ev_end fun k => ?_
        rw [impl_lettersOk.l0, if_pos (by omega), if_pos (by omega), if_pos (by omega), if_neg c1, if_pos c2]
        rfl
      · rw [decide_eq_true (by omega), Bool.true_and]
        refine ev_go (ih (i + 1) (by omega)) fun k => ?_
        rw [impl_lettersOk.l0, if_pos (by omega), if_pos (by omega), if_pos (by omega), if_neg c1, if_neg c2, w64 (by omega) (by omega)]
        rfl
theorem impl_lettersOk_fev (s : ByteArray) (hs : s.size ≤ 9223372036854775807) (most : Int) : Ev (fun k => impl_lettersOk.f k s most) (wordR s most) :=
  impl_lettersOk_loop s hs most s.size 0 (by omega)
theorem impl_SchemaOk_loop (l : List S123) (hn : l.length ≤ 1048576) (hs : ∀ x ∈ l, x.f0.size ≤ 9223372036854775807) : ∀ (rest pre : List S123), l = pre ++ rest → Ev (fun k => impl_SchemaOk.l0 k l l (l.length : Int) (pre.length : Int)) (soL (l.length : Int) pre rest) := by
  intro rest
  induction rest with
  | nil =>
    intro pre hl
    have : l.length = pre.length := by rw [hl, List.append_nil]
    refine ev_end fun k => ?_
    rw [impl_SchemaOk.l0, if_neg (by omega), impl_in_eq, Option.bind_some]
    rfl
  | cons x t ih =>
    intro pre hl
    have hlen : l.length = pre.length + 1 + t.length := by rw [hl, List.length_append, List.length_cons]; omega
    have hx : rd_T123 l (pre.length : Int) = x := by rw [hl]; exact rdOf_mid z123 pre t x _ rfl
    have hxs := hs x (by rw [hl]; simp)
    have hn' := ih (pre ++ [x]) (by rw [hl]; simp)
    rw [List.length_append, List.length_singleton, show ((pre.length + 1 : Nat) : Int) = (pre.length : Int) + 1 by omega] at hn'
    have hown := idxP_own (fun y : S123 => y.f0.toList == x.f0.toList) pre t x (beq_iff_eq.2 rfl)
    rw [← hl] at hown
    obtain ⟨K1, e1⟩ := impl_lettersOk_fev x.f0 hxs 4
    obtain ⟨K2, e2⟩ := hn'
    dsimp only at e1 e2
    unfold soL fieldOkR
    refine ev_succ ⟨K1 + K2, fun k hk => ?_⟩
    rw [impl_SchemaOk.l0, if_pos (by omega), if_pos (by omega), if_pos (by omega), hx, e1 _ (by omega), Option.bind_some]
    cases h1 : wordR x.f0 4 with
    | false => rw [if_neg (by decide)]; rfl
    | true =>
      rw [if_pos rfl, impl_in_eq, Option.bind_some]
      by_cases h2 : 1 ≤ x.f1 ∧ x.f1 ≤ 2
      · rw [decide_eq_true h2, if_pos rfl, impl_FieldAt_eq, Option.bind_some]
        simp only [Bool.and_self, if_true]
        unfold faR
        by_cases h3 : pre.any (fun y => y.f0.toList == x.f0.toList) = true
        · rw [if_neg (fun h => by rw [hown.1 h] at h3; cases h3), if_pos h3]
        · rw [if_pos (hown.2 (by simpa using h3)), if_neg h3, w64 (by omega) (by omega)]
          exact e2 k (by omega)
      · rw [decide_eq_false h2, if_neg (by decide)]
        rfl
theorem impl_SchemaOk_fev (l : List S123) (hn : l.length ≤ 1048576) (hs : ∀ x ∈ l, x.f0.size ≤ 9223372036854775807) : Ev (fun k => impl_SchemaOk.f k l) (soR l) :=
  impl_SchemaOk_loop l hn hs l [] rfl
theorem impl_valueOk_eq (kind num : Int) (s : ByteArray) : impl_valueOk.f kind num s = some (valueOkR kind num s) := by
  unfold impl_valueOk.f valueOkR
  by_cases c : kind = 1
  · rw [if_pos c, if_pos c, impl_in_eq, Option.bind_some]
    cases decide (0 ≤ num ∧ num ≤ 999999) with
    | false => rfl
    | true => rw [if_pos rfl, toList_empty_iff]; rfl
  · rw [if_neg c, if_neg c]
    by_cases c1 : kind = 2
    · rw [if_pos c1, decide_eq_true c1]
      by_cases c2 : num = 0
      · rw [if_pos c2, decide_eq_true c2]
        by_cases c3 : (s.size : Int) ≤ 6
        · rw [if_pos c3, decide_eq_true c3]
          unfold strings_Contains.f
          rw [if_pos rfl, Option.bind_some, noZero_index, Bool.not_not]
          rfl
        · rw [if_neg c3, decide_eq_false c3]; rfl
      · rw [if_neg c2, decide_eq_false c2]; rfl
    · rw [if_neg c1, decide_eq_false c1]; rfl
theorem impl_ThingOk_loop (F : List S123) (V : List S143) (hF : F.length ≤ 1048576) (hl : V.length = F.length) : Ev (fun k => impl_ThingOk.l0 k V F (F.length : Int) 0) ((List.range' 0 F.length).all (thingAt F V)) := by
  rw [← ite_tf ((List.range' 0 F.length).all (thingAt F V))]
  refine ev_every (fun k i => impl_ThingOk.l0 k V F (F.length : Int) (i : Int)) (thingAt F V) F.length ?_ ?_ ?_ F.length 0 (by omega)
  · refine ev_end fun k => ?_
    rw [impl_ThingOk.l0, if_neg (by omega)]
  · intro i hi hp res hr
    refine ev_go hr fun k => ?_
    unfold thingAt at hp
    rw [impl_ThingOk.l0, if_pos (by omega), if_pos (by omega), if_pos (by omega), if_pos (by omega), impl_valueOk_eq, Option.bind_some, hp, if_pos rfl, w64 (by omega) (by omega)]
    rfl
  · intro i hi hp
    refine ev_end fun k => ?_
    unfold thingAt at hp
    rw [impl_ThingOk.l0, if_pos (by omega), if_pos (by omega), if_pos (by omega), if_pos (by omega), impl_valueOk_eq, Option.bind_some, hp, if_neg (by decide)]
theorem impl_ThingOk_fev (F : List S123) (V : List S143) (hF : F.length ≤ 1048576) (hs : ∀ x ∈ F, x.f0.size ≤ 9223372036854775807) : Ev (fun k => impl_ThingOk.f k F V) (thingOkR F V) := by
  obtain ⟨K1, e1⟩ := impl_SchemaOk_fev F hF hs
  have bad : ∀ k, impl_ThingOk.j0 (k + 1) F V true = some false := fun k => by rw [impl_ThingOk.j0, if_pos rfl]
  unfold thingOkR
  cases h : soR F with
  | false =>
    rw [h] at e1
    refine ev_succ ⟨K1, fun k hk => ?_⟩
    dsimp only at e1 ⊢
    unfold impl_ThingOk.f
    rw [e1 (k + 1) (by omega), Option.bind_some, if_neg (by decide), bad]
    rfl
  | true =>
    rw [h] at e1
    rw [Bool.true_and]
    by_cases c : V.length = F.length
    · rw [decide_eq_true c, Bool.true_and]
      obtain ⟨K2, e2⟩ := impl_ThingOk_loop F V hF c
      refine ev_succ ⟨K1 + K2, fun k hk => ?_⟩
      dsimp only at e1 e2 ⊢
      unfold impl_ThingOk.f
      rw [e1 (k + 1) (by omega), Option.bind_some, if_pos rfl, c, bne_self_eq_false, impl_ThingOk.j0, if_neg (by decide)]
      exact e2 k (by omega)
    · rw [decide_eq_false c, Bool.false_and]
      have e : ((V.length : Int) != (F.length : Int)) = true := by simp only [bne_iff_ne, ne_eq]; omega
      refine ev_succ ⟨K1, fun k hk => ?_⟩
      dsimp only at e1 ⊢
      unfold impl_ThingOk.f
      rw [e1 (k + 1) (by omega), Option.bind_some, if_pos rfl, e, bad]
theorem impl_varText_ev : ∀ (n : Nat) (acc : List Int), n ≤ 9223372036854775807 → acc.length + n ≤ 140737488355327 → Ev (fun k => impl_varText.l0 k (n : Int) acc) (strOfNums (acc ++ varL n)) := by
  intro n
  induction n using Nat.strongRecOn with
  | ind n ih =>
    intro acc hn hl
    by_cases h : n > 127
    · refine ev_go (f := fun k => impl_varText.l0 k ((n / 128 : Nat) : Int) (acc ++ [(n : Int) % 128 + 128])) ?_ ?_
      · have := ih (n / 128) (by omega) (acc ++ [(n : Int) % 128 + 128]) (by omega) (by rw [List.length_append, List.length_singleton]; omega)
        rw [List.append_assoc, List.singleton_append, ← varL_big h] at this
        exact this
      · intro k
        have e1 : (n : Int) / 128 = ((n / 128 : Nat) : Int) := by omega
        have e2 : (Go.bits .or .i64 (Go.bits .and .i64 (n : Int) 127) 128) % 256 = (n : Int) % 128 + 128 := by rw [i64_and127 _ (by omega) (by omega), i64_or128 _ (by omega) (by omega)]; omega
        rw [impl_varText.l0, if_pos (by omega), if_pos (by omega), e1, e2]
    · refine ev_end fun k => ?_
      rw [impl_varText.l0, if_neg (by omega), if_pos (by omega), varL_small h]
      rw [show (n : Int) % 256 = (n : Int) by omega]
theorem impl_varText_fev (n : Int) (h0 : 0 ≤ n) (h : n ≤ 140737488355327) : Ev (fun k => impl_varText.f k n) (varB n.toNat) := by
  have := impl_varText_ev n.toNat [] (by omega) (by simp; omega)
  rw [Int.toNat_of_nonneg h0, List.nil_append] at this
  exact this
theorem impl_shortOf_fev (s : ByteArray) (hs : s.size ≤ 140737488351232) : Ev (fun k => impl_shortOf.f k s) (shortB s) := by
  refine ev_call (impl_varText_fev (s.size : Int) (by omega) (by omega)) (ev_some fun k => ?_) fun k => rfl
  have h4 := varB_size_le s.size (by omega)
  rw [Int.toNat_natCast, if_pos (by omega)]
  rfl
theorem impl_ThingText_loop (F : List S123) (V : List S143) (h : thingOkR F V = true) : ∀ (d i : Nat) (acc : ByteArray), i + d = F.length → acc.size ≤ 20 * i → Ev (fun k => impl_ThingText.l0 k V acc F (F.length : Int) (i : Int)) (acc ++ thingB (F.drop i) (V.drop i), true) := by
  obtain ⟨g1, g2, g3, g4⟩ := thingOkR_tells h
  intro d
  induction d with
  | zero =>
    intro i acc hi ha
    refine ev_end fun k => ?_
    rw [impl_ThingText.l0, if_neg (by omega), List.drop_eq_nil_of_le (by omega : F.length ≤ i)]
    unfold thingB
    rw [show acc ++ (⟨#[]⟩ : ByteArray) = acc from ByteArray.append_empty]
  | succ d ih =>
    intro i acc hi ha
    obtain ⟨hf, hb⟩ := thing_step h i (by omega)
    have hz := putB_size hf
    rw [hb, ← ByteArray.append_assoc]
    obtain ⟨K2, e2⟩ := ih (i + 1) (acc ++ putB (rd_T123 F (i : Int)) (rd_T143 V (i : Int))) (by omega) (by rw [ByteArray.size_append]; omega)
    unfold putB at e2 hz ⊢
    by_cases c : (rd_T123 F (i : Int)).f1 = 1
    · rw [if_pos c] at e2 hz ⊢
      have hn : 0 ≤ (rd_T143 V (i : Int)).f0 ∧ (rd_T143 V (i : Int)).f0 ≤ 999999 := by
        rcases hf with ⟨_, q1, q2, _⟩ | ⟨q, _⟩
        · exact ⟨q1, q2⟩
        · exact absurd c q
      obtain ⟨K1, e1⟩ := impl_varText_fev (rd_T143 V (i : Int)).f0 hn.1 (by omega)
      refine ev_succ ⟨K1 + K2, fun k hk => ?_⟩
      dsimp only at e1 e2
      rw [impl_ThingText.l0, if_pos (by omega), if_pos (by omega), if_pos (by omega), if_pos c, if_pos (by omega), e1 k (by omega), Option.bind_some, if_pos (by omega), w64 (by omega) (by omega)]
      exact e2 k (by omega)
    · rw [if_neg c] at e2 hz ⊢
      have hn : (rd_T143 V (i : Int)).f1.size ≤ 6 := by
        rcases hf with ⟨q, _⟩ | ⟨_, _, q⟩
        · exact absurd q c
        · exact q
      obtain ⟨K1, e1⟩ := impl_shortOf_fev (rd_T143 V (i : Int)).f1 (by omega)
      refine ev_succ ⟨K1 + K2, fun k hk => ?_⟩
      dsimp only at e1 e2
      rw [impl_ThingText.l0, if_pos (by omega), if_pos (by omega), if_pos (by omega), if_neg c, if_pos (by omega), e1 k (by omega), Option.bind_some, if_pos (by omega), w64 (by omega) (by omega)]
      exact e2 k (by omega)
theorem impl_ThingText_fev (F : List S123) (V : List S143) (hF : F.length ≤ 1048576) (hs : ∀ x ∈ F, x.f0.size ≤ 9223372036854775807) : Ev (fun k => impl_ThingText.f k F V) (thingTextR F V) := by
  unfold thingTextR
  refine ev_call (impl_ThingOk_fev F V hF hs) ?_ (fun k => rfl)
  cases h : thingOkR F V with
  | false => exact ev_some fun k => rfl
  | true =>
    have := impl_ThingText_loop F V h F.length 0 ⟨#[]⟩ (by omega) (Nat.zero_le _)
    rw [List.drop_zero, List.drop_zero, show (⟨#[]⟩ : ByteArray) ++ thingB F V = thingB F V from ByteArray.empty_append] at this
    exact this
theorem spec_l01Var_ev : ∀ (n : Nat) (acc : List Int), n ≤ 9223372036854775807 → acc.length + n ≤ 140737488355327 → Ev (fun k => spec_l01Var.l0 k (n : Int) acc) (strOfNums (acc ++ varL n)) := by
  intro n
  induction n using Nat.strongRecOn with
  | ind n ih =>
    intro acc hn hl
    by_cases h : n > 127
    · refine ev_go (f := fun k => spec_l01Var.l0 k ((n / 128 : Nat) : Int) (acc ++ [(n : Int) % 128 + 128])) ?_ ?_
      · have := ih (n / 128) (by omega) (acc ++ [(n : Int) % 128 + 128]) (by omega) (by rw [List.length_append, List.length_singleton]; omega)
        rw [List.append_assoc, List.singleton_append, ← varL_big h] at this
        exact this
      · intro k
        have e1 : wrap64 (Int.tdiv (n : Int) 128) = ((n / 128 : Nat) : Int) := by rw [Int.tdiv_eq_ediv_of_nonneg (by omega), w64 (by omega) (by omega)]; omega
        have e2 : (wrap64 (Int.tmod (n : Int) 128 + 128)) % 256 = (n : Int) % 128 + 128 := by rw [Int.tmod_eq_emod_of_nonneg (by omega), w64 (by omega) (by omega)]; omega
        rw [spec_l01Var.l0, if_pos (by omega), if_pos (by omega), e1, e2]
    · refine ev_end fun k => ?_
      rw [spec_l01Var.l0, if_neg (by omega), if_pos (by omega), varL_small h]
      rw [show (n : Int) % 256 = (n : Int) by omega]
theorem spec_l01Var_fev (n : Int) (h0 : 0 ≤ n) (h : n ≤ 140737488355327) : Ev (fun k => spec_l01Var.f k n) (varB n.toNat) := by
  have := spec_l01Var_ev n.toNat [] (by omega) (by simp; omega)
  rw [Int.toNat_of_nonneg h0, List.nil_append] at this
  exact this
theorem spec_l04Short_fev (s : ByteArray) (hs : s.size ≤ 140737488351232) : Ev (fun k => spec_l04Short.f k s) (shortB s) := by
  refine ev_call (spec_l01Var_fev (s.size : Int) (by omega) (by omega)) (ev_some fun k => ?_) fun k => rfl
  have h4 := varB_size_le s.size (by omega)
  rw [Int.toNat_natCast, if_pos (by omega)]
  rfl
theorem spec_ThingText_loop (F : List S123) (V : List S143) (h : thingOkR F V = true) : ∀ (d i : Nat) (acc : ByteArray), i + d = F.length → acc.size ≤ 20 * i → Ev (fun k => spec_ThingText.l0 k F V acc (i : Int)) (acc ++ thingB (F.drop i) (V.drop i), true) := by
  obtain ⟨g1, g2, g3, g4⟩ := thingOkR_tells h
  intro d
  induction d with
  | zero =>
    intro i acc hi ha
    refine ev_end fun k => ?_
    rw [spec_ThingText.l0, if_neg (by omega), List.drop_eq_nil_of_le (by omega : F.length ≤ i)]
    unfold thingB
    rw [show acc ++ (⟨#[]⟩ : ByteArray) = acc from ByteArray.append_empty]
  | succ d ih =>
    intro i acc hi ha
    obtain ⟨hf, hb⟩ := thing_step h i (by omega)
    have hz := putB_size hf
    rw [hb, ← ByteArray.append_assoc]
    obtain ⟨K2, e2⟩ := ih (i + 1) (acc ++ putB (rd_T123 F (i : Int)) (rd_T143 V (i : Int))) (by omega) (by rw [ByteArray.size_append]; omega)
    unfold putB at e2 hz ⊢
    by_cases c : (rd_T123 F (i : Int)).f1 = 1
    · rw [if_pos c] at e2 hz ⊢
      have hn : 0 ≤ (rd_T143 V (i : Int)).f0 ∧ (rd_T143 V (i : Int)).f0 ≤ 999999 := by
        rcases hf with ⟨_, q1, q2, _⟩ | ⟨q, _⟩
        · exact ⟨q1, q2⟩
        · exact absurd c q
      obtain ⟨K1, e1⟩ := spec_l01Var_fev (rd_T143 V (i : Int)).f0 hn.1 (by omega)
      refine ev_succ ⟨K1 + K2, fun k hk => ?_⟩
      dsimp only at e1 e2
      rw [spec_ThingText.l0, if_pos (by omega), if_pos (by omega), if_pos (by omega), if_pos c, e1 k (by omega), Option.bind_some, if_pos (by omega), w64 (by omega) (by omega)]
      exact e2 k (by omega)
    · rw [if_neg c] at e2 hz ⊢
      have hn : (rd_T143 V (i : Int)).f1.size ≤ 6 := by
        rcases hf with ⟨q, _⟩ | ⟨_, _, q⟩
        · exact absurd q c
        · exact q
      obtain ⟨K1, e1⟩ := spec_l04Short_fev (rd_T143 V (i : Int)).f1 (by omega)
      refine ev_succ ⟨K1 + K2, fun k hk => ?_⟩
      dsimp only at e1 e2
      rw [spec_ThingText.l0, if_pos (by omega), if_pos (by omega), if_pos (by omega), if_neg c, e1 k (by omega), Option.bind_some, if_pos (by omega), w64 (by omega) (by omega)]
      exact e2 k (by omega)
theorem spec_ThingText_fev (F : List S123) (V : List S143) (hF : F.length ≤ 1048576) (hs : ∀ x ∈ F, x.f0.size ≤ 9223372036854775807) (hv : ∀ x ∈ V, x.f1.size ≤ 9223372036854775807) : Ev (fun k => spec_ThingText.f k F V) (thingTextR F V) := by
  unfold thingTextR
  refine ev_call (spec_ThingOk_fev F V hF hs hv) ?_ (fun k => rfl)
  cases h : thingOkR F V with
  | false => exact ev_some fun k => rfl
  | true =>
    have := spec_ThingText_loop F V h F.length 0 ⟨#[]⟩ (by omega) (Nat.zero_le _)
    rw [List.drop_zero, List.drop_zero, show (⟨#[]⟩ : ByteArray) ++ thingB F V = thingB F V from ByteArray.empty_append] at this
    exact this
theorem spec_ReadVar_ev (s : ByteArray) (hs : s.size ≤ 140737488351232) (a : Nat) (ha : a ≤ s.size) : ∀ (d j : Nat) (n : Int), 5 - j = d → j ≤ 5 → a + j ≤ s.size → 0 ≤ n → n < 128 ^ j → decAt ((bytesOf s).drop a) j n →
    Ev (fun k => spec_ReadVar.l0 k s (a : Int) n (128 ^ j) ((a : Int) + j)) (rvL a ((bytesOf s).drop a)) := by
  intro d
  induction d with
  | zero =>
    intro j n hd hj hl h0 h1 hD
    obtain rfl : j = 5 := by omega
    rw [rvL_none (decAt_over hD)]
    refine ev_succ ⟨1, fun k hk => ?_⟩
    obtain ⟨k, rfl⟩ : ∃ m, k = m + 1 := ⟨k - 1, by omega⟩
    rw [spec_ReadVar.l0]
    by_cases c : (a : Int) + (5 : Nat) < (s.size : Int)
    · rw [if_pos c, w64 (by omega) (by omega), decide_eq_false (by omega), spec_ReadVar.j1, if_neg (by decide)]
    · rw [if_neg c, spec_ReadVar.j1, if_neg (by decide)]
  | succ d ih =>
    intro j n hd hj hl h0 h1 hD
    by_cases c : a + j < s.size
    · have hdrop : ((bytesOf s).drop a).drop j = bt s ((a : Int) + j) :: ((bytesOf s).drop (a + j + 1)) := by
        rw [List.drop_drop, bytesOf_drop s (a + j) c]
        rw [show ((a + j : Nat) : Int) = (a : Int) + j by omega]
      have hb0 := bt_lo s ((a : Int) + j)
      have hb1 := bt_hi s ((a : Int) + j)
      obtain ⟨m1, m2, m3, m4⟩ := rv_mul j (by omega) n (bt s ((a : Int) + j)) h0 h1 hb0 hb1
      by_cases cb : bt s ((a : Int) + j) < 128
      · have hE := decAt_end hD (by omega) hdrop cb
        rw [show bt s ((a : Int) + j) % 128 = bt s ((a : Int) + j) by omega] at m1 m2 m3 m4
        by_cases cm : n + 128 ^ j * bt s ((a : Int) + j) > 1000000000
        · rw [rvL_bad hE (by omega)]
          refine ev_succ ⟨1, fun k hk => ?_⟩
          obtain ⟨k, rfl⟩ : ∃ m, k = m + 1 := ⟨k - 1, by omega⟩
          rw [spec_ReadVar.l0, if_pos (by omega), w64 (n := (a : Int) + 5) (by omega) (by omega), decide_eq_true (by omega), spec_ReadVar.j1, if_pos rfl, if_pos (by omega), if_pos (by omega), if_pos cb, m1, if_pos cm]
        · obtain ⟨K, hK⟩ := spec_l01Var_fev (n + 128 ^ j * bt s ((a : Int) + j)) m2 (by omega)
          dsimp only at hK
          refine ev_succ ⟨K + 1, fun k hk => ?_⟩
          obtain ⟨k, rfl⟩ : ∃ m, k = m + 1 := ⟨k - 1, by omega⟩
          rw [spec_ReadVar.l0, if_pos (by omega), w64 (n := (a : Int) + 5) (by omega) (by omega), decide_eq_true (by omega), spec_ReadVar.j1, if_pos rfl, if_pos (by omega), if_pos (by omega), if_pos cb, m1, if_neg cm]
          rw [hK k (by omega), Option.bind_some, w64 (n := (a : Int) + j + 1) (by omega) (by omega), if_pos (by omega), if_pos (by omega), if_pos (by omega)]
          have he : ((varB (n + 128 ^ j * bt s ((a : Int) + j)).toNat).toList = (s.extract (a : Int).toNat ((a : Int) + j + 1).toNat).toList) ↔ varL (n + 128 ^ j * bt s ((a : Int) + j)).toNat = ((bytesOf s).drop a).take (1 + j) := by
            rw [toList_eq_iff, varB, strOfNums_eq_iff _ _ (varL_range _), bytesOf_extract]
            rw [show (a : Int).toNat = a by omega, show ((a : Int) + j + 1).toNat - a = 1 + j by omega]
          by_cases ce : varL (n + 128 ^ j * bt s ((a : Int) + j)).toNat = ((bytesOf s).drop a).take (1 + j)
          · rw [if_pos (he.2 ce), rvL_good hE (by omega) ce]
            simp only [Option.some.injEq, Prod.mk.injEq, and_true, true_and]
            omega
          · rw [if_neg (fun h => ce (he.1 h)), rvL_bad hE (fun h => ce h.2)]
      · have hN := decAt_next hD (by omega) hdrop cb
        rw [show bt s ((a : Int) + j) % 128 = bt s ((a : Int) + j) - 128 by omega] at m1 m2 m3 m4
        have hsc : wrap64 (128 ^ j * 128) = 128 ^ (j + 1) := by
          rw [Int.pow_succ]
          rcases pow128 j (by omega) with ⟨h, _⟩ | ⟨h, _⟩ | ⟨h, _⟩ | ⟨h, _⟩ | ⟨h, _⟩ <;> (rw [h]; exact w64 (by omega) (by omega))
        have hi := ih (j + 1) _ (by omega) (by omega) (by omega) m2 m3 hN
        obtain ⟨K, hK⟩ := hi
        refine ev_succ ⟨K + 1, fun k hk => ?_⟩
        obtain ⟨k, rfl⟩ : ∃ m, k = m + 1 := ⟨k - 1, by omega⟩
        rw [spec_ReadVar.l0, if_pos (by omega), w64 (n := (a : Int) + 5) (by omega) (by omega), decide_eq_true (by omega), spec_ReadVar.j1, if_pos rfl, if_pos (by omega), if_pos (by omega), if_neg cb, m1, hsc, w64 (n := (a : Int) + j + 1) (by omega) (by omega)]
        have := hK k (by omega)
        simp only [Int.natCast_add, Int.natCast_one] at this
        rw [Int.add_assoc]
        exact this
    · have hdrop : ((bytesOf s).drop a).drop j = [] := by
        rw [List.drop_drop, List.drop_eq_nil_iff, bytesOf_length]; omega
      rw [rvL_none (decAt_short hD hdrop)]
      refine ev_succ ⟨1, fun k hk => ?_⟩
      obtain ⟨k, rfl⟩ : ∃ m, k = m + 1 := ⟨k - 1, by omega⟩
      rw [spec_ReadVar.l0, if_neg (by omega), spec_ReadVar.j1, if_neg (by decide)]
theorem spec_ReadVar_fev (s : ByteArray) (hs : s.size ≤ 140737488351232) (a : Int) : Ev (fun k => spec_ReadVar.f k s a) (rvR s a) := by
  unfold rvR
  by_cases c : 0 ≤ a ∧ a ≤ (s.size : Int)
  · rw [if_pos c]
    have := spec_ReadVar_ev s hs a.toNat (by omega) 5 0 0 (by omega) (by omega) (by omega) (by omega) (by simp) (decAt_zero _)
    rw [show ((a.toNat : Nat) : Int) = a by omega] at this
    simp only [Int.pow_zero, Int.natCast_zero, Int.add_zero] at this
    refine Ev.congr (fun k => ?_) this
    unfold spec_ReadVar.f spec_l01In.f
    rw [if_pos (by omega), Option.bind_some, decide_eq_true (by omega), if_pos rfl]
  · rw [if_neg c]
    refine ev_some fun k => ?_
    unfold spec_ReadVar.f spec_l01In.f
    by_cases c1 : a ≥ 0
    · rw [if_pos c1, Option.bind_some, decide_eq_false (by omega), if_neg (by decide)]
    · rw [if_neg c1, Option.bind_some, if_neg (by decide)]
theorem spec_ReadShort_fev (s : ByteArray) (hs : s.size ≤ 140737488351232) (a : Int) : Ev (fun k => spec_ReadShort.f k s a) (rsR s a) := by
  refine ev_call (spec_ReadVar_fev s hs a) (ev_some fun k => ?_) (fun k => rfl)
  unfold rsR
  rcases hr : rvR s a with ⟨n, nx, ok⟩
  cases ok with
  | false => simp
  | true =>
    obtain ⟨u, h1, h2, h3, h4, h5, h6, h7, h8⟩ := rvR_tells s a n nx hr
    simp only [if_true, true_and]
    rw [w64 (n := (s.size : Int) - nx) (by omega) (by omega)]
    by_cases c : n ≤ 20000
    · rw [if_neg (by omega)]
      by_cases c2 : n ≤ (s.size : Int) - nx
      · rw [if_neg (by omega), if_pos (by omega), w64 (n := nx + n) (by omega) (by omega), if_pos (by omega), if_pos (by omega), if_pos ⟨c, c2⟩]
      · rw [if_pos (by omega), if_neg (by omega)]
    · rw [if_pos (by omega), if_neg (by omega)]
theorem spec_l04ReadShort_fev (s : ByteArray) (hs : s.size ≤ 140737488351232) (a : Int) (bad : Bool) : Ev (fun k => spec_l04ReadShort.f k s a bad) ((txtR s a bad).1, s, (txtR s a bad).2.1, (txtR s a bad).2.2) := by
  refine ev_call (spec_ReadShort_fev s hs a) (ev_some fun k => ?_) fun k => rfl
  unfold txtR
  cases bad with
  | true => rw [if_pos rfl, if_neg (by simp)]
  | false =>
    rw [if_neg (by decide)]
    by_cases c : (rsR s a).2.2 = true
    · rw [if_pos c, if_pos ⟨rfl, c⟩]
    · rw [if_neg c, if_neg (fun h => c h.2)]
theorem spec_l04Var_fev (s : ByteArray) (hs : s.size ≤ 140737488351232) (a : Int) (bad : Bool) : Ev (fun k => spec_l04Var.f k s a bad) ((numR s 1000000000 a bad).1, s, (numR s 1000000000 a bad).2.1, (numR s 1000000000 a bad).2.2) := by
  refine ev_call (spec_ReadVar_fev s hs a) (ev_some fun k => ?_) fun k => rfl
  unfold numR
  cases bad with
  | true => rw [if_pos rfl, if_neg (by simp)]
  | false =>
    rw [if_neg (by decide)]
    rcases hr : rvR s a with ⟨n, nx, ok⟩
    cases ok with
    | false => rw [if_neg (by simp), if_neg (by simp)]
    | true =>
      obtain ⟨_, _, h3⟩ := rvR_took hr
      rw [if_pos rfl, if_pos ⟨rfl, rfl, h3⟩]
def thFinS (F : List S123) (t : ByteArray) (p : Int × Bool × List S143) : List S143 × Bool := if p.2.1 = false ∧ thingTextR F p.2.2 = (t, true) then (p.2.2, true) else ([], false)
theorem spec_ReadThing_end (F : List S123) (t : ByteArray) (hF : F.length ≤ 1048576) (hs : ∀ x ∈ F, x.f0.size ≤ 9223372036854775807) (i : Int) (a : Int) (bad : Bool) (V : List S143) (hv : ∀ x ∈ V, x.f1.size ≤ 20000) : Ev (fun k => spec_ReadThing.j1 k F t V i false t a bad) (thFinS F t (a, bad, V)) := by
  obtain ⟨K, e⟩ := spec_ThingText_fev F V hF hs (fun x hx => by have := hv x hx; omega)
  refine ev_succ ⟨K, fun k hk => ?_⟩
  dsimp only at e
  rw [spec_ReadThing.j1, if_neg (by decide), e k hk, Option.bind_some]
  unfold thFinS
  dsimp only
  cases bad with
  | true => rw [if_pos rfl, if_neg (by simp)]
  | false =>
    rw [if_neg (by decide)]
    rcases h : thingTextR F V with ⟨s, ok⟩
    dsimp only
    cases ok with
    | false => rw [if_neg (by decide), if_neg (by simp)]
    | true =>
      rw [if_pos rfl]
      by_cases c : s = t
      · rw [if_pos (by rw [c]), if_pos ⟨rfl, by rw [c]⟩]
      · rw [if_neg (fun q => c ((toList_eq_iff _ _).1 q)), if_neg (by intro q; exact c (Prod.mk.inj q.2).1)]
theorem spec_ReadThing_loop (F : List S123) (t : ByteArray) (hF : F.length ≤ 1048576) (hs : ∀ x ∈ F, x.f0.size ≤ 9223372036854775807) (ht : t.size ≤ 140737488351232) : ∀ (d i : Nat) (a : Int) (bad : Bool) (V : List S143), i + d = min 10 F.length → V.length = i → (∀ x ∈ V, x.f1.size ≤ 20000) → Ev (fun k => spec_ReadThing.l0 k F t V (i : Int) t a bad) (thFinS F t (thP t ((F.take 10).drop i) a bad V)) := by
  have hm : (F.take 10).length = min 10 F.length := by rw [List.length_take]
  intro d
  induction d with
  | zero =>
    intro i a bad V hi hV hv
    rw [List.drop_eq_nil_of_le (by omega)]
    refine ev_go (spec_ReadThing_end F t hF hs (i : Int) a bad V hv) fun k => ?_
    rw [spec_ReadThing.l0]
    by_cases c : (i : Int) < (F.length : Int)
    · rw [if_pos c, decide_eq_false (by omega)]
    · rw [if_neg c]
  | succ d ih =>
    intro i a bad V hi hV hv
    have hd : (F.take 10).drop i = rd_T123 F (i : Int) :: (F.take 10).drop (i + 1) := by
      rw [drop_rdOf z123 (F.take 10) i (by omega)]
      congr 1
      show rdOf z123 (F.take 10) (i : Int) = rdOf z123 F (i : Int)
      rw [rdOf_get _ _ i (by omega), rdOf_get _ _ i (by omega), List.getElem_take]
    rw [hd]
    unfold thP
    refine ev_go (f := fun k => spec_ReadThing.j1 k F t V (i : Int) true t a bad) ?_ fun k => by rw [spec_ReadThing.l0, if_pos (by omega), decide_eq_true (by omega)]
    by_cases c : (rd_T123 F (i : Int)).f1 = 1
    · rw [if_pos c]
      obtain ⟨K, e⟩ := spec_l04Var_fev t ht a bad
      obtain ⟨K2, e2⟩ := ih (i + 1) (numR t 1000000000 a bad).2.1 (numR t 1000000000 a bad).2.2 (V ++ [⟨(numR t 1000000000 a bad).1, ⟨#[]⟩⟩]) (by omega) (by simp [hV]) (by
        intro x hx
        rcases List.mem_append.1 hx with hx | hx
        · exact hv x hx
        · rw [List.mem_singleton.1 hx]; exact Nat.zero_le _)
      refine ev_succ ⟨K + K2, fun k hk => ?_⟩
      dsimp only at e e2
      rw [spec_ReadThing.j1, if_pos rfl, if_pos (by omega), if_pos (by omega), if_pos c, e k (by omega), Option.bind_some, if_pos (by show V.length < _; omega), w64 (by omega) (by omega)]
      exact e2 k (by omega)
    · rw [if_neg c]
      obtain ⟨K, e⟩ := spec_l04ReadShort_fev t ht a bad
      obtain ⟨K2, e2⟩ := ih (i + 1) (txtR t a bad).2.1 (txtR t a bad).2.2 (V ++ [⟨0, (txtR t a bad).1⟩]) (by omega) (by simp [hV]) (by
        intro x hx
        rcases List.mem_append.1 hx with hx | hx
        · exact hv x hx
        · rw [List.mem_singleton.1 hx]; exact txtR_size t a bad)
      refine ev_succ ⟨K + K2, fun k hk => ?_⟩
      dsimp only at e e2
      rw [spec_ReadThing.j1, if_pos rfl, if_pos (by omega), if_pos (by omega), if_neg c, e k (by omega), Option.bind_some, if_pos (by show V.length < _; omega), w64 (by omega) (by omega)]
      exact e2 k (by omega)
theorem spec_ReadThing_fev (F : List S123) (t : ByteArray) (hF : F.length ≤ 1048576) (hs : ∀ x ∈ F, x.f0.size ≤ 9223372036854775807) (ht : t.size ≤ 140737488351232) : Ev (fun k => spec_ReadThing.f k F t) (readThingR F t) := by
  have h := spec_ReadThing_loop F t hF hs ht (min 10 F.length) 0 0 false [] (by omega) rfl (fun x hx => by cases hx)
  rw [List.drop_zero] at h
  exact h
theorem impl_ReadVar_ev (s : ByteArray) (hs : s.size ≤ 140737488351232) (a : Nat) (ha : a ≤ s.size) : ∀ (d j : Nat) (n : Int), 5 - j = d → j ≤ 5 → a + j ≤ s.size → 0 ≤ n → n < 128 ^ j → decAt ((bytesOf s).drop a) j n →
    Ev (fun k => impl_ReadVar.l0 k s (a : Int) n (j : Int)) (rvL a ((bytesOf s).drop a)) := by
  have hrange : ∀ x ∈ (bytesOf s).drop a, 0 ≤ x ∧ x ≤ 255 := fun x hx => bytesOf_range s x (List.mem_of_mem_drop hx)
  intro d
  induction d with
  | zero =>
    intro j n hd hj hl h0 h1 hD
    obtain rfl : j = 5 := by omega
    rw [rvL_none (decAt_over hD)]
    refine ev_succ ⟨1, fun k hk => ?_⟩
    obtain ⟨k, rfl⟩ : ∃ m, k = m + 1 := ⟨k - 1, by omega⟩
    rw [impl_ReadVar.l0, if_neg (by omega), impl_ReadVar.j1, if_neg (by decide)]
  | succ d ih =>
    intro j n hd hj hl h0 h1 hD
    by_cases c : a + j < s.size
    · have hdrop : ((bytesOf s).drop a).drop j = bt s ((a : Int) + j) :: ((bytesOf s).drop (a + j + 1)) := by
        rw [List.drop_drop, bytesOf_drop s (a + j) c]
        rw [show ((a + j : Nat) : Int) = (a : Int) + j by omega]
      have hget : ((bytesOf s).drop a).getD j 0 = bt s ((a : Int) + j) := by
        have : ((bytesOf s).drop a)[j]? = some (bt s ((a : Int) + j)) := by
          have := congrArg (fun l : List Int => l[0]?) hdrop
          simpa using this
        rw [List.getD_eq_getElem?_getD, this]
        rfl
      have hb0 := bt_lo s ((a : Int) + j)
      have hb1 := bt_hi s ((a : Int) + j)
      obtain ⟨m1, m2, m3, m4⟩ := rv_mul j (by omega) n (bt s ((a : Int) + j)) h0 h1 hb0 hb1
      have m0 := rv_or j (by omega) n (bt s ((a : Int) + j)) h0 h1 hb0 hb1
      have hw : wrap64 (bt s ((a : Int) + j)) = bt s ((a : Int) + j) := w64 (by omega) (by omega)
      rw [hw] at m0
      by_cases cb : bt s ((a : Int) + j) < 128
      · have hE := decAt_end hD (by omega) hdrop cb
        have hC := decL_canon 5 _ _ _ hrange hE
        rw [show 1 + j - 1 = j by omega, hget] at hC
        rw [show bt s ((a : Int) + j) % 128 = bt s ((a : Int) + j) by omega] at m0 m1 m2 m3 m4
        refine ev_succ ⟨1, fun k hk => ?_⟩
        obtain ⟨k, rfl⟩ : ∃ m, k = m + 1 := ⟨k - 1, by omega⟩
        rw [impl_ReadVar.l0, if_pos (by omega), w64 (n := (a : Int) + j) (by omega) (by omega), decide_eq_true (by omega), impl_ReadVar.j1, if_pos rfl, w64 (n := (a : Int) + j) (by omega) (by omega), if_pos (by omega), if_pos (by omega), w64 (n := 7 * (j : Int)) (by omega) (by omega), if_pos (by omega), hw, if_neg (by omega)]
        rw [w64 (n := 7 * (j : Int)) (by omega) (by omega)] at m0
        rw [m0, w64 (n := (a : Int) + j + 1) (by omega) (by omega)]
        have hN : ¬ (n + 128 ^ j * bt s ((a : Int) + j) > 1000000000) → ¬ (bt s ((a : Int) + j) = 0 ∧ j > 0) → rvL a ((bytesOf s).drop a) = (n + 128 ^ j * bt s ((a : Int) + j), (a : Int) + j + 1, true) := by
          intro g1 g2
          rw [rvL_good hE (by omega) (hC.2 (fun h => g2 ⟨h.2, by omega⟩))]
          simp only [Prod.mk.injEq, and_true, true_and]
          omega
        have hM : n + 128 ^ j * bt s ((a : Int) + j) > 1000000000 → rvL a ((bytesOf s).drop a) = (0, 0, false) := fun g => rvL_bad hE (fun h => by omega)
        by_cases cz : bt s ((a : Int) + j) = 0
        · rw [if_pos cz]
          by_cases cj : (j : Int) > 0
          · rw [if_pos cj, rvL_bad hE]
            intro h
            exact hC.1 h.2 ⟨by omega, cz⟩
          · rw [if_neg cj]
            by_cases cm : n + 128 ^ j * bt s ((a : Int) + j) > 1000000000
            · rw [if_pos cm, hM cm]
            · rw [if_neg cm, hN cm (by omega)]
        · rw [if_neg cz]
          by_cases cm : n + 128 ^ j * bt s ((a : Int) + j) > 1000000000
          · rw [if_pos cm, hM cm]
          · rw [if_neg cm, hN cm (by omega)]
      · have hN := decAt_next hD (by omega) hdrop cb
        rw [show bt s ((a : Int) + j) % 128 = bt s ((a : Int) + j) - 128 by omega] at m0 m1 m2 m3 m4
        have hi := ih (j + 1) _ (by omega) (by omega) (by omega) m2 m3 hN
        obtain ⟨K, hK⟩ := hi
        dsimp only at hK
        refine ev_succ ⟨K + 1, fun k hk => ?_⟩
        obtain ⟨k, rfl⟩ : ∃ m, k = m + 1 := ⟨k - 1, by omega⟩
        rw [w64 (n := 7 * (j : Int)) (by omega) (by omega)] at m0
        rw [impl_ReadVar.l0, if_pos (by omega), w64 (n := (a : Int) + j) (by omega) (by omega), decide_eq_true (by omega), impl_ReadVar.j1, if_pos rfl, w64 (n := (a : Int) + j) (by omega) (by omega), if_pos (by omega), if_pos (by omega), w64 (n := 7 * (j : Int)) (by omega) (by omega), if_pos (by omega), hw, if_pos (by omega), m0, w64 (n := (j : Int) + 1) (by omega) (by omega)]
        have := hK k (by omega)
        simp only [Int.natCast_add, Int.natCast_one] at this
        exact this
    · have hdrop : ((bytesOf s).drop a).drop j = [] := by
        rw [List.drop_drop, List.drop_eq_nil_iff, bytesOf_length]; omega
      rw [rvL_none (decAt_short hD hdrop)]
      refine ev_succ ⟨1, fun k hk => ?_⟩
      obtain ⟨k, rfl⟩ : ∃ m, k = m + 1 := ⟨k - 1, by omega⟩
      rw [impl_ReadVar.l0, if_pos (by omega), w64 (n := (a : Int) + j) (by omega) (by omega), decide_eq_false (by omega), impl_ReadVar.j1, if_neg (by decide)]
theorem impl_ReadVar_fev (s : ByteArray) (hs : s.size ≤ 140737488351232) (a : Int) : Ev (fun k => impl_ReadVar.f k s a) (rvR s a) := by
  unfold rvR
  by_cases c : 0 ≤ a ∧ a ≤ (s.size : Int)
  · rw [if_pos c]
    have := impl_ReadVar_ev s hs a.toNat (by omega) 5 0 0 (by omega) (by omega) (by omega) (by omega) (by simp) (decAt_zero _)
    rw [show ((a.toNat : Nat) : Int) = a by omega] at this
    simp only [Int.natCast_zero] at this
    refine Ev.congr (fun k => ?_) this
    unfold impl_ReadVar.f impl_in.f
    rw [if_pos (by omega), Option.bind_some, decide_eq_true (by omega), if_pos rfl]
  · rw [if_neg c]
    refine ev_some fun k => ?_
    unfold impl_ReadVar.f impl_in.f
    by_cases c1 : a ≥ 0
    · rw [if_pos c1, Option.bind_some, decide_eq_false (by omega), if_neg (by decide)]
    · rw [if_neg c1, Option.bind_some, if_neg (by decide)]
theorem impl_ReadShort_fev (s : ByteArray) (hs : s.size ≤ 140737488351232) (a : Int) : Ev (fun k => impl_ReadShort.f k s a) (rsR s a) := by
  refine ev_call (impl_ReadVar_fev s hs a) (ev_some fun k => ?_) (fun k => rfl)
  unfold rsR
  rcases hr : rvR s a with ⟨n, nx, ok⟩
  cases ok with
  | false => simp
  | true =>
    obtain ⟨u, h1, h2, h3, h4, h5, h6, h7, h8⟩ := rvR_tells s a n nx hr
    simp only [if_true, true_and]
    rw [w64 (n := (s.size : Int) - nx) (by omega) (by omega)]
    by_cases c : n ≤ 20000
    · rw [if_neg (by omega)]
      by_cases c2 : n ≤ (s.size : Int) - nx
      · rw [if_neg (by omega), if_pos (by omega), w64 (n := nx + n) (by omega) (by omega), if_pos (by omega), if_pos (by omega), if_pos ⟨c, c2⟩]
      · rw [if_pos (by omega), if_neg (by omega)]
    · rw [if_pos (by omega), if_neg (by omega)]
def thFin (F : List S123) (t : ByteArray) (p : Int × Bool × List S143) : List S143 × Bool := if p.2.1 = false ∧ p.1 = (t.size : Int) ∧ thingOkR F p.2.2 = true then (p.2.2, true) else ([], false)
theorem thFin_bad (F : List S123) (t : ByteArray) (p : Int × Bool × List S143) (h : p.2.1 = true) : thFin F t p = ([], false) := by unfold thFin; rw [if_neg (by rw [h]; simp)]
theorem impl_ReadThing_loop (F : List S123) (t : ByteArray) (hF : F.length ≤ 1048576) (hs : ∀ x ∈ F, x.f0.size ≤ 9223372036854775807) (ht : t.size ≤ 140737488351232) : ∀ (d i : Nat) (a : Int) (V : List S143), i + d = F.length → V.length = i → Ev (fun k => impl_ReadThing.l0 k F t V a F (F.length : Int) (i : Int)) (thFin F t (thP t (F.drop i) a false V)) := by
  intro d
  induction d with
  | zero =>
    intro i a V hi hV
    rw [List.drop_eq_nil_of_le (by omega)]
    obtain ⟨K, e⟩ := impl_ThingOk_fev F V hF hs
    refine ev_succ ⟨K, fun k hk => ?_⟩
    dsimp only at e
    rw [impl_ReadThing.l0, if_neg (by omega)]
    unfold thP thFin
    dsimp only
    by_cases c : a = (t.size : Int)
    · rw [if_pos c, e k hk, Option.bind_some]
      by_cases c2 : thingOkR F V = true
      · rw [if_pos c2, if_pos ⟨rfl, c, c2⟩]
      · rw [if_neg c2, if_neg (fun h => c2 h.2.2)]
    · rw [if_neg c, if_neg (fun h => c h.2.1)]
  | succ d ih =>
    intro i a V hi hV
    have hd : F.drop i = rd_T123 F (i : Int) :: F.drop (i + 1) := drop_rdOf z123 F i (by omega)
    rw [hd]
    unfold thP
    by_cases c : (rd_T123 F (i : Int)).f1 = 1
    · rw [if_pos c]
      obtain ⟨K, e⟩ := impl_ReadVar_fev t ht a
      rcases hr : rvR t a with ⟨n, b, ok⟩
      rw [hr] at e
      cases ok with
      | false =>
        have hn : numR t 1000000000 a false = (0, a, true) := by unfold numR; rw [hr, if_neg (by simp)]
        rw [hn, thFin_bad _ _ _ (thP_bad _ _ _ _)]
        refine ev_succ ⟨K, fun k hk => ?_⟩
        dsimp only at e
        rw [impl_ReadThing.l0, if_pos (by omega), if_pos (by omega), if_pos (by omega), if_pos c, e k hk, Option.bind_some, if_neg (by simp)]
      | true =>
        obtain ⟨_, _, h3⟩ := rvR_took hr
        have hn : numR t 1000000000 a false = (n, b, false) := by unfold numR; rw [hr, if_pos ⟨rfl, rfl, h3⟩]
        rw [hn]
        obtain ⟨K2, e2⟩ := ih (i + 1) b (V ++ [⟨n, ⟨#[]⟩⟩]) (by omega) (by simp [hV])
        refine ev_succ ⟨K + K2, fun k hk => ?_⟩
        dsimp only at e e2
        rw [impl_ReadThing.l0, if_pos (by omega), if_pos (by omega), if_pos (by omega), if_pos c, e k (by omega), Option.bind_some, if_pos rfl, if_pos (by show V.length < _; omega), w64 (by omega) (by omega)]
        exact e2 k (by omega)
    · rw [if_neg c]
      obtain ⟨K, e⟩ := impl_ReadShort_fev t ht a
      rcases hr : rsR t a with ⟨n, b, ok⟩
      rw [hr] at e
      cases ok with
      | false =>
        have hn : txtR t a false = (⟨#[]⟩, a, true) := by unfold txtR; rw [hr, if_neg (by simp)]
        rw [hn, thFin_bad _ _ _ (thP_bad _ _ _ _)]
        refine ev_succ ⟨K, fun k hk => ?_⟩
        dsimp only at e
        rw [impl_ReadThing.l0, if_pos (by omega), if_pos (by omega), if_pos (by omega), if_neg c, e k hk, Option.bind_some, if_neg (by simp)]
      | true =>
        have hn : txtR t a false = (n, b, false) := by unfold txtR; rw [hr, if_pos ⟨rfl, rfl⟩]
        rw [hn]
        obtain ⟨K2, e2⟩ := ih (i + 1) b (V ++ [⟨0, n⟩]) (by omega) (by simp [hV])
        refine ev_succ ⟨K + K2, fun k hk => ?_⟩
        dsimp only at e e2
        rw [impl_ReadThing.l0, if_pos (by omega), if_pos (by omega), if_pos (by omega), if_neg c, e k (by omega), Option.bind_some, if_pos rfl, if_pos (by show V.length < _; omega), w64 (by omega) (by omega)]
        exact e2 k (by omega)
theorem impl_ReadThing_fev (F : List S123) (t : ByteArray) (hF : F.length ≤ 1048576) (hs : ∀ x ∈ F, x.f0.size ≤ 9223372036854775807) (ht : t.size ≤ 140737488351232) : Ev (fun k => impl_ReadThing.f k F t) (readThingR F t) := by
  have h := impl_ReadThing_loop F t hF hs ht F.length 0 0 [] (by omega) rfl
  rw [List.drop_zero] at h
  rw [readThingR_impl]
  exact h
theorem spec_l01Byte_draws (b : List Int) (hb : b.length ≤ 140737488351232) (i h : Int) (hi : 0 ≤ i) : ∃ x i' h' : Int, spec_l01Byte.f b i h = some (x, i', h') ∧ 0 ≤ x ∧ x ≤ 255 ∧ 0 ≤ i' := by
  unfold spec_l01Byte.f
  by_cases c : i < (b.length : Int)
  · rw [if_pos c, if_pos hi, w64 (n := i + 1) (by omega) (by omega)]
    have hr := fun y => i64_and_range y 255 (by omega) (by omega)
    exact ⟨_, _, _, rfl, (hr _).1, (hr _).2, by omega⟩
  · rw [if_neg c]
    have hr := fun y => i64_and_range y 255 (by omega) (by omega)
    exact ⟨_, _, _, rfl, (hr _).1, (hr _).2, hi⟩
theorem spec_l01Below_draws (b : List Int) (hb : b.length ≤ 140737488351232) (i h n : Int) (hi : 0 ≤ i) : ∃ x i' h' : Int, spec_l01Below.f b i h n = some (x, i', h') ∧ (0 < n → 0 ≤ x ∧ x < n) ∧ 0 ≤ i' ∧ 0 ≤ x ∧ (n ≤ 0 → x = 0) := by
  unfold spec_l01Below.f
  by_cases c : n ≤ 0
  · rw [if_pos c]
    exact ⟨0, i, h, rfl, fun hn => by omega, hi, by omega, fun _ => rfl⟩
  · rw [if_neg c]
    obtain ⟨x1, i1, h1, e1, l1, u1, p1⟩ := spec_l01Byte_draws b hb i h hi
    by_cases c2 : n ≤ 256
    · rw [if_pos c2, e1, Option.bind_some, if_neg (by omega)]
      have ht : Int.tmod x1 n = x1 % n := Int.tmod_eq_emod_of_nonneg l1
      have g1 := Int.emod_nonneg x1 (by omega : n ≠ 0)
      have g2 := Int.emod_lt_of_pos x1 (by omega : 0 < n)
      exact ⟨_, _, _, rfl, fun _ => by simp only; rw [ht]; exact ⟨g1, g2⟩, p1, by simp only; rw [ht]; exact g1, fun h => absurd h c⟩
    · rw [if_neg c2, e1, Option.bind_some]
      obtain ⟨x2, i2, h2, e2, l2, u2, p2⟩ := spec_l01Byte_draws b hb i1 h1 p1
      obtain ⟨x3, i3, h3, e3, l3, u3, p3⟩ := spec_l01Byte_draws b hb i2 h2 p2
      obtain ⟨x4, i4, h4, e4, l4, u4, p4⟩ := spec_l01Byte_draws b hb i3 h3 p3
      rw [e2, Option.bind_some, e3, Option.bind_some, e4, Option.bind_some, if_neg (by omega)]
      simp only
      rw [w64 (n := x1 * 16777216) (by omega) (by omega), w64 (n := x2 * 65536) (by omega) (by omega), w64 (n := x1 * 16777216 + _) (by omega) (by omega), w64 (n := x3 * 256) (by omega) (by omega), w64 (n := x1 * 16777216 + x2 * 65536 + _) (by omega) (by omega), w64 (by omega) (by omega)]
      have ht : Int.tmod (x1 * 16777216 + x2 * 65536 + x3 * 256 + x4) n = (x1 * 16777216 + x2 * 65536 + x3 * 256 + x4) % n := Int.tmod_eq_emod_of_nonneg (by omega)
      have g1 := Int.emod_nonneg (x1 * 16777216 + x2 * 65536 + x3 * 256 + x4) (by omega : n ≠ 0)
      have g2 := Int.emod_lt_of_pos (x1 * 16777216 + x2 * 65536 + x3 * 256 + x4) (by omega : 0 < n)
      exact ⟨_, _, _, rfl, fun _ => by rw [ht]; exact ⟨g1, g2⟩, p4, by rw [ht]; exact g1, fun h => absurd h c⟩
theorem spec_l01Pick_draws (b : List Int) (hb : b.length ≤ 140737488351232) (i h : Int) (hi : 0 ≤ i) (l : List ByteArray) (hl : 0 < l.length) : ∃ (x : ByteArray) (i' h' : Int), spec_l01Pick.f b i h l = some (x, i', h') ∧ x ∈ l ∧ 0 ≤ i' := by
  obtain ⟨x, i', h', e, r, p, _⟩ := spec_l01Below_draws b hb i h (l.length : Int) hi
  have r' := r (by omega)
  unfold spec_l01Pick.f
  rw [e, Option.bind_some, if_pos r'.1, if_pos r'.2]
  obtain ⟨m, rfl⟩ := Int.eq_ofNat_of_zero_le r'.1
  exact ⟨_, _, _, rfl, rdOf_mem _ l m (by have := r'.2; omega), p⟩
def schemaAll : List S123 := [⟨(⟨#[97, 103, 101]⟩ : ByteArray), 1⟩, ⟨(⟨#[110, 97, 109, 101]⟩ : ByteArray), 2⟩, ⟨(⟨#[120]⟩ : ByteArray), 1⟩]
theorem spec_l04Schema_draws (b : List Int) (hb : b.length ≤ 140737488351232) (i h : Int) (hi : 0 ≤ i) : ∃ (n : Nat) (i' h' : Int), spec_l04Schema.f b i h = some (schemaAll.take n, i', h') ∧ 1 ≤ n ∧ n ≤ 3 ∧ 0 ≤ i' := by
  obtain ⟨x, i1, h1, e1, r1, p1, _⟩ := spec_l01Below_draws b hb i h 3 hi
  have rx := r1 (by omega)
  refine ⟨(1 + x).toNat, i1, h1, ?_, by omega, by omega, p1⟩
  unfold spec_l04Schema.f
  have hl : (schemaAll.length : Int) = 3 := rfl
  rw [Option.bind_some, e1, Option.bind_some, w64 (by omega) (by omega), if_pos (by omega)]
  show (if 1 + x ≤ (schemaAll.length : Int) then some (schemaAll.take (1 + x).toNat, i1, h1) else none) = _
  rw [if_pos (by omega)]
theorem schemaAll_small (n : Nat) : ∀ x ∈ schemaAll.take n, x.f0.size ≤ 5 := by
  intro x hx
  have hx := List.mem_of_mem_take hx
  simp only [schemaAll, List.mem_cons, List.not_mem_nil, or_false] at hx
  rcases hx with rfl | rfl | rfl <;> decide
theorem schemaAll_length (n : Nat) (h : 1 ≤ n) (h3 : n ≤ 3) : (schemaAll.take n).length = n := by
  rw [List.length_take]
  have : schemaAll.length = 3 := rfl
  omega
theorem set_small {l : List S123} {v : S123} {m : Nat} (h : ∀ x ∈ l, x.f0.size ≤ m) (hv : v.f0.size ≤ m) : ∀ x ∈ l.set 0 v, x.f0.size ≤ m := by
  intro x hx
  rcases List.mem_or_eq_of_mem_set hx with h1 | h1
  · exact h x h1
  · rw [h1]; exact hv
theorem spec_l04AnySchema_draws (b : List Int) (hb : b.length ≤ 140737488351232) (i h : Int) (hi : 0 ≤ i) : ∃ (F : List S123) (i' h' : Int), spec_l04AnySchema.f b i h = some (F, i', h') ∧ F.length ≤ 6 ∧ (∀ x ∈ F, x.f0.size ≤ 5) ∧ 0 ≤ i' := by
  obtain ⟨n, i1, h1, e1, n1, n3, p1⟩ := spec_l04Schema_draws b hb i h hi
  obtain ⟨x, i2, h2, e2, r2, p2, _⟩ := spec_l01Below_draws b hb i1 h1 8 p1
  have hl := schemaAll_length n n1 n3
  have hs := schemaAll_small n
  unfold spec_l04AnySchema.f
  rw [Option.bind_some, e1, Option.bind_some]
  generalize schemaAll.take n = L at hl hs ⊢
  dsimp only
  rw [if_pos (by simp only [List.length_nil]; omega), Option.bind_some, List.nil_append, e2, Option.bind_some]
  dsimp only
  by_cases c0 : x = 0
  · obtain ⟨s, i3, h3, e3, m3, p3⟩ := spec_l01Pick_draws b hb i2 h2 p2 ([(⟨#[]⟩ : ByteArray), (⟨#[65]⟩ : ByteArray), (⟨#[97, 98, 99, 100, 101]⟩ : ByteArray), (⟨#[110, 97, 109, 101]⟩ : ByteArray)]) (by decide)
    have hz : s.size ≤ 5 := by
      simp only [List.mem_cons, List.not_mem_nil, or_false] at m3
      rcases m3 with rfl | rfl | rfl | rfl <;> decide
    rw [if_pos c0, e3, Option.bind_some, if_pos (by omega)]
    exact ⟨_, _, _, rfl, by simp; omega, set_small hs hz, p3⟩
  · rw [if_neg c0]
    by_cases c1 : x = 1
    · obtain ⟨y, i3, h3, e3, _, p3, _⟩ := spec_l01Below_draws b hb i2 h2 4 p2
      rw [if_pos c1, e3, Option.bind_some, if_pos (by omega)]
      exact ⟨_, _, _, rfl, by simp; omega, set_small hs (show (rd_T123 L 0).f0.size ≤ 5 from hs _ (rdOf_mem z123 L 0 (by omega))), p3⟩
    · rw [if_neg c1]
      by_cases c2 : x = 2
      · rw [if_pos c2, if_pos (by omega)]
        refine ⟨_, _, _, rfl, by simp; omega, fun y hy => ?_, p2⟩
        rcases List.mem_append.1 hy with hy | hy <;> exact hs y hy
      · rw [if_neg c2]
        by_cases c3 : x = 3
        · rw [if_pos c3]
          exact ⟨_, _, _, rfl, by simp, (fun y hy => by cases hy), p2⟩
        · rw [if_neg c3]
          exact ⟨_, _, _, rfl, by omega, hs, p2⟩
theorem spec_l01New_loop (b : List Int) (hb : b.length ≤ 140737488351232) : ∀ (d i : Nat) (h : Int), i + d = b.length → ∃ h' : Int, Ev (fun k => spec_l01New.l0 k b h (i : Int)) (b, 0, h') := by
  intro d
  induction d with
  | zero =>
    intro i h hi
    exact ⟨h, ev_end fun k => by rw [spec_l01New.l0, if_neg (by omega)]⟩
  | succ d ih =>
    intro i h hi
    by_cases c : i < 4000
    · obtain ⟨h', e⟩ := ih (i + 1) (Go.bits .and .i64 (wrap64 ((wrap64 ((wrap64 (h * 131)) + (wrap64 (rd b (i : Int))))) + 7)) 1073741823) (by omega)
      refine ⟨h', ev_go e fun k => ?_⟩
      rw [spec_l01New.l0, if_pos (by omega), if_pos (by omega), if_pos (by omega), w64 (n := (i : Int) + 1) (by omega) (by omega)]
      rfl
    · exact ⟨h, ev_end fun k => by rw [spec_l01New.l0, if_pos (by omega), if_neg (by omega)]⟩
theorem spec_l01New_draws (b : List Int) (hb : b.length ≤ 140737488351232) : ∃ h : Int, Ev (fun k => spec_l01New.f k b) (b, 0, h) :=
  spec_l01New_loop b hb b.length 0 _ (by omega)
theorem spec_l01PickInt_draws (b : List Int) (hb : b.length ≤ 140737488351232) (i h : Int) (hi : 0 ≤ i) (l : List Int) (hl : 0 < l.length) : ∃ (x i' h' : Int), spec_l01PickInt.f b i h l = some (x, i', h') ∧ x ∈ l ∧ 0 ≤ i' := by
  obtain ⟨x, i', h', e, r, p, _⟩ := spec_l01Below_draws b hb i h (l.length : Int) hi
  have r' := r (by omega)
  unfold spec_l01PickInt.f
  rw [e, Option.bind_some, if_pos r'.1, if_pos r'.2]
  obtain ⟨m, rfl⟩ := Int.eq_ofNat_of_zero_le r'.1
  exact ⟨_, _, _, rfl, rd_mem l m (by have := r'.2; omega), p⟩
theorem spec_l04ValueOf_draws (b : List Int) (hb : b.length ≤ 140737488351232) (i h kind : Int) (hi : 0 ≤ i) : ∃ (n : Int) (s : ByteArray) (i' h' : Int), spec_l04ValueOf.f b i h kind = some (n, s, i', h') ∧ s.size ≤ 6 ∧ (kind = 1 ∨ kind = 2 → valueOkR kind n s = true) ∧ 0 ≤ i' := by
  unfold spec_l04ValueOf.f
  by_cases c : kind = 1
  · obtain ⟨x, i1, h1, e1, r1, p1, _⟩ := spec_l01Below_draws b hb i h 50 hi
    obtain ⟨y, i2, h2, e2, m2, p2⟩ := spec_l01PickInt_draws b hb i1 h1 p1 [0, 1, 7, 256, 65535, 999999, x] (by simp)
    have rx := r1 (by omega)
    rw [if_pos c, e1, Option.bind_some]
    dsimp only
    rw [e2, Option.bind_some]
    refine ⟨_, _, _, _, rfl, Nat.zero_le _, fun _ => ?_, p2⟩
    dsimp only
    unfold valueOkR
    have hy : 0 ≤ y ∧ y ≤ 999999 := by
      simp only [List.mem_cons, List.not_mem_nil, or_false] at m2
      omega
    rw [if_pos c, decide_eq_true hy]
    rfl
  · obtain ⟨y, i2, h2, e2, m2, p2⟩ := spec_l01Pick_draws b hb i h hi ([(⟨#[]⟩ : ByteArray), (⟨#[97]⟩ : ByteArray), (⟨#[98]⟩ : ByteArray), (⟨#[97, 110, 110]⟩ : ByteArray), (⟨#[98, 111, 98]⟩ : ByteArray), (⟨#[122, 122, 122, 122, 122, 122]⟩ : ByteArray)]) (by decide)
    rw [if_neg c, e2, Option.bind_some]
    refine ⟨_, _, _, _, rfl, ?_, fun hk => ?_, p2⟩
    · dsimp only
      simp only [List.mem_cons, List.not_mem_nil, or_false] at m2
      rcases m2 with rfl | rfl | rfl | rfl | rfl | rfl <;> decide
    · dsimp only
      have k2 : kind = 2 := by omega
      subst k2
      simp only [List.mem_cons, List.not_mem_nil, or_false] at m2
      rcases m2 with rfl | rfl | rfl | rfl | rfl | rfl <;> decide
def Drew (F : List S123) (V : List S143) (n : Nat) : Prop := V.length = n ∧ (∀ x ∈ V, x.f1.size ≤ 7) ∧ ∀ (i : Nat) (h1 : i < F.length) (h2 : i < V.length), F[i].f1 = 1 ∨ F[i].f1 = 2 → valueOkR F[i].f1 V[i].f0 V[i].f1 = true
theorem spec_l04Thing_loop (b : List Int) (hb : b.length ≤ 140737488351232) (F : List S123) (hF : F.length ≤ 1048576) : ∀ (d j : Nat) (V : List S143) (i h : Int), j + d = F.length → Drew F V j → 0 ≤ i → ∃ (W : List S143) (i' h' : Int), Ev (fun k => spec_l04Thing.l0 k F V (j : Int) b i h) (W, i', h') ∧ Drew F W F.length ∧ 0 ≤ i' := by
  intro d
  induction d with
  | zero =>
    intro j V i h hj hV hi
    refine ⟨V, i, h, ev_end fun k => ?_, by rw [show F.length = j by omega]; exact hV, hi⟩
    rw [spec_l04Thing.l0, if_neg (by omega)]
  | succ d ih =>
    intro j V i h hj hV hi
    obtain ⟨n, s, i1, h1, e1, q1, q2, p1⟩ := spec_l04ValueOf_draws b hb i h (rd_T123 F (j : Int)).f1 hi
    have hl := hV.1
    obtain ⟨W, i', h', e2, g, p⟩ := ih (j + 1) (V ++ [⟨n, s⟩]) i1 h1 (by omega) ⟨by simp [hl], (by
      intro x hx
      rcases List.mem_append.1 hx with hx | hx
      · exact hV.2.1 x hx
      · rw [List.mem_singleton.1 hx]; exact Nat.le_trans q1 (by omega)), (by
      intro q hq1 hq2 hk
      by_cases c : q < V.length
      · rw [List.getElem_append_left c]
        exact hV.2.2 q hq1 c hk
      · have e : q = j := by simp at hq2; omega
        subst e
        have hg : F[q] = rd_T123 F (q : Int) := (rdOf_get z123 F q hq1).symm
        rw [List.getElem_append_right (by omega)]
        have : (([⟨n, s⟩] : List S143)[q - V.length]'(by simp at hq2 ⊢; omega)) = ⟨n, s⟩ := by
          have : q - V.length = 0 := by omega
          simp [this]
        rw [this, hg]
        rw [hg] at hk
        exact q2 hk)⟩ p1
    refine ⟨W, i', h', ev_go e2 fun k => ?_, g, p⟩
    rw [spec_l04Thing.l0, if_pos (by omega), if_pos (by omega), e1, Option.bind_some, if_pos (by omega), w64 (by omega) (by omega)]
    rfl
theorem spec_l04Thing_draws (b : List Int) (hb : b.length ≤ 140737488351232) (F : List S123) (hF : F.length ≤ 1048576) (i h : Int) (hi : 0 ≤ i) : ∃ (W : List S143) (i' h' : Int), Ev (fun k => spec_l04Thing.f k b i h F) (W, i', h') ∧ Drew F W F.length ∧ 0 ≤ i' :=
  spec_l04Thing_loop b hb F hF F.length 0 [] i h (by omega) ⟨rfl, (fun x hx => by cases hx), fun q _ h2 => absurd h2 (by simp)⟩ hi
theorem vset_small {l : List S143} {v : S143} {m : Nat} (h : ∀ x ∈ l, x.f1.size ≤ m) (hv : v.f1.size ≤ m) : ∀ x ∈ l.set 0 v, x.f1.size ≤ m := by
  intro x hx
  rcases List.mem_or_eq_of_mem_set hx with h1 | h1
  · exact h x h1
  · rw [h1]; exact hv
theorem spec_l04AnyThing_draws (b : List Int) (hb : b.length ≤ 140737488351232) (F : List S123) (hF : F.length ≤ 1048576) (i h : Int) (hi : 0 ≤ i) : ∃ (W : List S143) (i' h' : Int), Ev (fun k => spec_l04AnyThing.f k b i h F) (W, i', h') ∧ W.length ≤ F.length ∧ (∀ x ∈ W, x.f1.size ≤ 7) ∧ 0 ≤ i' := by
  obtain ⟨V, i1, h1, ⟨K, e1⟩, ⟨g1, g2, _⟩, p1⟩ := spec_l04Thing_draws b hb F hF i h hi
  dsimp only at e1
  by_cases c : V.length = 0
  · refine ⟨V, i1, h1, ⟨K, fun k hk => ?_⟩, by omega, g2, p1⟩
    dsimp only
    unfold spec_l04AnyThing.f
    rw [e1 k hk, Option.bind_some, if_pos (by show (V.length : Int) = 0; omega)]
  · obtain ⟨x, i2, h2, e2, _, p2, _⟩ := spec_l01Below_draws b hb i1 h1 8 p1
    have start : ∀ k, K ≤ k → spec_l04AnyThing.f k b i h F = _ := fun k hk => by
      unfold spec_l04AnyThing.f
      rw [e1 k hk, Option.bind_some, if_neg (by show ¬ (V.length : Int) = 0; omega), e2, Option.bind_some]
    by_cases c0 : x = 0
    · obtain ⟨y, i3, h3, e3, m3, p3⟩ := spec_l01PickInt_draws b hb i2 h2 p2 [-1, 1000000, 5] (by simp)
      refine ⟨V.set 0 ⟨y, (rd_T143 V 0).f1⟩, i3, h3, ⟨K, fun k hk => ?_⟩, by simp; omega, vset_small g2 (show (rd_T143 V 0).f1.size ≤ 7 from g2 _ (rdOf_mem z143 V 0 (by omega))), p3⟩
      dsimp only
      rw [start k hk, if_pos c0]
      dsimp only
      rw [e3, Option.bind_some, if_pos (by omega)]
      rfl
    · by_cases c1 : x = 1
      · obtain ⟨y, i3, h3, e3, m3, p3⟩ := spec_l01Pick_draws b hb i2 h2 p2 ([(⟨#[120]⟩ : ByteArray), (⟨#[97, 98, 99, 100, 101, 102, 103]⟩ : ByteArray), (⟨#[0]⟩ : ByteArray)]) (by decide)
        have hz : y.size ≤ 7 := by
          simp only [List.mem_cons, List.not_mem_nil, or_false] at m3
          rcases m3 with rfl | rfl | rfl <;> decide
        refine ⟨V.set 0 ⟨(rd_T143 V 0).f0, y⟩, i3, h3, ⟨K, fun k hk => ?_⟩, by simp; omega, vset_small g2 hz, p3⟩
        dsimp only
        rw [start k hk, if_neg c0, if_pos c1]
        dsimp only
        rw [e3, Option.bind_some, if_pos (by omega)]
        rfl
      · by_cases c2 : x = 2
        · refine ⟨V.drop 1, i2, h2, ⟨K, fun k hk => ?_⟩, by simp; omega, (fun y hy => g2 y (List.mem_of_mem_drop hy)), p2⟩
          dsimp only
          rw [start k hk, if_neg c0, if_neg c1, if_pos c2]
          dsimp only
          rw [if_pos (by omega)]
          rfl
        · refine ⟨V, i2, h2, ⟨K, fun k hk => ?_⟩, by omega, g2, p2⟩
          dsimp only
          rw [start k hk, if_neg c0, if_neg c1, if_neg c2]
theorem spec_DrawThingOk_draws (b : List Int) (hb : b.length ≤ 140737488351232) : ∃ (F : List S123) (V : List S143), Ev (fun k => spec_DrawThingOk.f k b) (F, V) ∧ F.length ≤ 6 ∧ (∀ x ∈ F, x.f0.size ≤ 5) ∧ V.length ≤ 6 ∧ (∀ x ∈ V, x.f1.size ≤ 7) := by
  obtain ⟨h, K, e⟩ := spec_l01New_draws b hb
  obtain ⟨F, i1, h1, e1, q1, q2, p1⟩ := spec_l04AnySchema_draws b hb 0 h (Int.le_refl 0)
  obtain ⟨V, i2, h2, ⟨K2, e2⟩, g1, g2, _⟩ := spec_l04AnyThing_draws b hb F (by omega) i1 h1 p1
  refine ⟨F, V, ⟨K + K2, fun k hk => ?_⟩, q1, q2, by omega, g2⟩
  dsimp only at e e2 ⊢
  unfold spec_DrawThingOk.f
  rw [e k (by omega), Option.bind_some, e1, Option.bind_some]
  dsimp only
  rw [e2 k (by omega), Option.bind_some]
theorem spec_DrawThingText_draws (b : List Int) (hb : b.length ≤ 140737488351232) : ∃ (F : List S123) (V : List S143), Ev (fun k => spec_DrawThingText.f k b) (F, V) ∧ F.length ≤ 6 ∧ (∀ x ∈ F, x.f0.size ≤ 5) ∧ V.length ≤ 6 ∧ (∀ x ∈ V, x.f1.size ≤ 7) := by
  obtain ⟨F, V, e, h⟩ := spec_DrawThingOk_draws b hb
  exact ⟨F, V, ev_call e (c := fun _ t => some (t.1, t.2)) (Ev.now _) fun k => rfl, h⟩
theorem spec_l01Once_draws (b : List Int) (hb : b.length ≤ 140737488351232) (i h n : Int) (hi : 0 ≤ i) : ∃ (x : Bool) (i' h' : Int), spec_l01Once.f b i h n = some (x, i', h') ∧ 0 ≤ i' := by
  obtain ⟨x, i', h', e, _, p, _⟩ := spec_l01Below_draws b hb i h n hi
  unfold spec_l01Once.f
  rw [e, Option.bind_some]
  exact ⟨_, _, _, rfl, p⟩
theorem spec_l01Text_loop (b : List Int) (hb : b.length ≤ 140737488351232) (n : Nat) (hn : n ≤ 5000) : ∀ (d j : Nat) (xs : List Int) (i h : Int), j + d = n → xs.length = j → 0 ≤ i → ∃ (s : ByteArray) (i' h' : Int), Ev (fun k => spec_l01Text.l0 k (n : Int) xs (j : Int) b i h) (s, i', h') ∧ s.size = n ∧ 0 ≤ i' := by
  intro d
  induction d with
  | zero =>
    intro j xs i h hj hx hi
    refine ⟨strOfNums xs, i, h, ev_end fun k => ?_, by rw [strOfNums_size]; omega, hi⟩
    rw [spec_l01Text.l0, if_neg (by omega)]
  | succ d ih =>
    intro j xs i h hj hx hi
    obtain ⟨x, i1, h1, e, _, _, p⟩ := spec_l01Byte_draws b hb i h hi
    obtain ⟨s, i', h', e2, hs, hp⟩ := ih (j + 1) (xs ++ [x % 256]) i1 h1 (by omega) (by simp [hx]) p
    refine ⟨s, i', h', ev_go e2 fun k => ?_, hs, hp⟩
    rw [spec_l01Text.l0, if_pos (by omega), e, Option.bind_some, if_pos (by omega), w64 (by omega) (by omega)]
    rfl
theorem spec_l01Text_draws (b : List Int) (hb : b.length ≤ 140737488351232) (i h n : Int) (hi : 0 ≤ i) (hn : 0 ≤ n) : ∃ (s : ByteArray) (i' h' : Int), Ev (fun k => spec_l01Text.f k b i h n) (s, i', h') ∧ s.size ≤ 5000 ∧ (s.size : Int) ≤ n ∧ 0 ≤ i' := by
  by_cases c : n > 5000
  · obtain ⟨s, i', h', e, hs, hp⟩ := spec_l01Text_loop b hb 5000 (by omega) 5000 0 [] i h (by omega) rfl hi
    refine ⟨s, i', h', ev_go e fun k => ?_, by omega, by omega, hp⟩
    unfold spec_l01Text.f
    rw [if_pos c, spec_l01Text.j0]
    rfl
  · obtain ⟨m, rfl⟩ := Int.eq_ofNat_of_zero_le hn
    obtain ⟨s, i', h', e, hs, hp⟩ := spec_l01Text_loop b hb m (by omega) m 0 [] i h (by omega) rfl hi
    refine ⟨s, i', h', ev_go e fun k => ?_, by omega, by omega, hp⟩
    unfold spec_l01Text.f
    rw [if_neg c, spec_l01Text.j0]
    rfl
theorem extract_size_nat (s : ByteArray) (a b : Nat) : (s.extract a b).size ≤ s.size := extract_size_le s a b
theorem spec_l02Spoilt_j0 (b : List Int) (hb : b.length ≤ 140737488351232) (i h : Int) (hi : 0 ≤ i) (t : ByteArray) (ht : t.size ≤ 1000000) (c : Bool) : ∃ (s : ByteArray) (i' h' : Int), Ev (fun k => spec_l02Spoilt.j0 k t c b i h) (s, i', h') ∧ s.size ≤ 2 * t.size + 5000 ∧ 0 ≤ i' := by
  cases c with
  | false => exact ⟨t, i, h, ev_end fun k => by rw [spec_l02Spoilt.j0, if_neg (by decide)], by omega, hi⟩
  | true =>
    by_cases z : (t.size : Int) > 0
    · obtain ⟨x, i1, h1, e1, r1, p1, _⟩ := spec_l01Below_draws b hb i h (t.size : Int) hi
      obtain ⟨s, i2, h2, ⟨K, e2⟩, q1, q2, p2⟩ := spec_l01Text_draws b hb i1 h1 1 p1 (by omega)
      have rx := r1 (by omega)
      have s1 := extract_size_le t 0 x.toNat
      have s2 := extract_size_le t (x + 1).toNat t.size
      refine ⟨(t.extract 0 x.toNat ++ s) ++ t.extract (x + 1).toNat t.size, i2, h2, ev_succ ⟨K, fun k hk => ?_⟩, by rw [ByteArray.size_append, ByteArray.size_append]; omega, p2⟩
      dsimp only at e2
      rw [spec_l02Spoilt.j0, if_pos rfl, if_pos z, e1, Option.bind_some]
      dsimp only
      rw [if_pos rx.1, if_pos (by omega), e2 k hk, Option.bind_some]
      dsimp only
      rw [if_pos (by omega), w64 (n := x + 1) (by omega) (by omega), if_pos (by omega), if_pos (by omega), if_pos (by rw [ByteArray.size_append]; omega)]
    · exact ⟨t, i, h, ev_end fun k => by rw [spec_l02Spoilt.j0, if_pos rfl, if_neg z], by omega, hi⟩
theorem spec_l02Spoilt_draws (b : List Int) (hb : b.length ≤ 140737488351232) (i h : Int) (hi : 0 ≤ i) (t : ByteArray) (ht : t.size ≤ 1000000) : ∃ (s : ByteArray) (i' h' : Int), Ev (fun k => spec_l02Spoilt.f k b i h t) (s, i', h') ∧ s.size ≤ 2 * t.size + 5000 ∧ 0 ≤ i' := by
  obtain ⟨x, i1, h1, e1, _, p1, _⟩ := spec_l01Below_draws b hb i h 12 hi
  by_cases c0 : x = 0
  · obtain ⟨s, i2, h2, ⟨K, e2⟩, q1, q2, p2⟩ := spec_l01Text_draws b hb i1 h1 1 p1 (by omega)
    refine ⟨t ++ s, i2, h2, ⟨K, fun k hk => ?_⟩, by rw [ByteArray.size_append]; omega, p2⟩
    dsimp only at e2 ⊢
    unfold spec_l02Spoilt.f
    rw [e1, Option.bind_some, if_pos c0, e2 k hk, Option.bind_some]
    dsimp only
    rw [if_pos (by omega)]
  · by_cases c1 : x = 1
    · obtain ⟨y, i2, h2, e2, r2, p2, q2, _⟩ := spec_l01Below_draws b hb i1 h1 ((t.size : Int) + 1) p1
      have ry := r2 (by omega)
      have s1 := extract_size_le t 0 y.toNat
      refine ⟨t.extract 0 y.toNat, i2, h2, ev_some fun k => ?_, by omega, p2⟩
      unfold spec_l02Spoilt.f
      rw [e1, Option.bind_some, if_neg c0, if_pos c1, w64 (by omega) (by omega), e2, Option.bind_some, if_pos ry.1, if_pos (by omega)]
    · by_cases c2 : x = 2
      · obtain ⟨s, i2, h2, e2, q, p2⟩ := spec_l02Spoilt_j0 b hb i1 h1 p1 t ht (x == 2)
        refine ⟨s, i2, h2, Ev.congr (fun k => ?_) e2, q, p2⟩
        unfold spec_l02Spoilt.f
        rw [e1, Option.bind_some, if_neg c0, if_neg c1, if_pos c2]
      · obtain ⟨s, i2, h2, e2, q, p2⟩ := spec_l02Spoilt_j0 b hb i1 h1 p1 t ht (x == 3)
        refine ⟨s, i2, h2, Ev.congr (fun k => ?_) e2, q, p2⟩
        unfold spec_l02Spoilt.f
        rw [e1, Option.bind_some, if_neg c0, if_neg c1, if_neg c2]
theorem thingB_size (F : List S123) : ∀ V : List S143, (∀ (i : Nat) (h1 : i < F.length) (h2 : i < V.length), fits F[i] V[i]) → (thingB F V).size ≤ 20 * F.length := by
  induction F with
  | nil => intro V _; exact Nat.zero_le _
  | cons f F ih =>
    intro V h
    cases V with
    | nil => exact Nat.zero_le _
    | cons v V =>
      have h0 : fits f v := h 0 (by simp) (by simp)
      have hz := putB_size h0
      have hr := ih V (fun i h1 h2 => by have := h (i + 1) (by simp; omega) (by simp; omega); simpa using this)
      unfold thingB
      rw [ByteArray.size_append, List.length_cons]
      omega
theorem thingTextR_size (F : List S123) (V : List S143) : (thingTextR F V).1.size ≤ 60 := by
  unfold thingTextR
  by_cases c : thingOkR F V = true
  · rw [if_pos c]
    obtain ⟨_, _, h3, h4⟩ := thingOkR_tells c
    have := thingB_size F V h4
    show (thingB F V).size ≤ 60
    omega
  · rw [if_neg c]; exact Nat.zero_le _
theorem spec_DrawReadThing_draws (b : List Int) (hb : b.length ≤ 140737488351232) : ∃ (F : List S123) (u : ByteArray), Ev (fun k => spec_DrawReadThing.f k b) (F, u) ∧ F.length ≤ 3 ∧ (∀ x ∈ F, x.f0.size ≤ 5) ∧ u.size ≤ 6000 := by
  obtain ⟨h, K, e⟩ := spec_l01New_draws b hb
  obtain ⟨n, i1, h1, e1, n1, n3, p1⟩ := spec_l04Schema_draws b hb 0 h (Int.le_refl 0)
  have hl := schemaAll_length n n1 n3
  have hs := schemaAll_small n
  generalize schemaAll.take n = F at e1 hl hs
  obtain ⟨V, i2, h2, ⟨K2, e2⟩, ⟨g1, g2, _⟩, p2⟩ := spec_l04Thing_draws b hb F (by omega) i1 h1 p1
  obtain ⟨K3, e3⟩ := spec_ThingText_fev F V (by omega) (fun x hx => by have := hs x hx; omega) (fun x hx => by have := g2 x hx; omega)
  obtain ⟨c, i4, h4, e4, p4⟩ := spec_l01Once_draws b hb i2 h2 3 p2
  have hz := thingTextR_size F V
  cases c with
  | true =>
    obtain ⟨u, i5, h5, ⟨K5, e5⟩, q5, _⟩ := spec_l02Spoilt_draws b hb i4 h4 p4 (thingTextR F V).1 (by omega)
    refine ⟨F, u, ⟨K + K2 + K3 + K5, fun k hk => ?_⟩, by omega, hs, by omega⟩
    dsimp only at e e2 e3 e5 ⊢
    unfold spec_DrawReadThing.f
    rw [e k (by omega), Option.bind_some, e1, Option.bind_some, e2 k (by omega), Option.bind_some, e3 k (by omega), Option.bind_some, e4, Option.bind_some, if_pos rfl, e5 k (by omega), Option.bind_some]
  | false =>
    refine ⟨F, (thingTextR F V).1, ⟨K + K2 + K3, fun k hk => ?_⟩, by omega, hs, by omega⟩
    dsimp only at e e2 e3 ⊢
    unfold spec_DrawReadThing.f
    rw [e k (by omega), Option.bind_some, e1, Option.bind_some, e2 k (by omega), Option.bind_some, e3 k (by omega), Option.bind_some, e4, Option.bind_some, if_neg (by simp)]
theorem laws_sameValues_loop (a : List S143) (hb : a.length ≤ 9223372036854775807) : ∀ (d i : Nat), i + d = a.length → Ev (fun k => laws_sameValues.l0 k a a (i : Int)) true := by
  intro d
  induction d with
  | zero =>
    intro i hi
    refine ev_end fun k => ?_
    rw [laws_sameValues.l0, if_neg (by omega)]
  | succ d ih =>
    intro i hi
    refine ev_go (ih (i + 1) (by omega)) fun k => ?_
    rw [laws_sameValues.l0, if_pos (by omega), if_pos (by omega), if_pos (by omega), if_neg (by simp), w64 (by omega) (by omega)]
    rfl
theorem laws_sameValues_same (a : List S143) (hb : a.length ≤ 9223372036854775807) : Ev (fun k => laws_sameValues.f k a a) true := by
  refine Ev.congr (fun k => ?_) (laws_sameValues_loop a hb a.length 0 (by omega))
  unfold laws_sameValues.f
  rw [if_pos rfl]
  rfl
end Go.Proofs.Ytkobbccjjglfmaa.VFnThings
namespace Go.Proofs.Ytkobbccjjglfmaa.Pure
open Go.Proofs.Ytkobbccjjglfmaa.VFnThings
set_option linter.unusedVariables false
set_option linter.unusedSimpArgs false
open Go Go.RowKit Go.Proofs.YtkobbccjjglfmaaW.PrintWords Go.Proofs.YtkobbccjjglfmaaW.PrintLast Go.Proofs.YtkobbccjjglfmaaW.PrintMore
theorem FnThings : laws_FnThings.Pure := by
  intro b _ hb _
  have hb' : b.length ≤ 140737488351232 := by omega
  obtain ⟨F, V, ⟨K1, e1⟩, f1, f2, v1, v2⟩ := spec_DrawThingText_draws b hb'
  have f2' : ∀ x ∈ F, x.f0.size ≤ 9223372036854775807 := fun x hx => by have := f2 x hx; omega
  have v2' : ∀ x ∈ V, x.f1.size ≤ 9223372036854775807 := fun x hx => by have := v2 x hx; omega
  obtain ⟨K2, e2⟩ := impl_ThingText_fev F V (by omega) f2'
  have hz := thingTextR_size F V
  obtain ⟨K3, e3⟩ := impl_ReadThing_fev F (thingTextR F V).1 (by omega) f2' (by omega)
  obtain ⟨A, u, ⟨K4, e4⟩, a1, a2, u1⟩ := spec_DrawReadThing_draws b hb'
  have a2' : ∀ x ∈ A, x.f0.size ≤ 9223372036854775807 := fun x hx => by have := a2 x hx; omega
  obtain ⟨K5, e5⟩ := impl_ReadThing_fev A u (by omega) a2' (by omega)
  obtain ⟨K6, e6⟩ := spec_ReadThing_fev A u (by omega) a2' (by omega)
  obtain ⟨K7, e7⟩ := impl_ThingText_fev A (readThingR A u).1 (by omega) a2'
  obtain ⟨K9, e9⟩ := spec_ThingOk_fev F V (by omega) f2' v2'
  obtain ⟨K10, e10⟩ := impl_ThingOk_fev F V (by omega) f2'
  obtain ⟨K11, e11⟩ := laws_sameValues_same V (by omega)
  dsimp only at e1 e2 e3 e4 e5 e6 e7 e9 e10 e11
  refine ⟨K1 + K2 + K3 + K4 + K5 + K6 + K7 + K9 + K10 + K11, ?_⟩
  unfold laws_FnThings.f laws_big.f
  rw [Option.bind_some]
  by_cases c : (b.length : Int) > 1048576
  · rw [if_pos (decide_eq_true c)]
  · have ok : (thingTextR F V).2 = thingOkR F V := by unfold thingTextR; cases thingOkR F V <;> rfl
    have back : (readThingR A u).2 = true → (thingTextR A (readThingR A u).1).1.toList = u.toList := by
      intro h
      have := readThingR_tells (F := A) (V := (readThingR A u).1) (t := u) (by rw [← h])
      rw [this]
    rw [if_neg (by simp only [decide_eq_true_eq]; exact c), e1 _ (by omega), Option.bind_some]
    dsimp only
    rw [e2 _ (by omega), Option.bind_some, e3 _ (by omega), Option.bind_some, e4 _ (by omega), Option.bind_some]
    dsimp only
    rw [e5 _ (by omega), Option.bind_some, e6 _ (by omega), Option.bind_some, e7 _ (by omega), Option.bind_some, e9 _ (by omega), Option.bind_some, ok, if_pos (by simp), e10 _ (by omega), Option.bind_some, if_pos (by simp)]
    have rest : ∀ (m : Bool), (m = true → (thingTextR A (readThingR A u).1).1.toList = u.toList) → (if m = true then some ((thingTextR A (readThingR A u).1).1.toList == u.toList) else some true) = some true := by
      intro m hm
      cases m with
      | true => rw [if_pos rfl, hm rfl]; simp
      | false => rw [if_neg (by decide)]
    cases so : thingOkR F V with
    | true =>
      have ht : thingTextR F V = ((thingTextR F V).1, true) := by
        have : (thingTextR F V).2 = true := by rw [ok, so]
        rw [← this]
      have hr := readThingR_text ht
      rw [if_pos rfl, hr]
      dsimp only
      rw [if_pos rfl, e11 _ (by omega), Option.bind_some, if_pos rfl]
      refine (if_pos (by simp)).trans (rest _ back)
    | false =>
      rw [if_neg (by decide)]
      refine (if_pos (by simp)).trans (rest _ back)
end Go.Proofs.Ytkobbccjjglfmaa.Pure
