/- The printed form of FnExactReadNode answers true at every input that its bounds let in; no other conditions. -/
import Derived.Test.YtkobbccjjglfmaaVFnExactReadNodex15
import Derived.Test.YtkobbccjjglfmaaZFnExactReadNodeG
import Derived.Lib.Bytealg
namespace Go.Proofs.Ytkobbccjjglfmaa.VFnExactReadNode
set_option linter.unusedVariables false
set_option linter.unusedSimpArgs false
open Go Go.RowKit Go.Proofs.YtkobbccjjglfmaaW.PrintWords Go.Proofs.YtkobbccjjglfmaaW.PrintLast Go.Proofs.YtkobbccjjglfmaaW.PrintMore
theorem w64 {n : Int} (h : -9223372036854775808 ≤ n) (h' : n ≤ 9223372036854775807) : wrap64 n = n := by
  unfold wrap64; omega
theorem ev_some {α : Type} {g : Nat → Option α} {r : α} (h : ∀ k, g k = some r) : Ev g r := ⟨0, fun k _ => h k⟩
theorem ev_succ {α : Type} {g : Nat → Option α} {r : α} (h : ∃ K, ∀ k, K ≤ k → g (k + 1) = some r) : Ev g r := by
  obtain ⟨K, h⟩ := h
  refine ⟨K + 1, fun k hk => ?_⟩
  obtain ⟨m, rfl⟩ : ∃ m, k = m + 1 := ⟨k - 1, by omega⟩
  exact h m (by omega)
/-- One round that goes on. -/
theorem ev_go {α : Type} {g f : Nat → Option α} {r : α} (hf : Ev f r) (h : ∀ k, g (k + 1) = f k) : Ev g r := Ev.step h hf
/-- One round that ends. -/
theorem ev_end {α : Type} {g : Nat → Option α} {r : α} (h : ∀ k, g (k + 1) = some r) : Ev g r := ev_succ ⟨0, fun k _ => h k⟩
/-- One call, then the rest. -/
theorem ev_call {α β : Type} {g : Nat → Option α} {f : Nat → Option β} {c : Nat → β → Option α} {b : β} {r : α} (hf : Ev f b) (hc : Ev (fun k => c k b) r) (h : ∀ k, g k = (f k).bind (c k)) : Ev g r :=
  Ev.congr h (Ev.bind hf hc)
/-- One round with one call in it. -/
theorem ev_go_call {α β : Type} {g : Nat → Option α} {f : Nat → Option β} {c : Nat → β → Option α} {b : β} {r : α} (hf : Ev f b) (hc : Ev (fun k => c k b) r) (h : ∀ k, g (k + 1) = (f k).bind (c k)) : Ev g r :=
  Ev.step h (Ev.bind hf hc)
theorem bt_lo (s : ByteArray) (i : Int) : 0 ≤ bt s i := (bt_range s i).1
theorem bt_hi (s : ByteArray) (i : Int) : bt s i ≤ 255 := (bt_range s i).2
theorem bytesOf_drop (s : ByteArray) (i : Nat) (h : i < s.size) : (bytesOf s).drop i = bt s (i : Int) :: (bytesOf s).drop (i + 1) := by
  have hl : i < (bytesOf s).length := by rw [bytesOf_length]; exact h
  rw [List.drop_eq_getElem_cons hl]
  congr 1
  rw [← rd_bytesOf s (i : Int)]
  unfold rd
  rw [Int.toNat_natCast]
  simp [List.getD, hl]
theorem bytesOf_range (s : ByteArray) : ∀ x ∈ bytesOf s, 0 ≤ x ∧ x ≤ 255 := by
  intro x hx
  unfold bytesOf at hx
  obtain ⟨b, _, rfl⟩ := List.mem_map.1 hx
  have := b.toNat_lt
  omega
theorem toList_inj {s t : ByteArray} (h : s.toList = t.toList) : s = t := by
  rw [ByteArray.toList_eq, ByteArray.toList_eq] at h
  exact ByteArray.ext (Array.toList_inj.1 h)
theorem strOfNums_bytesOf (s : ByteArray) : strOfNums (bytesOf s) = s := by
  apply ByteArray.ext
  apply Array.toList_inj.1
  rw [strOfNums_data]
  unfold bytesOf
  rw [List.map_map]
  conv => rhs; rw [← List.map_id s.data.toList]
  apply List.map_congr_left
  intro b _
  simp
theorem bytesOf_strOfNums (xs : List Int) (h : ∀ x ∈ xs, 0 ≤ x ∧ x ≤ 255) : bytesOf (strOfNums xs) = xs := by
  unfold bytesOf
  rw [strOfNums_data, List.map_map]
  conv => rhs; rw [← List.map_id xs]
  apply List.map_congr_left
  intro b hb
  have := h b hb
  simp only [Function.comp, UInt8.toNat_ofNat', id]
  omega
theorem bytesOf_extract (s : ByteArray) (a b : Nat) : bytesOf (s.extract a b) = ((bytesOf s).drop a).take (b - a) := by
  unfold bytesOf
  rw [ByteArray.data_extract, Array.toList_extract, List.extract_eq_take_drop, List.map_take, List.map_drop]
theorem bytesOf_append (s t : ByteArray) : bytesOf (s ++ t) = bytesOf s ++ bytesOf t := by
  unfold bytesOf
  rw [ByteArray.data_append, Array.toList_append, List.map_append]
theorem bytesOf_inj {s t : ByteArray} (h : bytesOf s = bytesOf t) : s = t := by
  rw [← strOfNums_bytesOf s, ← strOfNums_bytesOf t, h]
theorem toList_eq_iff (s t : ByteArray) : s.toList = t.toList ↔ s = t := ⟨toList_inj, fun h => by rw [h]⟩
theorem strOfNums_eq_iff (xs : List Int) (t : ByteArray) (h : ∀ x ∈ xs, 0 ≤ x ∧ x ≤ 255) : strOfNums xs = t ↔ xs = bytesOf t :=
  ⟨fun e => by rw [← e, bytesOf_strOfNums xs h], fun e => by rw [e, strOfNums_bytesOf]⟩
theorem bytesOf_length_drop (s : ByteArray) (i : Nat) : ((bytesOf s).drop i).length = s.size - i := by rw [List.length_drop, bytesOf_length]
def varL (n : Nat) : List Int := if n > 127 then ((n : Int) % 128 + 128) :: varL (n / 128) else [(n : Int)]
termination_by n
decreasing_by omega
theorem varL_big {n : Nat} (h : n > 127) : varL n = ((n : Int) % 128 + 128) :: varL (n / 128) := by rw [varL, if_pos h]
theorem varL_small {n : Nat} (h : ¬ n > 127) : varL n = [(n : Int)] := by rw [varL, if_neg h]
theorem varL_range (n : Nat) : ∀ x ∈ varL n, 0 ≤ x ∧ x ≤ 255 := by
  induction n using Nat.strongRecOn with
  | ind n ih =>
    intro x hx
    by_cases h : n > 127
    · rw [varL_big h] at hx
      rcases List.mem_cons.1 hx with rfl | hx
      · omega
      · exact ih _ (by omega) x hx
    · rw [varL_small h] at hx
      have := List.mem_singleton.1 hx
      omega
theorem varL_length_le (j : Nat) : ∀ n : Nat, n < 128 ^ j → (varL n).length ≤ max j 1 := by
  induction j with
  | zero => intro n hn; simp at hn; subst hn; rw [varL_small (by omega)]; simp
  | succ j ih =>
    intro n hn
    by_cases h : n > 127
    · rw [varL_big h]
      have : n / 128 < 128 ^ j := by rw [Nat.pow_succ] at hn; exact Nat.div_lt_of_lt_mul (by omega)
      have := ih _ this
      cases j with
      | zero => omega
      | succ j => simp only [List.length_cons]; omega
    · rw [varL_small h, List.length_singleton]; omega
theorem varL_length_pos (n : Nat) : 0 < (varL n).length := by
  by_cases h : n > 127
  · rw [varL_big h]; simp
  · rw [varL_small h]; simp
def varB (n : Nat) : ByteArray := strOfNums (varL n)
theorem varB_size (n : Nat) : (varB n).size = (varL n).length := strOfNums_size _
theorem varB_size_le (n : Nat) (h : n ≤ 9223372036854775807) : (varB n).size ≤ 10 := by
  rw [varB_size]
  have := varL_length_le 10 n (by omega)
  omega
theorem i64_and127 (x : Int) (h₀ : 0 ≤ x) (h₁ : x ≤ 9223372036854775807) : Go.bits .and .i64 x 127 = x % 128 :=
  Go.bits_mask .i64 63 (by decide) (fun n a b => by rw [IntKind.wrap_i64]; omega) 7 (by decide) x h₀ (by omega)
theorem i64_or_join (i : Nat) (x y : Int) (hx₀ : 0 ≤ x) (hx : x % 2 ^ i = 0) (hx₁ : x ≤ 9223372036854775807) (hy₀ : 0 ≤ y) (hy : y < 2 ^ i) (hy₁ : y ≤ 9223372036854775807) : Go.bits .or .i64 x y = x + y :=
  Go.bits_join .i64 63 (by decide) (fun n a b => by rw [IntKind.wrap_i64]; omega) i x y hx₀ hx (by omega) hy₀ hy (by omega)
theorem i64_or_comm (x y : Int) : Go.bits .or .i64 x y = Go.bits .or .i64 y x := by
  unfold Go.bits
  simp only [BitVec.or_comm]
def shortB (s : ByteArray) : ByteArray := varB s.size ++ s
def decL : Nat → List Int → Option (Int × Nat)
  | 0, _ => none
  | _ + 1, [] => none
  | f + 1, b :: t => if b < 128 then some (b, 1) else (decL f t).map fun p => (b - 128 + 128 * p.1, p.2 + 1)
def rvL (at_ : Int) (L : List Int) : Int × Int × Bool :=
  match decL 5 L with
  | none => (0, 0, false)
  | some p => if p.1 ≤ 1000000000 ∧ varL p.1.toNat = L.take p.2 then (p.1, at_ + p.2, true) else (0, 0, false)
def rvR (s : ByteArray) (a : Int) : Int × Int × Bool :=
  if 0 ≤ a ∧ a ≤ (s.size : Int) then rvL a ((bytesOf s).drop a.toNat) else (0, 0, false)
theorem decL_pos (f : Nat) : ∀ (l : List Int) (m : Int) (u : Nat), (∀ x ∈ l, 0 ≤ x ∧ x ≤ 255) → decL f l = some (m, u) → 0 ≤ m ∧ m < 128 ^ f ∧ 1 ≤ u ∧ u ≤ f ∧ u ≤ l.length := by
  induction f with
  | zero => intro l m u _ h; simp [decL] at h
  | succ f ih =>
    intro l m u hr h
    cases l with
    | nil => simp [decL] at h
    | cons b t =>
      have hb := hr b (by simp)
      simp only [decL] at h
      have hp : (1 : Int) ≤ 128 ^ f := by have := Nat.one_le_two_pow (n := 7 * f); rw [Nat.pow_mul] at this; exact_mod_cast this
      by_cases c : b < 128
      · rw [if_pos c] at h
        simp only [Option.some.injEq, Prod.mk.injEq] at h
        obtain ⟨rfl, rfl⟩ := h
        refine ⟨hb.1, ?_, by omega, by omega, by simp⟩
        rw [Int.pow_succ]; omega
      · rw [if_neg c] at h
        obtain ⟨⟨m', u'⟩, h1, h2⟩ := Option.map_eq_some_iff.1 h
        simp only [Prod.mk.injEq] at h2
        obtain ⟨rfl, rfl⟩ := h2
        obtain ⟨g1, g2, g3, g4, g5⟩ := ih t m' u' (fun x hx => hr x (by simp [hx])) h1
        refine ⟨by omega, ?_, by omega, by omega, by simp only [List.length_cons]; omega⟩
        rw [Int.pow_succ]; omega
theorem decL_zero (f : Nat) : ∀ (l : List Int) (m : Int) (u : Nat), (∀ x ∈ l, 0 ≤ x ∧ x ≤ 255) → decL f l = some (m, u) → m = 0 → l.getD (u - 1) 0 = 0 := by
  induction f with
  | zero => intro l m u _ h; simp [decL] at h
  | succ f ih =>
    intro l m u hr h hm
    cases l with
    | nil => simp
    | cons b t =>
      have hb := hr b (by simp)
      simp only [decL] at h
      by_cases c : b < 128
      · rw [if_pos c] at h
        simp only [Option.some.injEq, Prod.mk.injEq] at h
        obtain ⟨rfl, rfl⟩ := h
        simpa using hm
      · rw [if_neg c] at h
        obtain ⟨⟨m', u'⟩, h1, h2⟩ := Option.map_eq_some_iff.1 h
        simp only [Prod.mk.injEq] at h2
        obtain ⟨rfl, rfl⟩ := h2
        have hr' : ∀ x ∈ t, 0 ≤ x ∧ x ≤ 255 := fun x hx => hr x (by simp [hx])
        obtain ⟨g1, g2, g3, g4, g5⟩ := decL_pos f t m' u' hr' h1
        have := ih t m' u' hr' h1 (by omega)
        obtain ⟨v, rfl⟩ : ∃ v, u' = v + 1 := ⟨u' - 1, by omega⟩
        simpa using this
theorem decL_canon (f : Nat) : ∀ (l : List Int) (m : Int) (u : Nat), (∀ x ∈ l, 0 ≤ x ∧ x ≤ 255) → decL f l = some (m, u) → (varL m.toNat = l.take u ↔ ¬ (u > 1 ∧ l.getD (u - 1) 0 = 0)) := by
  induction f with
  | zero => intro l m u _ h; simp [decL] at h
  | succ f ih =>
    intro l m u hr h
    cases l with
    | nil => simp [decL] at h
    | cons b t =>
      have hb := hr b (by simp)
      simp only [decL] at h
      by_cases c : b < 128
      · rw [if_pos c] at h
        simp only [Option.some.injEq, Prod.mk.injEq] at h
        obtain ⟨rfl, rfl⟩ := h
        rw [varL_small (by omega)]
        simp
        omega
      · rw [if_neg c] at h
        obtain ⟨⟨m', u'⟩, h1, h2⟩ := Option.map_eq_some_iff.1 h
        simp only [Prod.mk.injEq] at h2
        obtain ⟨rfl, rfl⟩ := h2
        have hr' : ∀ x ∈ t, 0 ≤ x ∧ x ≤ 255 := fun x hx => hr x (by simp [hx])
        obtain ⟨g1, g2, g3, g4, g5⟩ := decL_pos f t m' u' hr' h1
        have hi := ih t m' u' hr' h1
        have hz := decL_zero f t m' u' hr' h1
        obtain ⟨v, rfl⟩ : ∃ v, u' = v + 1 := ⟨u' - 1, by omega⟩
        have e0 : (b :: t).getD (v + 1 + 1 - 1) 0 = t.getD v 0 := by simp
        rw [e0, List.take_succ_cons]
        simp only [Nat.add_sub_cancel] at hi hz
        by_cases z : m' = 0
        · have := hz z
          rw [varL_small (by omega)]
          constructor
          · intro h
            have := (List.cons.inj h).1
            omega
          · intro h
            exact absurd ⟨by omega, this⟩ h
        · rw [varL_big (by omega), show (b - 128 + 128 * m').toNat / 128 = m'.toNat by omega, show (((b - 128 + 128 * m').toNat : Int) % 128 + 128) = b by omega]
          rw [List.cons_inj_right, hi]
          by_cases hv : v = 0
          · subst hv
            have : t.getD 0 0 ≠ 0 := by
              cases f with
              | zero => simp [decL] at h1
              | succ f =>
                cases t with
                | nil => simp [decL] at h1
                | cons y t =>
                  simp only [decL] at h1
                  by_cases c2 : y < 128
                  · rw [if_pos c2] at h1
                    simp only [Option.some.injEq, Prod.mk.injEq] at h1
                    simp; omega
                  · simp; omega
            constructor
            · intro _ h; exact this h.2
            · intro _ h; omega
          · constructor
            · intro h ⟨_, h2⟩; exact h ⟨by omega, h2⟩
            · intro h ⟨_, h2⟩; exact h ⟨by omega, h2⟩
theorem decL_varL (f : Nat) : ∀ (n : Nat) (t : List Int), n < 128 ^ f → 0 < f → decL f (varL n ++ t) = some ((n : Int), (varL n).length) := by
  induction f with
  | zero => intro n t _ h; omega
  | succ f ih =>
    intro n t hn _
    by_cases c : n > 127
    · rw [varL_big c, List.cons_append]
      simp only [decL]
      rw [if_neg (by omega)]
      have h1 : n / 128 < 128 ^ f := by rw [Nat.pow_succ] at hn; exact Nat.div_lt_of_lt_mul (by omega)
      cases f with
      | zero => simp at hn; omega
      | succ f =>
        rw [ih (n / 128) t h1 (by omega)]
        simp only [Option.map_some, List.length_cons, Option.some.injEq, Prod.mk.injEq, and_true]
        omega
    · rw [varL_small c]
      simp only [List.cons_append, List.nil_append, decL]
      rw [if_pos (by omega)]
      simp
theorem decL_step (b : Int) (t : List Int) (f : Nat) : decL (f + 1) (b :: t) = if b < 128 then some (b, 1) else (decL f t).map fun p => (b - 128 + 128 * p.1, p.2 + 1) := rfl
theorem decL_nil (f : Nat) : decL f [] = none := by cases f <;> rfl
/-- What is left to read behind j bytes that go on. -/
def decAt (L : List Int) (j : Nat) (n : Int) : Prop := decL 5 L = (decL (5 - j) (L.drop j)).map fun p => (n + 128 ^ j * p.1, p.2 + j)
theorem decAt_zero (L : List Int) : decAt L 0 0 := by
  unfold decAt
  simp
theorem decAt_end {L : List Int} {j : Nat} {n b : Int} {t : List Int} (h : decAt L j n) (hj : j < 5) (ht : L.drop j = b :: t) (hb : b < 128) : decL 5 L = some (n + 128 ^ j * b, 1 + j) := by
  unfold decAt at h
  rw [h, ht, show 5 - j = (4 - j) + 1 by omega, decL_step, if_pos hb]
  rfl
theorem decAt_next {L : List Int} {j : Nat} {n b : Int} {t : List Int} (h : decAt L j n) (hj : j < 5) (ht : L.drop j = b :: t) (hb : ¬ b < 128) : decAt L (j + 1) (n + 128 ^ j * (b - 128)) := by
  unfold decAt at h ⊢
  have hd : L.drop (j + 1) = t := by rw [← List.drop_drop, ht]; simp
  rw [h, ht, hd, show 5 - j = (4 - j) + 1 by omega, decL_step, if_neg hb, Option.map_map, show 5 - (j + 1) = 4 - j by omega]
  congr 1
  funext p
  simp only [Function.comp, Prod.mk.injEq]
  refine ⟨?_, by omega⟩
  rw [Int.pow_succ, Int.mul_add, Int.mul_assoc, Int.add_assoc]
theorem decAt_short {L : List Int} {j : Nat} {n : Int} (h : decAt L j n) (ht : L.drop j = []) : decL 5 L = none := by
  unfold decAt at h
  rw [h, ht, decL_nil]
  rfl
theorem decAt_over {L : List Int} {n : Int} (h : decAt L 5 n) : decL 5 L = none := by
  unfold decAt at h
  rw [h]
  rfl
theorem rvL_none {a : Int} {L : List Int} (h : decL 5 L = none) : rvL a L = (0, 0, false) := by unfold rvL; rw [h]
theorem rvL_good {a : Int} {L : List Int} {n : Int} {u : Nat} (h : decL 5 L = some (n, u)) (h1 : n ≤ 1000000000) (h2 : varL n.toNat = L.take u) : rvL a L = (n, a + u, true) := by
  unfold rvL; rw [h]; simp only; rw [if_pos ⟨h1, h2⟩]
theorem rvL_bad {a : Int} {L : List Int} {n : Int} {u : Nat} (h : decL 5 L = some (n, u)) (h1 : ¬ (n ≤ 1000000000 ∧ varL n.toNat = L.take u)) : rvL a L = (0, 0, false) := by
  unfold rvL; rw [h]; simp only; rw [if_neg h1]
theorem rvL_tells {a : Int} {L : List Int} {n nx : Int} (hr : ∀ x ∈ L, 0 ≤ x ∧ x ≤ 255) (h : rvL a L = (n, nx, true)) : ∃ u : Nat, 0 ≤ n ∧ n ≤ 1000000000 ∧ varL n.toNat = L.take u ∧ nx = a + u ∧ 1 ≤ u ∧ u ≤ L.length ∧ u ≤ 5 := by
  unfold rvL at h
  cases h5 : decL 5 L with
  | none => rw [h5] at h; simp at h
  | some p =>
    obtain ⟨m, u⟩ := p
    rw [h5] at h
    simp only at h
    by_cases c : m ≤ 1000000000 ∧ varL m.toNat = L.take u
    · rw [if_pos c] at h
      simp only [Prod.mk.injEq, and_true] at h
      obtain ⟨rfl, rfl⟩ := h
      obtain ⟨g1, g2, g3, g4, g5⟩ := decL_pos 5 L m u hr h5
      exact ⟨u, g1, c.1, c.2, rfl, g3, g5, g4⟩
    · rw [if_neg c] at h
      simp at h
theorem rvL_reads (a : Int) (n : Nat) (t : List Int) (h : n ≤ 1000000000) : rvL a (varL n ++ t) = ((n : Int), a + (varL n).length, true) :=
  rvL_good (decL_varL 5 n t (by omega) (by omega)) (by omega) (by simp)
theorem pow128 (j : Nat) (hj : j < 5) : (128 : Int) ^ j = 1 ∧ j = 0 ∨ (128 : Int) ^ j = 128 ∧ j = 1 ∨ (128 : Int) ^ j = 16384 ∧ j = 2 ∨ (128 : Int) ^ j = 2097152 ∧ j = 3 ∨ (128 : Int) ^ j = 268435456 ∧ j = 4 := by
  have : j = 0 ∨ j = 1 ∨ j = 2 ∨ j = 3 ∨ j = 4 := by omega
  rcases this with rfl | rfl | rfl | rfl | rfl <;> simp
theorem rv_mul (j : Nat) (hj : j < 5) (n b : Int) (hn0 : 0 ≤ n) (hn : n < 128 ^ j) (hb0 : 0 ≤ b) (hb : b ≤ 255) :
    wrap64 (n + wrap64 (Int.tmod (wrap64 b) 128 * 128 ^ j)) = n + 128 ^ j * (b % 128) ∧ 0 ≤ n + 128 ^ j * (b % 128) ∧ n + 128 ^ j * (b % 128) < 128 ^ (j + 1) ∧ n + 128 ^ j * (b % 128) ≤ 34359738368 := by
  rw [w64 (n := b) (by omega) (by omega), Int.tmod_eq_emod_of_nonneg hb0, Int.pow_succ]
  rcases pow128 j hj with ⟨h, _⟩ | ⟨h, _⟩ | ⟨h, _⟩ | ⟨h, _⟩ | ⟨h, _⟩ <;> (rw [h] at hn ⊢; rw [w64 (n := b % 128 * _) (by omega) (by omega), w64 (by omega) (by omega)]; omega)
theorem rv_or (j : Nat) (hj : j < 5) (n b : Int) (hn0 : 0 ≤ n) (hn : n < 128 ^ j) (hb0 : 0 ≤ b) (hb : b ≤ 255) :
    Go.bits .or .i64 n (shl .i64 (Go.bits .and .i64 (wrap64 b) 127) (wrap64 (7 * (j : Int)))) = n + 128 ^ j * (b % 128) := by
  rw [w64 (n := b) (by omega) (by omega), w64 (n := 7 * (j : Int)) (by omega) (by omega), i64_and127 b hb0 (by omega)]
  unfold shl
  rw [IntKind.wrap_i64]
  have e : min (7 * (j : Int)).toNat IntKind.i64.bits = 7 * j := by
    have : IntKind.i64.bits = 64 := rfl
    omega
  rw [e, i64_or_comm]
  have hj' : j = 0 ∨ j = 1 ∨ j = 2 ∨ j = 3 ∨ j = 4 := by omega
  rcases hj' with rfl | rfl | rfl | rfl | rfl
  · simp only [Nat.mul_zero, Int.pow_zero, Int.mul_one, Int.one_mul] at hn ⊢
    rw [show n = 0 by omega, show (b % 128 + 9223372036854775808) % 18446744073709551616 - 9223372036854775808 = b % 128 by omega, i64_or_join 0 (b % 128) 0 (by omega) (by simp) (by omega) (by omega) (by omega) (by omega)]
    omega
  · rw [show (128 : Int) ^ 1 = 128 by decide] at hn ⊢
    rw [show (b % 128 * 2 ^ (7 * 1) + 9223372036854775808) % 18446744073709551616 - 9223372036854775808 = 128 * (b % 128) by omega, i64_or_join 7 (128 * (b % 128)) n (by omega) (by omega) (by omega) (by omega) (by omega) (by omega)]
    omega
  · rw [show (128 : Int) ^ 2 = 16384 by decide] at hn ⊢
    rw [show (b % 128 * 2 ^ (7 * 2) + 9223372036854775808) % 18446744073709551616 - 9223372036854775808 = 16384 * (b % 128) by omega, i64_or_join 14 (16384 * (b % 128)) n (by omega) (by omega) (by omega) (by omega) (by omega) (by omega)]
    omega
  · rw [show (128 : Int) ^ 3 = 2097152 by decide] at hn ⊢
    rw [show (b % 128 * 2 ^ (7 * 3) + 9223372036854775808) % 18446744073709551616 - 9223372036854775808 = 2097152 * (b % 128) by omega, i64_or_join 21 (2097152 * (b % 128)) n (by omega) (by omega) (by omega) (by omega) (by omega) (by omega)]
    omega
  · rw [show (128 : Int) ^ 4 = 268435456 by decide] at hn ⊢
    rw [show (b % 128 * 2 ^ (7 * 4) + 9223372036854775808) % 18446744073709551616 - 9223372036854775808 = 268435456 * (b % 128) by omega, i64_or_join 28 (268435456 * (b % 128)) n (by omega) (by omega) (by omega) (by omega) (by omega) (by omega)]
    omega
def sumStep (x : Int) : Int := if x % 2 = 1 then Go.bits .xor .u32 (x / 2) 3558460437 else x / 2
def sumSteps : Nat → Int → Int
  | 0, x => x
  | n + 1, x => sumSteps n (sumStep x)
def sumByte (x b : Int) : Int := sumSteps 8 (Go.bits .xor .u32 x b)
def sumL : Int → List Int → Int
  | x, [] => x
  | x, b :: t => sumL (sumByte x b) t
def sumR (x : Int) (s : ByteArray) : Int := sumL x (bytesOf s)
def fourB (n : Int) : ByteArray := strOfNums ([(n / 16777216) % 256, (n / 65536) % 256, (n / 256) % 256, n % 256] : List Int)
def sealB (s : ByteArray) : ByteArray := fourB (sumR 4294967295 s)
theorem bits_u32_range (o : BinOp) (x y : Int) (h : o = .xor) : 0 ≤ Go.bits o .u32 x y ∧ Go.bits o .u32 x y < 4294967296 := by
  subst h
  unfold Go.bits
  simp only
  rw [IntKind.wrap_u32]
  omega
theorem sumStep_range (x : Int) (h : 0 ≤ x ∧ x < 4294967296) : 0 ≤ sumStep x ∧ sumStep x < 4294967296 := by
  unfold sumStep
  split
  · exact bits_u32_range _ _ _ rfl
  · omega
theorem sumSteps_range (n : Nat) : ∀ x : Int, 0 ≤ x ∧ x < 4294967296 → 0 ≤ sumSteps n x ∧ sumSteps n x < 4294967296 := by
  induction n with
  | zero => exact fun x h => h
  | succ n ih => exact fun x h => ih _ (sumStep_range x h)
theorem sumByte_range (x b : Int) : 0 ≤ sumByte x b ∧ sumByte x b < 4294967296 := sumSteps_range 8 _ (bits_u32_range _ _ _ rfl)
theorem u32_and1 (x : Int) (h : 0 ≤ x ∧ x < 4294967296) : Go.bits .and .u32 x 1 = x % 2 :=
  Go.bits_mask .u32 32 (by decide) (fun n a b => by rw [IntKind.wrap_u32]; omega) 1 (by decide) x h.1 (by omega)
theorem fourB_size (n : Int) : (fourB n).size = 4 := by unfold fourB; rw [strOfNums_size]; rfl
theorem sealB_size (s : ByteArray) : (sealB s).size = 4 := fourB_size _
def sealedR (s : ByteArray) : ByteArray × Bool := if (s.size : Int) > 20000 then (⟨#[]⟩, false) else (s ++ sealB s, true)
theorem rvR_tells (s : ByteArray) (a n nx : Int) (h : rvR s a = (n, nx, true)) : ∃ u : Nat, 0 ≤ a ∧ 0 ≤ n ∧ n ≤ 1000000000 ∧ nx = a + u ∧ 1 ≤ u ∧ u ≤ 5 ∧ nx ≤ (s.size : Int) ∧ varL n.toNat = ((bytesOf s).drop a.toNat).take u := by
  unfold rvR at h
  by_cases c : 0 ≤ a ∧ a ≤ (s.size : Int)
  · rw [if_pos c] at h
    obtain ⟨u, h1, h2, h3, h4, h5, h6, h7⟩ := rvL_tells (fun x hx => bytesOf_range s x (List.mem_of_mem_drop hx)) h
    rw [bytesOf_length_drop] at h6
    exact ⟨u, c.1, h1, h2, h4, h5, h7, by omega, h3⟩
  · rw [if_neg c] at h
    simp at h
def rsR (s : ByteArray) (a : Int) : ByteArray × Int × Bool :=
  if (rvR s a).2.2 = true ∧ (rvR s a).1 ≤ 20000 ∧ (rvR s a).1 ≤ (s.size : Int) - (rvR s a).2.1 then (s.extract (rvR s a).2.1.toNat ((rvR s a).2.1 + (rvR s a).1).toNat, (rvR s a).2.1 + (rvR s a).1, true) else (⟨#[]⟩, 0, false)
def unsealedR (s : ByteArray) : ByteArray × Bool :=
  if 4 ≤ s.size ∧ s.size ≤ 20004 ∧ s.extract (s.size - 4) s.size = sealB (s.extract 0 (s.size - 4)) then (s.extract 0 (s.size - 4), true) else (⟨#[]⟩, false)
theorem extract_size_le (s : ByteArray) (a b : Nat) : (s.extract a b).size ≤ s.size := by
  have : (bytesOf (s.extract a b)).length ≤ s.size := by
    rw [bytesOf_extract, List.length_take, bytesOf_length_drop]; omega
  rwa [bytesOf_length] at this
section
variable {α β : Type}
theorem drop_rdOf (d : α) (xs : List α) (i : Nat) (h : i < xs.length) : xs.drop i = rdOf d xs (i : Int) :: xs.drop (i + 1) := by
  rw [List.drop_eq_getElem_cons h]
  congr 1
  unfold rdOf
  rw [Int.toNat_natCast]
  simp [List.getD, h]
theorem drop_rd (xs : List Int) (i : Nat) (h : i < xs.length) : xs.drop i = rd xs (i : Int) :: xs.drop (i + 1) := by
  rw [List.drop_eq_getElem_cons h]
  congr 1
  unfold rd
  rw [Int.toNat_natCast]
  simp [List.getD, h]
theorem rdOf_get (d : α) (xs : List α) (i : Nat) (h : i < xs.length) : rdOf d xs (i : Int) = xs[i] := by
  unfold rdOf
  rw [Int.toNat_natCast]
  simp [List.getD, h]
theorem rd_get (xs : List Int) (i : Nat) (h : i < xs.length) : rd xs (i : Int) = xs[i] := by
  unfold rd
  rw [Int.toNat_natCast]
  simp [List.getD, h]
theorem rdOf_mem (d : α) (xs : List α) (i : Nat) (h : i < xs.length) : rdOf d xs (i : Int) ∈ xs := by
  rw [rdOf_get d xs i h]; exact List.getElem_mem h
theorem rd_mem (xs : List Int) (i : Nat) (h : i < xs.length) : rd xs (i : Int) ∈ xs := by
  rw [rd_get xs i h]; exact List.getElem_mem h
theorem set_mid (pre t : List α) (x v : α) (i : Nat) (h : pre.length = i) : (pre ++ x :: t).set i v = pre ++ v :: t := by
  subst h
  rw [List.set_append_right _ _ (Nat.le_refl _)]
  simp
end
def mtB (n : Nat) (acc : ByteArray) : ByteArray := if n = 0 then (⟨#[109]⟩ : ByteArray) ++ acc else mtB (n / 10) (strOfNums [(48 + (n : Int) % 10) % 256] ++ acc)
termination_by n
decreasing_by omega
def mtR (k : Int) : ByteArray := if k ≤ 0 then ⟨#[109, 48]⟩ else mtB k.toNat ⟨#[]⟩
theorem mtB_zero (acc : ByteArray) : mtB 0 acc = (⟨#[109]⟩ : ByteArray) ++ acc := by rw [mtB, if_pos rfl]
theorem mtB_pos {n : Nat} (h : n ≠ 0) (acc : ByteArray) : mtB n acc = mtB (n / 10) (strOfNums [(48 + (n : Int) % 10) % 256] ++ acc) := by rw [mtB, if_neg h]
def marksS (k : Int) : Nat → List ByteArray
  | 0 => []
  | n + 1 => mtR k :: marksS (k + 1) n
theorem marksS_length (n : Nat) : ∀ k, (marksS k n).length = n := by
  induction n with
  | zero => intro k; rfl
  | succ n ih => intro k; unfold marksS; rw [List.length_cons, ih]
def marksI (k : Int) : Nat → List Int
  | 0 => []
  | n + 1 => k :: marksI (k + 1) n
theorem marksI_length (n : Nat) : ∀ k, (marksI k n).length = n := by
  induction n with
  | zero => intro k; rfl
  | succ n ih => intro k; unfold marksI; rw [List.length_cons, ih]
/-- Each key ends, with a figure nought behind it, ahead of all later ones. -/
def Asc (l : List ByteArray) : Prop := ∀ i j : Nat, (hij : i < j) → (hj : j < l.length) → Op.bytesLess ((l[i]'(by omega)).toList ++ [48]) (l[j]).toList = true
theorem Asc.nil : Asc [] := fun i j _ hj => by simp at hj
theorem idxP_step {α : Type} (p : α → Bool) (x : α) (t : List α) (i : Int) : idxP p (x :: t) i = if p x = true then i else idxP p t (i + 1) := rfl
theorem in_dec (x a b : Int) : (if x ≥ a then some (decide (x ≤ b)) else some false) = some (decide (a ≤ x ∧ x ≤ b)) := by
  by_cases c : x ≥ a
  · rw [if_pos c]
    congr 1
    by_cases d : x ≤ b
    · rw [decide_eq_true d, decide_eq_true ⟨c, d⟩]
    · rw [decide_eq_false d, decide_eq_false (fun h => d h.2)]
  · rw [if_neg c, decide_eq_false (fun h => c h.1)]
def Took (s : ByteArray) (a b : Int) (x : ByteArray) : Prop := 0 ≤ a ∧ b ≤ (s.size : Int) ∧ b = a + (x.size : Int) ∧ (bytesOf s).drop a.toNat = bytesOf x ++ (bytesOf s).drop b.toNat
theorem Took.nil (s : ByteArray) (a : Int) (h : 0 ≤ a ∧ a ≤ (s.size : Int)) : Took s a a ⟨#[]⟩ := ⟨h.1, h.2, by show a = a + 0; omega, rfl⟩
theorem Took.trans {s : ByteArray} {a b c : Int} {x y : ByteArray} (h : Took s a b x) (g : Took s b c y) : Took s a c (x ++ y) := by
  obtain ⟨h1, h2, h3, h4⟩ := h
  obtain ⟨g1, g2, g3, g4⟩ := g
  refine ⟨h1, g2, by rw [ByteArray.size_append]; omega, ?_⟩
  rw [h4, g4, bytesOf_append, List.append_assoc]
theorem Took.whole {s : ByteArray} {b : Int} {x : ByteArray} (h : Took s 0 b x) (hb : b = (s.size : Int)) : x = s := by
  obtain ⟨h1, h2, h3, h4⟩ := h
  have e : (bytesOf s).drop b.toNat = [] := List.drop_eq_nil_of_le (by rw [bytesOf_length]; omega)
  rw [e, List.append_nil] at h4
  exact (bytesOf_inj h4).symm
theorem Took.all (s x t : ByteArray) : Took (s ++ x ++ t) (s.size : Int) ((s.size : Int) + (x.size : Int)) x := by
  refine ⟨by omega, by rw [ByteArray.size_append, ByteArray.size_append]; omega, rfl, ?_⟩
  have e1 : (bytesOf s).length = s.size := bytesOf_length s
  have e2 : (bytesOf x).length = x.size := bytesOf_length x
  have e3 : ((s.size : Int) + (x.size : Int)).toNat = s.size + x.size := by omega
  have l1 : ((bytesOf s) ++ (bytesOf x ++ bytesOf t)).drop s.size = bytesOf x ++ bytesOf t := List.drop_left' e1
  have l2 : ((bytesOf s) ++ (bytesOf x ++ bytesOf t)).drop (s.size + x.size) = bytesOf t := by rw [← List.drop_drop, l1]; exact List.drop_left' e2
  rw [bytesOf_append, bytesOf_append, List.append_assoc, Int.toNat_natCast, e3, l1, l2]
theorem Took.extract {s : ByteArray} {a b : Int} {x : ByteArray} (h : Took s a b x) : s.extract a.toNat b.toNat = x := by
  obtain ⟨h1, h2, h3, h4⟩ := h
  apply bytesOf_inj
  rw [bytesOf_extract, h4, show b.toNat - a.toNat = (bytesOf x).length by rw [bytesOf_length]; omega, List.take_left']
  rfl
theorem Took.of_extract (s : ByteArray) (a b : Int) (h0 : 0 ≤ a) (h1 : a ≤ b) (h2 : b ≤ (s.size : Int)) : Took s a b (s.extract a.toNat b.toNat) := by
  have hz : (s.extract a.toNat b.toNat).size = b.toNat - a.toNat := by
    rw [← bytesOf_length, bytesOf_extract, List.length_take, bytesOf_length_drop]; omega
  refine ⟨h0, h2, by rw [hz]; omega, ?_⟩
  have e : (bytesOf s).drop b.toNat = ((bytesOf s).drop a.toNat).drop (b.toNat - a.toNat) := by rw [List.drop_drop]; congr 1; omega
  rw [bytesOf_extract, e, List.take_append_drop]
theorem bytesOf_varB (n : Nat) : bytesOf (varB n) = varL n := bytesOf_strOfNums _ (varL_range n)
theorem rvR_took {s : ByteArray} {a n nx : Int} (h : rvR s a = (n, nx, true)) : Took s a nx (varB n.toNat) ∧ 0 ≤ n ∧ n ≤ 1000000000 := by
  obtain ⟨u, h1, h2, h3, h4, h5, h6, h7, h8⟩ := rvR_tells s a n nx h
  have hl : (((bytesOf s).drop a.toNat).take u).length = u := by rw [List.length_take, bytesOf_length_drop]; omega
  refine ⟨⟨h1, h7, ?_, ?_⟩, h2, h3⟩
  · rw [varB_size, h8, hl]; exact h4
  · rw [bytesOf_varB, h8, h4, show (a + (u : Int)).toNat = a.toNat + u by omega, ← List.drop_drop, List.take_append_drop]
theorem rvR_reads {s : ByteArray} {a b : Int} {n : Nat} (h : Took s a b (varB n)) (hn : n ≤ 1000000000) : rvR s a = ((n : Int), b, true) := by
  obtain ⟨h1, h2, h3, h4⟩ := h
  unfold rvR
  rw [if_pos ⟨h1, by omega⟩, h4, bytesOf_varB, rvL_reads a n _ hn, h3, varB_size]
theorem rsR_took {s t : ByteArray} {a nx : Int} (h : rsR s a = (t, nx, true)) : Took s a nx (shortB t) ∧ t.size ≤ 20000 := by
  unfold rsR at h
  rcases hr : rvR s a with ⟨n, b, ok⟩
  rw [hr] at h
  dsimp only at h
  by_cases c : ok = true ∧ n ≤ 20000 ∧ n ≤ (s.size : Int) - b
  · rw [if_pos c] at h
    obtain ⟨rfl, c2, c3⟩ := c
    obtain ⟨h1, h2, h3⟩ := rvR_took hr
    have hb : 0 ≤ b := by have := h1.1; have := h1.2.2.1; omega
    have ht := Took.of_extract s b (b + n) hb (by omega) (by omega)
    simp only [Prod.mk.injEq, and_true] at h
    obtain ⟨e1, e2⟩ := h
    rw [e1, e2] at ht
    have hz : (t.size : Int) = n := by have := ht.2.2.1; omega
    refine ⟨?_, by omega⟩
    have := h1.trans ht
    unfold shortB
    rwa [show n.toNat = t.size by omega] at this
  · rw [if_neg c] at h
    simp at h
theorem Took.split {s x y : ByteArray} {a c : Int} (h : Took s a c (x ++ y)) : Took s a (a + (x.size : Int)) x ∧ Took s (a + (x.size : Int)) c y := by
  obtain ⟨h1, h2, h3, h4⟩ := h
  rw [ByteArray.size_append] at h3
  rw [bytesOf_append, List.append_assoc] at h4
  have e : (bytesOf s).drop (a + (x.size : Int)).toNat = bytesOf y ++ (bytesOf s).drop c.toNat := by
    rw [show (a + (x.size : Int)).toNat = a.toNat + x.size by omega, ← List.drop_drop, h4, ← bytesOf_length x, List.drop_left']
    rfl
  exact ⟨⟨h1, by omega, rfl, by rw [e]; exact h4⟩, ⟨by omega, h2, by omega, e⟩⟩
theorem rsR_reads {s t : ByteArray} {a b : Int} (h : Took s a b (shortB t)) (ht : t.size ≤ 20000) : rsR s a = (t, b, true) := by
  obtain ⟨g1, g2⟩ := Took.split (x := varB t.size) (y := t) h
  have hr := rvR_reads g1 (by omega)
  unfold rsR
  rw [hr]
  dsimp only
  have hz := g2.2.2.1
  have hb := g2.2.1
  rw [if_pos ⟨rfl, by omega, by omega⟩, ← hz, g2.extract]
/-- A number is read, at most so great; what is bad stays bad. -/
def numR (s : ByteArray) (most at_ : Int) (bad : Bool) : Int × Int × Bool :=
  if bad = false ∧ (rvR s at_).2.2 = true ∧ (rvR s at_).1 ≤ most then ((rvR s at_).1, (rvR s at_).2.1, false) else (0, at_, true)
def txtR (s : ByteArray) (at_ : Int) (bad : Bool) : ByteArray × Int × Bool :=
  if bad = false ∧ (rsR s at_).2.2 = true then ((rsR s at_).1, (rsR s at_).2.1, false) else (⟨#[]⟩, at_, true)
theorem numR_bad (s : ByteArray) (most at_ : Int) : numR s most at_ true = (0, at_, true) := by unfold numR; rw [if_neg (by simp)]
theorem txtR_bad (s : ByteArray) (at_ : Int) : txtR s at_ true = (⟨#[]⟩, at_, true) := by unfold txtR; rw [if_neg (by simp)]
theorem numR_took {s : ByteArray} {most a n b : Int} {bad : Bool} (h : numR s most a bad = (n, b, false)) : bad = false ∧ Took s a b (varB n.toNat) ∧ 0 ≤ n ∧ n ≤ most ∧ n ≤ 1000000000 := by
  unfold numR at h
  rcases hr : rvR s a with ⟨m, c, ok⟩
  rw [hr] at h
  dsimp only at h
  split at h
  · rename_i q
    obtain ⟨q1, rfl, q3⟩ := q
    simp only [Prod.mk.injEq, and_true] at h
    obtain ⟨rfl, rfl⟩ := h
    obtain ⟨h1, h2, h3⟩ := rvR_took hr
    exact ⟨q1, h1, h2, q3, h3⟩
  · simp at h
theorem numR_reads {s : ByteArray} {most a b : Int} {n : Nat} (h : Took s a b (varB n)) (hn : n ≤ 1000000000) (hm : (n : Int) ≤ most) : numR s most a false = ((n : Int), b, false) := by
  unfold numR
  rw [rvR_reads h hn, if_pos ⟨rfl, rfl, hm⟩]
theorem txtR_took {s t : ByteArray} {a b : Int} {bad : Bool} (h : txtR s a bad = (t, b, false)) : bad = false ∧ Took s a b (shortB t) ∧ t.size ≤ 20000 := by
  unfold txtR at h
  rcases hr : rsR s a with ⟨m, c, ok⟩
  rw [hr] at h
  dsimp only at h
  split at h
  · rename_i q
    obtain ⟨q1, rfl⟩ := q
    simp only [Prod.mk.injEq, and_true] at h
    obtain ⟨rfl, rfl⟩ := h
    obtain ⟨h1, h2⟩ := rsR_took hr
    exact ⟨q1, h1, h2⟩
  · simp at h
theorem txtR_reads {s t : ByteArray} {a b : Int} (h : Took s a b (shortB t)) (ht : t.size ≤ 20000) : txtR s a false = (t, b, false) := by
  unfold txtR
  rw [rsR_reads h ht, if_pos ⟨rfl, rfl⟩]
theorem Took.byte (s : ByteArray) (a : Int) (h0 : 0 ≤ a) (h1 : a < (s.size : Int)) : Took s a (a + 1) (strOfNums [bt s a]) := by
  obtain ⟨i, rfl⟩ := Int.eq_ofNat_of_zero_le h0
  refine ⟨h0, by omega, by rw [strOfNums_size]; rfl, ?_⟩
  have hb := bt_range s (i : Int)
  rw [bytesOf_strOfNums [bt s (i : Int)] (by intro x hx; rw [List.mem_singleton.1 hx]; exact hb), Int.toNat_natCast, bytesOf_drop s i (by omega), show ((i : Int) + 1).toNat = i + 1 by omega]
  rfl
theorem Took.byte_tells {s : ByteArray} {a b n : Int} (hn : 0 ≤ n ∧ n ≤ 255) (h : Took s a b (strOfNums [n])) : b = a + 1 ∧ a < (s.size : Int) ∧ bt s a = n := by
  obtain ⟨h1, h2, h3, h4⟩ := h
  rw [strOfNums_size] at h3
  have h3' : b = a + 1 := h3
  obtain ⟨i, rfl⟩ := Int.eq_ofNat_of_zero_le h1
  rw [bytesOf_strOfNums [n] (by intro x hx; rw [List.mem_singleton.1 hx]; exact hn), Int.toNat_natCast, bytesOf_drop s i (by omega)] at h4
  exact ⟨h3', by omega, (List.cons.inj h4).1⟩
theorem Took.self (s : ByteArray) : Took s 0 (s.size : Int) s := by
  have := Took.all ⟨#[]⟩ s ⟨#[]⟩
  rw [show (⟨#[]⟩ : ByteArray) ++ s = s from ByteArray.empty_append, show s ++ (⟨#[]⟩ : ByteArray) = s from ByteArray.append_empty] at this
  have z : (⟨#[]⟩ : ByteArray).size = 0 := rfl
  rw [z] at this
  simpa using this
/-- A loop that goes on while p holds of the place. -/
theorem ev_every {α : Type} (g : Nat → Nat → Option α) (p : Nat → Bool) (n : Nat) {r e : α} (h0 : Ev (fun k => g k n) r) (h1 : ∀ i, i < n → p i = true → ∀ res, Ev (fun k => g k (i + 1)) res → Ev (fun k => g k i) res) (h2 : ∀ i, i < n → p i = false → Ev (fun k => g k i) e) : ∀ d i : Nat, i + d = n → Ev (fun k => g k i) (if (List.range' i d).all p = true then r else e) := by
  intro d
  induction d with
  | zero =>
    intro i hi
    have : i = n := by omega
    subst this
    exact h0
  | succ d ih =>
    intro i hi
    rw [List.range'_succ, List.all_cons]
    cases hp : p i with
    | false => exact h2 i (by omega) hp
    | true => exact h1 i (by omega) hp _ (ih (i + 1) (by omega))
theorem ite_ff (b c : Bool) : (if b = true then c else false) = (b && c) := by cases b <;> rfl
theorem ite_tf (b : Bool) : (if b = true then true else false) = b := by cases b <;> rfl
theorem all_and (l : List Nat) (p q : Nat → Bool) : (l.all fun i => p i && q i) = (l.all p && l.all q) := by
  induction l with
  | nil => rfl
  | cons x t ih =>
    rw [List.all_cons, List.all_cons, List.all_cons, ih]
    cases p x <;> cases q x <;> cases t.all p <;> cases t.all q <;> rfl
theorem range_all_iff (n : Nat) (p : Nat → Bool) : (List.range' 0 n).all p = true ↔ ∀ i, i < n → p i = true := by
  rw [List.all_eq_true]
  constructor
  · intro h i hi; exact h i (by rw [List.mem_range'_1]; omega)
  · intro h i hi; exact h i (by rw [List.mem_range'_1] at hi; omega)
/-- A test of all elements, by their places. -/
theorem any_places {α : Type} (d : α) (p : α → Bool) (l : List α) : (List.range' 0 l.length).all (fun i => !p (rdOf d l (i : Int))) = !(l.any p) := by
  have h : ((List.range' 0 l.length).all (fun i => !p (rdOf d l (i : Int))) = true) ↔ (!(l.any p)) = true := by
    rw [range_all_iff]
    simp only [Bool.not_eq_true', List.any_eq_false]
    constructor
    · intro h x hx
      obtain ⟨i, hi, rfl⟩ := List.getElem_of_mem hx
      have := h i hi
      rw [rdOf_get d l i hi] at this
      rw [this]; decide
    · intro h i hi
      have := h _ (rdOf_mem d l i hi)
      simpa using this
  cases h1 : (List.range' 0 l.length).all (fun i => !p (rdOf d l (i : Int))) <;> cases h2 : !(l.any p) <;> rw [h1, h2] at h <;> simp at h ⊢
theorem headD_drop_rdOf {α : Type} (d : α) (l : List α) (i : Nat) : (l.drop i).headD d = rdOf d l (i : Int) := by
  unfold rdOf
  rw [Int.toNat_natCast]
  by_cases h : i < l.length
  · rw [List.drop_eq_getElem_cons h]; simp [List.getD, h]
  · rw [List.drop_eq_nil_of_le (by omega)]; simp [List.getD, Nat.le_of_not_lt h]
theorem headD_drop_rd (l : List Int) (i : Nat) : (l.drop i).headD 0 = rd l (i : Int) := headD_drop_rdOf 0 l i
def ascAt (l : List ByteArray) (i : Nat) : Bool := decide (i = 0) || Op.bytesLess (rdOf ByteArray.empty l ((i : Int) - 1)).toList (rdOf ByteArray.empty l (i : Int)).toList
def fitAt (most : Int) (l : List ByteArray) (i : Nat) : Bool := !decide (((rdOf ByteArray.empty l (i : Int)).size : Int) > most)
def kidAt (l : List Int) (i : Nat) : Bool := decide (2 ≤ rd l (i : Int) ∧ rd l (i : Int) ≤ 39) && !((l.take i).any fun x => decide (x = rd l (i : Int)))
def nodeOkR (leaf : Bool) (keys vals : List ByteArray) (kids : List Int) : Bool :=
  decide (1 ≤ (keys.length : Int) ∧ (keys.length : Int) ≤ 4) && (List.range' 0 keys.length).all (ascAt keys) && (List.range' 0 keys.length).all (fitAt 24 keys) &&
  if leaf = true then decide (vals.length = keys.length) && (List.range' 0 vals.length).all (fitAt 24 vals) && decide (kids.length = 0)
  else (List.range' 0 kids.length).all (kidAt kids) && decide (kids.length = keys.length) && decide (vals.length = 0)
theorem nodeOkR_tells {leaf : Bool} {keys vals : List ByteArray} {kids : List Int} (h : nodeOkR leaf keys vals kids = true) : 1 ≤ keys.length ∧ keys.length ≤ 4 ∧ (∀ k ∈ keys, k.size ≤ 24) ∧ (leaf = true → vals.length = keys.length ∧ kids = [] ∧ ∀ v ∈ vals, v.size ≤ 24) ∧ (leaf = false → kids.length = keys.length ∧ vals = [] ∧ ∀ c ∈ kids, 2 ≤ c ∧ c ≤ 39) := by
  have fits : ∀ (l : List ByteArray), (List.range' 0 l.length).all (fitAt 24 l) = true → ∀ k ∈ l, k.size ≤ 24 := by
    intro l h k hk
    obtain ⟨i, hi, rfl⟩ := List.getElem_of_mem hk
    have := (range_all_iff _ _).1 h i hi
    unfold fitAt at this
    rw [rdOf_get _ l i hi] at this
    simp at this
    omega
  unfold nodeOkR at h
  rw [Bool.and_eq_true, Bool.and_eq_true, Bool.and_eq_true, decide_eq_true_eq] at h
  obtain ⟨⟨⟨h1, h2⟩, h3⟩, h4⟩ := h
  refine ⟨by omega, by omega, fits _ h3, fun hl => ?_, fun hl => ?_⟩
  · rw [if_pos hl, Bool.and_eq_true, Bool.and_eq_true, decide_eq_true_eq, decide_eq_true_eq] at h4
    exact ⟨h4.1.1, List.eq_nil_of_length_eq_zero h4.2, fits _ h4.1.2⟩
  · rw [if_neg (by rw [hl]; decide), Bool.and_eq_true, Bool.and_eq_true, decide_eq_true_eq, decide_eq_true_eq] at h4
    refine ⟨h4.1.2, List.eq_nil_of_length_eq_zero h4.2, fun c hc => ?_⟩
    obtain ⟨i, hi, rfl⟩ := List.getElem_of_mem hc
    have := (range_all_iff _ _).1 h4.1.1 i hi
    unfold kidAt at this
    rw [rd_get kids i hi, Bool.and_eq_true, decide_eq_true_eq] at this
    exact this.1
/-- What stands of a node behind how many. -/
def entsL (leaf : Bool) : List ByteArray → List ByteArray → List Int → ByteArray
  | [], _, _ => ⟨#[]⟩
  | k :: ks, vs, cs => (shortB k ++ (if leaf = true then shortB (vs.headD ByteArray.empty) else varB (cs.headD 0).toNat)) ++ entsL leaf ks vs.tail cs.tail
def nodeHead (leaf : Bool) (n : Nat) : ByteArray := (if leaf = true then (⟨#[108]⟩ : ByteArray) else (⟨#[98]⟩ : ByteArray)) ++ varB n
def nodeB (leaf : Bool) (keys vals : List ByteArray) (kids : List Int) : ByteArray := nodeHead leaf keys.length ++ entsL leaf keys vals kids
theorem shortB_size_upto (s : ByteArray) (m : Nat) (h : s.size ≤ m) (hm : m ≤ 1000000) : (shortB s).size ≤ 10 + m := by
  unfold shortB
  rw [ByteArray.size_append]
  have := varB_size_le s.size (by omega)
  omega
theorem entsL_size (leaf : Bool) (keys : List ByteArray) : ∀ (vals : List ByteArray) (kids : List Int), (∀ k ∈ keys, k.size ≤ 24) → (leaf = true → ∀ v ∈ vals, v.size ≤ 24) → (leaf = false → ∀ c ∈ kids, 0 ≤ c ∧ c ≤ 1000000000) → (entsL leaf keys vals kids).size ≤ 68 * keys.length := by
  induction keys with
  | nil => intro vals kids _ _ _; exact Nat.zero_le _
  | cons k ks ih =>
    intro vals kids h1 h2 h3
    unfold entsL
    rw [ByteArray.size_append, ByteArray.size_append, List.length_cons]
    have a1 := shortB_size_upto k 24 (h1 k (by simp)) (by omega)
    have a2 := ih vals.tail kids.tail (fun x hx => h1 x (by simp [hx])) (fun hl x hx => h2 hl x (List.mem_of_mem_tail hx)) (fun hl x hx => h3 hl x (List.mem_of_mem_tail hx))
    have a3 : (if leaf = true then shortB (vals.headD ByteArray.empty) else varB (kids.headD 0).toNat).size ≤ 34 := by
      cases leaf with
      | true =>
        rw [if_pos rfl]
        refine shortB_size_upto _ 24 ?_ (by omega)
        cases vals with
        | nil => exact Nat.zero_le _
        | cons v vs => exact h2 rfl v (by simp)
      | false =>
        rw [if_neg (by decide)]
        have : (kids.headD 0).toNat ≤ 1000000000 := by
          cases kids with
          | nil => exact Nat.zero_le _
          | cons v vs => have := h3 rfl v (by simp); show v.toNat ≤ _; omega
        have := varB_size_le (kids.headD 0).toNat (by omega)
        omega
    omega
theorem nodeB_size {leaf : Bool} {keys vals : List ByteArray} {kids : List Int} (h : nodeOkR leaf keys vals kids = true) : (nodeB leaf keys vals kids).size ≤ 283 := by
  obtain ⟨h1, h2, h3, h4, h5⟩ := nodeOkR_tells h
  have := entsL_size leaf keys vals kids h3 (fun hl => (h4 hl).2.2) (fun hl c hc => by have := (h5 hl).2.2 c hc; omega)
  have hv := varB_size_le keys.length (by omega)
  have hh : (if leaf = true then (⟨#[108]⟩ : ByteArray) else (⟨#[98]⟩ : ByteArray)).size = 1 := by cases leaf <;> rfl
  unfold nodeB nodeHead
  rw [ByteArray.size_append, ByteArray.size_append, hh]
  omega
def nodeTextR (leaf : Bool) (keys vals : List ByteArray) (kids : List Int) : ByteArray × Bool :=
  if nodeOkR leaf keys vals kids = true then (nodeB leaf keys vals kids ++ sealB (nodeB leaf keys vals kids), true) else (⟨#[]⟩, false)
/-- What is read of a node behind how many: so many times a key and a value or a kid. -/
def ndP (s : ByteArray) (leaf stop : Bool) (most : Int) : Nat → Int → Bool → List ByteArray → List ByteArray → List Int → Int × Bool × List ByteArray × List ByteArray × List Int
  | 0, a, bad, K, V, C => (a, bad, K, V, C)
  | d + 1, a, bad, K, V, C =>
    if (stop && bad) = true then (a, bad, K, V, C)
    else if leaf = true then ndP s leaf stop most d (txtR s (txtR s a bad).2.1 (txtR s a bad).2.2).2.1 (txtR s (txtR s a bad).2.1 (txtR s a bad).2.2).2.2 (K ++ [(txtR s a bad).1]) (V ++ [(txtR s (txtR s a bad).2.1 (txtR s a bad).2.2).1]) C
    else ndP s leaf stop most d (numR s most (txtR s a bad).2.1 (txtR s a bad).2.2).2.1 (numR s most (txtR s a bad).2.1 (txtR s a bad).2.2).2.2 (K ++ [(txtR s a bad).1]) V (C ++ [(numR s most (txtR s a bad).2.1 (txtR s a bad).2.2).1])
theorem ndP_bad (s : ByteArray) (leaf stop : Bool) (most : Int) (d : Nat) : ∀ (a : Int) (K V : List ByteArray) (C : List Int), (ndP s leaf stop most d a true K V C).2.1 = true := by
  induction d with
  | zero => intro a K V C; rfl
  | succ d ih =>
    intro a K V C
    unfold ndP
    split
    · rfl
    · rw [txtR_bad]
      dsimp only
      rw [txtR_bad, numR_bad]
      dsimp only
      split
      · exact ih _ _ _ _
      · exact ih _ _ _ _
/-- What was read and is not bad stands in the text so. -/
theorem ndP_took (s : ByteArray) (leaf stop : Bool) (most : Int) (d : Nat) : ∀ (a : Int) (bad : Bool) (K V : List ByteArray) (C : List Int), 0 ≤ a ∧ a ≤ (s.size : Int) → (ndP s leaf stop most d a bad K V C).2.1 = false →
    ∃ (ks vs : List ByteArray) (cs : List Int) (b : Int), ndP s leaf stop most d a bad K V C = (b, false, K ++ ks, V ++ vs, C ++ cs) ∧ bad = false ∧ ks.length = d ∧ Took s a b (entsL leaf ks vs cs) := by
  induction d with
  | zero =>
    intro a bad K V C ha h
    change bad = false at h
    subst h
    exact ⟨[], [], [], a, by simp [ndP], rfl, rfl, Took.nil s a ha⟩
  | succ d ih =>
    intro a bad K V C ha h
    cases bad with
    | true => rw [ndP_bad] at h; cases h
    | false =>
      unfold ndP at h ⊢
      rw [if_neg (by simp)] at h ⊢
      rcases hx : txtR s a false with ⟨k, a1, b1⟩
      rw [hx] at h
      dsimp only at h ⊢
      cases b1 with
      | true =>
        rw [txtR_bad, numR_bad] at h
        dsimp only at h
        split at h
        · rw [ndP_bad] at h; cases h
        · rw [ndP_bad] at h; cases h
      | false =>
        obtain ⟨_, t1, _⟩ := txtR_took hx
        have ha1 : 0 ≤ a1 ∧ a1 ≤ (s.size : Int) := ⟨by have := t1.1; have := t1.2.2.1; omega, t1.2.1⟩
        cases leaf with
        | true =>
          rw [if_pos rfl] at h ⊢
          rcases hy : txtR s a1 false with ⟨v, a2, b2⟩
          rw [hy] at h
          dsimp only at h ⊢
          cases b2 with
          | true => rw [ndP_bad] at h; cases h
          | false =>
            obtain ⟨_, t2, _⟩ := txtR_took hy
            have ha2 : 0 ≤ a2 ∧ a2 ≤ (s.size : Int) := ⟨by have := t2.1; have := t2.2.2.1; omega, t2.2.1⟩
            obtain ⟨ks, vs, cs, b, e, _, hl, ht⟩ := ih a2 false (K ++ [k]) (V ++ [v]) C ha2 h
            refine ⟨k :: ks, v :: vs, cs, b, by rw [e]; simp, rfl, by simp [hl], ?_⟩
            have := (t1.trans t2).trans ht
            cases cs with
            | nil => exact this
            | cons c cs => 
              have e2 : ∀ (ks vs : List ByteArray) (c1 c2 : List Int), entsL true ks vs c1 = entsL true ks vs c2 := by
                intro ks
                induction ks with
                | nil => intro vs c1 c2; rfl
                | cons x xs ihx => intro vs c1 c2; unfold entsL; rw [ihx vs.tail c1.tail c2.tail]; rfl
              rw [e2 ks vs (c :: cs) cs] at this
              exact this
        | false =>
          rw [if_neg (by decide)] at h ⊢
          rcases hy : numR s most a1 false with ⟨v, a2, b2⟩
          rw [hy] at h
          dsimp only at h ⊢
          cases b2 with
          | true => rw [ndP_bad] at h; cases h
          | false =>
            obtain ⟨_, t2, _⟩ := numR_took hy
            have ha2 : 0 ≤ a2 ∧ a2 ≤ (s.size : Int) := ⟨by have := t2.1; have := t2.2.2.1; omega, t2.2.1⟩
            obtain ⟨ks, vs, cs, b, e, _, hl, ht⟩ := ih a2 false (K ++ [k]) V (C ++ [v]) ha2 h
            refine ⟨k :: ks, vs, v :: cs, b, by rw [e]; simp, rfl, by simp [hl], ?_⟩
            have := (t1.trans t2).trans ht
            have e2 : ∀ (ks v1 v2 : List ByteArray) (cs : List Int), entsL false ks v1 cs = entsL false ks v2 cs := by
              intro ks
              induction ks with
              | nil => intro v1 v2 cs; rfl
              | cons x xs ihx => intro v1 v2 cs; unfold entsL; rw [ihx v1.tail v2.tail cs.tail]; rfl
            rw [e2 ks vs vs.tail cs] at this
            exact this
/-- What stands there so is read. -/
theorem ndP_reads (s : ByteArray) (leaf stop : Bool) (most : Int) (hm : 39 ≤ most) (keys : List ByteArray) : ∀ (vals : List ByteArray) (kids : List Int) (a b : Int) (K V : List ByteArray) (C : List Int), (∀ k ∈ keys, k.size ≤ 24) → (leaf = true → vals.length = keys.length ∧ kids = [] ∧ ∀ v ∈ vals, v.size ≤ 24) → (leaf = false → kids.length = keys.length ∧ vals = [] ∧ ∀ c ∈ kids, 2 ≤ c ∧ c ≤ 39) →
    Took s a b (entsL leaf keys vals kids) → ndP s leaf stop most keys.length a false K V C = (b, false, K ++ keys, V ++ vals, C ++ kids) := by
  induction keys with
  | nil =>
    intro vals kids a b K V C _ h2 h3 ht
    have hb : b = a := by have := ht.2.2.1; change b = a + 0 at this; omega
    subst hb
    cases leaf with
    | true =>
      obtain ⟨g1, rfl, _⟩ := h2 rfl
      rw [List.eq_nil_of_length_eq_zero g1]
      simp [ndP]
    | false =>
      obtain ⟨g1, rfl, _⟩ := h3 rfl
      rw [List.eq_nil_of_length_eq_zero g1]
      simp [ndP]
  | cons k ks ih =>
    intro vals kids a b K V C h1 h2 h3 ht
    rw [List.length_cons]
    have hk := h1 k (by simp)
    cases leaf with
    | true =>
      obtain ⟨g1, rfl, g3⟩ := h2 rfl
      obtain ⟨v, vs, rfl⟩ : ∃ v vs, vals = v :: vs := by
        cases vals with
        | nil => simp at g1
        | cons v vs => exact ⟨v, vs, rfl⟩
      have ht' : Took s a b ((shortB k ++ shortB v) ++ entsL true ks vs []) := ht
      obtain ⟨t12, t3⟩ := Took.split ht'
      obtain ⟨t1, t2⟩ := Took.split t12
      have hv := g3 v (by simp)
      unfold ndP
      rw [if_neg (by simp), txtR_reads t1 (by omega)]
      dsimp only
      rw [if_pos rfl, txtR_reads t2 (by omega)]
      dsimp only
      rw [ih vs [] _ _ (K ++ [k]) (V ++ [v]) C (fun x hx => h1 x (by simp [hx])) (fun _ => ⟨by simpa using g1, rfl, fun x hx => g3 x (by simp [hx])⟩) (fun h => by cases h) t3]
      simp
    | false =>
      obtain ⟨g1, rfl, g3⟩ := h3 rfl
      obtain ⟨c, cs, rfl⟩ : ∃ c cs, kids = c :: cs := by
        cases kids with
        | nil => simp at g1
        | cons v vs => exact ⟨v, vs, rfl⟩
      have ht' : Took s a b ((shortB k ++ varB c.toNat) ++ entsL false ks [] cs) := ht
      obtain ⟨t12, t3⟩ := Took.split ht'
      obtain ⟨t1, t2⟩ := Took.split t12
      have hv := g3 c (by simp)
      have hr := numR_reads (most := most) t2 (show c.toNat ≤ 1000000000 by omega) (by omega)
      unfold ndP
      rw [if_neg (by simp), txtR_reads t1 (by omega)]
      dsimp only
      rw [if_neg (by decide), hr]
      dsimp only
      rw [ih [] cs _ _ (K ++ [k]) V (C ++ [(c.toNat : Int)]) (fun x hx => h1 x (by simp [hx])) (fun h => by cases h) (fun _ => ⟨by simpa using g1, rfl, fun x hx => g3 x (by simp [hx])⟩) t3]
      simp
      omega
theorem extract_left (x y : ByteArray) : (x ++ y).extract 0 x.size = x := by
  have h := (Took.all ⟨#[]⟩ x y).extract
  have e : (⟨#[]⟩ : ByteArray) ++ x = x := ByteArray.empty_append
  have z : (⟨#[]⟩ : ByteArray).size = 0 := rfl
  rw [e, z] at h
  simpa using h
theorem extract_right (x y : ByteArray) : (x ++ y).extract x.size (x ++ y).size = y := by
  have h := (Took.all x y ⟨#[]⟩).extract
  have e : x ++ y ++ (⟨#[]⟩ : ByteArray) = x ++ y := ByteArray.append_empty
  rw [e] at h
  rw [ByteArray.size_append]
  have e2 : ((x.size : Int) + (y.size : Int)).toNat = x.size + y.size := by omega
  rw [e2, Int.toNat_natCast] at h
  exact h
theorem unsealedR_sealed (x : ByteArray) (h : x.size ≤ 20000) : unsealedR (x ++ sealB x) = (x, true) := by
  have hz := sealB_size x
  have hs : (x ++ sealB x).size = x.size + 4 := by rw [ByteArray.size_append, hz]
  have e1 := extract_left x (sealB x)
  have e2 := extract_right x (sealB x)
  unfold unsealedR
  rw [show (x ++ sealB x).size - 4 = x.size by omega, e1, e2, if_pos ⟨by omega, by omega, rfl⟩]
theorem unsealedR_tells {s x : ByteArray} (h : unsealedR s = (x, true)) : s = x ++ sealB x ∧ x.size ≤ 20000 ∧ s.size = x.size + 4 := by
  unfold unsealedR at h
  split at h
  · rename_i c
    obtain ⟨c1, c2, c3⟩ := c
    simp only [Prod.mk.injEq, and_true] at h
    have h0 := Took.of_extract s 0 ((s.size - 4 : Nat) : Int) (by omega) (by omega) (by omega)
    have h1 := Took.of_extract s ((s.size - 4 : Nat) : Int) (s.size : Int) (by omega) (by omega) (by omega)
    have h2 := (h0.trans h1).whole rfl
    rw [Int.toNat_natCast, Int.toNat_natCast, c3] at h2
    rw [show (0 : Int).toNat = 0 from rfl, h] at h2
    have hz := sealB_size x
    have : s.size = x.size + 4 := by rw [← h2, ByteArray.size_append, hz]
    exact ⟨h2.symm, by omega, this⟩
  · simp at h
theorem nodeTextR_tells {leaf : Bool} {keys vals : List ByteArray} {kids : List Int} {t : ByteArray} (h : nodeTextR leaf keys vals kids = (t, true)) : nodeOkR leaf keys vals kids = true ∧ t = nodeB leaf keys vals kids ++ sealB (nodeB leaf keys vals kids) := by
  unfold nodeTextR at h
  split at h
  · simp only [Prod.mk.injEq, and_true] at h; exact ⟨by assumption, h.symm⟩
  · simp at h
/-- How many, then so many; from the place 1 on. -/
def nodeP (s : ByteArray) (leaf stop bad : Bool) (mostN : Int) (cap : Nat) (mostK : Int) : Int × Bool × List ByteArray × List ByteArray × List Int :=
  ndP s leaf stop mostK (min (numR s mostN 1 bad).1.toNat cap) (numR s mostN 1 bad).2.1 (numR s mostN 1 bad).2.2 [] [] []
def nodeByte (leaf : Bool) : Int := if leaf = true then 108 else 98
theorem nodeHead_eq (leaf : Bool) (n : Nat) : nodeHead leaf n = strOfNums [nodeByte leaf] ++ varB n := by cases leaf <;> rfl
theorem nodeB_first (leaf : Bool) (keys vals : List ByteArray) (kids : List Int) : bt (nodeB leaf keys vals kids) 0 = nodeByte leaf ∧ 2 ≤ (nodeB leaf keys vals kids).size := by
  have h := Took.self (nodeB leaf keys vals kids)
  have h' : Took (nodeB leaf keys vals kids) 0 ((nodeB leaf keys vals kids).size : Int) ((strOfNums [nodeByte leaf] ++ varB keys.length) ++ entsL leaf keys vals kids) := by
    rw [← nodeHead_eq]; exact h
  have hb : 0 ≤ nodeByte leaf ∧ nodeByte leaf ≤ 255 := by cases leaf <;> decide
  have t := ((h'.split).1.split)
  obtain ⟨e1, e2, e3⟩ := Took.byte_tells hb t.1
  have hv := varL_length_pos keys.length
  have := t.2.2.1
  have h2 := t.2.2.2.1
  rw [varB_size] at h2
  rw [strOfNums_size] at h2
  have h2' : 0 + (1 : Int) + ((varL keys.length).length : Int) ≤ ((nodeB leaf keys vals kids).size : Int) := by
    have := (h'.split).1.2.1
    rw [ByteArray.size_append, varB_size, strOfNums_size] at this
    have e : ([nodeByte leaf] : List Int).length = 1 := rfl
    rw [e] at this
    omega
  exact ⟨e3, by omega⟩
theorem nodeP_reads {leaf : Bool} {keys vals : List ByteArray} {kids : List Int} (h : nodeOkR leaf keys vals kids = true) (stop : Bool) (mostN : Int) (cap : Nat) (mostK : Int) (h1 : 4 ≤ mostN) (h2 : 4 ≤ cap) (h3 : 39 ≤ mostK) :
    nodeP (nodeB leaf keys vals kids) leaf stop false mostN cap mostK = (((nodeB leaf keys vals kids).size : Int), false, keys, vals, kids) := by
  obtain ⟨g1, g2, g3, g4, g5⟩ := nodeOkR_tells h
  have t0 := Took.self (nodeB leaf keys vals kids)
  have t1 : Took (nodeB leaf keys vals kids) 0 ((nodeB leaf keys vals kids).size : Int) ((strOfNums [nodeByte leaf] ++ varB keys.length) ++ entsL leaf keys vals kids) := by
    rw [← nodeHead_eq]; exact t0
  generalize nodeB leaf keys vals kids = B at t1 ⊢
  obtain ⟨t2, t3⟩ := Took.split t1
  obtain ⟨t4, t5⟩ := Took.split t2
  have hb : 0 ≤ nodeByte leaf ∧ nodeByte leaf ≤ 255 := by cases leaf <;> decide
  obtain ⟨e1, _, _⟩ := Took.byte_tells hb t4
  rw [e1, Int.zero_add] at t5
  have r1 := numR_reads (most := mostN) t5 (by omega) (by omega)
  unfold nodeP
  rw [r1]
  dsimp only
  rw [Int.toNat_natCast, Nat.min_eq_left (by omega), ndP_reads B leaf stop mostK h3 keys vals kids _ _ [] [] [] g3 g4 g5 t3]
  simp
def nodeZero : Bool × List ByteArray × List ByteArray × List Int × Bool := (false, [], [], [], false)
def readNodeR (t : ByteArray) : Bool × List ByteArray × List ByteArray × List Int × Bool :=
  if (unsealedR t).2 = true ∧ 2 ≤ (unsealedR t).1.size then
    (let leaf := decide (bt (unsealedR t).1 0 = 108)
     let p := nodeP (unsealedR t).1 leaf true false 1000000000 10 1000000000
     if p.2.1 = false ∧ nodeTextR leaf p.2.2.1 p.2.2.2.1 p.2.2.2.2 = (t, true) then (leaf, p.2.2.1, p.2.2.2.1, p.2.2.2.2, true) else nodeZero)
  else nodeZero
theorem decide_leaf (leaf : Bool) : decide (nodeByte leaf = 108) = leaf := by cases leaf <;> rfl
theorem readNodeR_text {leaf : Bool} {keys vals : List ByteArray} {kids : List Int} {t : ByteArray} (h : nodeTextR leaf keys vals kids = (t, true)) : readNodeR t = (leaf, keys, vals, kids, true) := by
  obtain ⟨h1, rfl⟩ := nodeTextR_tells h
  have hz := nodeB_size h1
  obtain ⟨f1, f2⟩ := nodeB_first leaf keys vals kids
  unfold readNodeR
  rw [unsealedR_sealed _ (by omega)]
  dsimp only
  rw [if_pos ⟨rfl, f2⟩, f1, decide_leaf, nodeP_reads h1 true 1000000000 10 1000000000 (by omega) (by omega) (by omega)]
  dsimp only
  rw [if_pos ⟨rfl, h⟩]
theorem readNodeR_tells {leaf : Bool} {keys vals : List ByteArray} {kids : List Int} {t : ByteArray} (h : readNodeR t = (leaf, keys, vals, kids, true)) : nodeTextR leaf keys vals kids = (t, true) := by
  unfold readNodeR nodeZero at h
  split at h
  · dsimp only at h
    split at h
    · rename_i c
      cases h
      exact c.2
    · simp at h
  · simp at h
theorem readNodeR_no {leaf : Bool} {keys vals : List ByteArray} {kids : List Int} {t : ByteArray} (h : readNodeR t = (leaf, keys, vals, kids, false)) : readNodeR t = nodeZero := by
  unfold readNodeR at h ⊢
  split at h
  · rename_i c
    rw [if_pos c]
    dsimp only at h ⊢
    split at h
    · simp at h
    · rename_i c2
      rw [if_neg c2]
  · rename_i c
    rw [if_neg c]
/-- The other way to read: nothing is written again. -/
theorem readNodeR_impl (t : ByteArray) : readNodeR t =
    if (unsealedR t).2 = true ∧ (unsealedR t).1.size ≠ 0 then
      (let leaf := decide (bt (unsealedR t).1 0 = 108)
       let p := nodeP (unsealedR t).1 leaf false (!decide (bt (unsealedR t).1 0 = 108) && !decide (bt (unsealedR t).1 0 = 98)) 4 4 40
       if p.2.1 = false ∧ p.1 = ((unsealedR t).1.size : Int) ∧ nodeOkR leaf p.2.2.1 p.2.2.2.1 p.2.2.2.2 = true then (leaf, p.2.2.1, p.2.2.2.1, p.2.2.2.2, true) else nodeZero)
    else nodeZero := by
  rcases hr : readNodeR t with ⟨leaf, keys, vals, kids, ok⟩
  cases ok with
  | true =>
    have h := readNodeR_tells hr
    obtain ⟨h1, rfl⟩ := nodeTextR_tells h
    have hz := nodeB_size h1
    obtain ⟨f1, f2⟩ := nodeB_first leaf keys vals kids
    rw [unsealedR_sealed _ (by omega)]
    dsimp only
    have hbad : (!decide (nodeByte leaf = 108) && !decide (nodeByte leaf = 98)) = false := by cases leaf <;> rfl
    rw [if_pos ⟨rfl, by omega⟩, f1, decide_leaf]
    rw [decide_leaf] at hbad
    rw [hbad, nodeP_reads h1 false 4 4 40 (by omega) (by omega) (by omega)]
    dsimp only
    rw [if_pos ⟨rfl, rfl, h1⟩]
  | false =>
    have hn := readNodeR_no hr
    rw [← hr, hn]
    by_cases c : (unsealedR t).2 = true ∧ (unsealedR t).1.size ≠ 0
    · rw [if_pos c]
      dsimp only
      obtain ⟨u1, u2⟩ := c
      rcases hu : unsealedR t with ⟨B, ub⟩
      rw [hu] at u1 u2
      dsimp only at u1 u2 ⊢
      subst u1
      obtain ⟨ht, hB, _⟩ := unsealedR_tells hu
      generalize hleaf : decide (bt B 0 = 108) = leaf at *
      generalize hbad : (!leaf && !decide (bt B 0 = 98)) = bad
      split
      · rename_i c2
        exfalso
        obtain ⟨c3, c4, c5⟩ := c2
        unfold nodeP at c3 c4 c5
        rcases hk : numR B 4 1 bad with ⟨k, a, b1⟩
        rw [hk] at c3 c4 c5
        dsimp only at c3 c4 c5
        cases b1 with
        | true => rw [ndP_bad] at c3; cases c3
        | false =>
          obtain ⟨hb, t1, k0, k4, _⟩ := numR_took hk
          have ha : 0 ≤ a ∧ a ≤ (B.size : Int) := ⟨by have := t1.1; have := t1.2.2.1; omega, t1.2.1⟩
          obtain ⟨ks, vs, cs, b, e, _, hl, t2⟩ := ndP_took B leaf false 40 _ a false [] [] [] ha c3
          rw [e] at c4 c5
          dsimp only at c4 c5
          rw [List.nil_append, List.nil_append, List.nil_append] at c5
          have hfirst : bt B 0 = nodeByte leaf := by
            rw [hb] at hbad
            cases hl2 : leaf with
            | true => rw [hl2] at hleaf; exact of_decide_eq_true hleaf
            | false =>
              rw [hl2] at hbad
              simp at hbad
              exact hbad
          have t3 := ((Took.byte B 0 (by omega) (by omega)).trans t1).trans t2
          rw [hfirst] at t3
          have hmin : min k.toNat 4 = k.toNat := Nat.min_eq_left (by omega)
          rw [hmin] at hl
          rw [← hl, ← nodeHead_eq] at t3
          have hw : nodeB leaf ks vs cs = B := t3.whole c4
          have : nodeTextR leaf ks vs cs = (t, true) := by unfold nodeTextR; rw [if_pos c5, hw, ← ht]
          rw [readNodeR_text this] at hn
          unfold nodeZero at hn
          simp at hn
      · rfl
    · rw [if_neg c]
def entAt (leaf : Bool) (keys vals : List ByteArray) (kids : List Int) (i : Nat) : ByteArray := shortB (rdOf ByteArray.empty keys (i : Int)) ++ (if leaf = true then shortB (rdOf ByteArray.empty vals (i : Int)) else varB (rd kids (i : Int)).toNat)
theorem entsL_step (leaf : Bool) (keys vals : List ByteArray) (kids : List Int) (i : Nat) (h : i < keys.length) : entsL leaf (keys.drop i) (vals.drop i) (kids.drop i) = entAt leaf keys vals kids i ++ entsL leaf (keys.drop (i + 1)) (vals.drop (i + 1)) (kids.drop (i + 1)) := by
  rw [drop_rdOf ByteArray.empty keys i h]
  show (shortB (rdOf ByteArray.empty keys (i : Int)) ++ (if leaf = true then shortB ((vals.drop i).headD ByteArray.empty) else varB ((kids.drop i).headD 0).toNat)) ++ entsL leaf (keys.drop (i + 1)) (vals.drop i).tail (kids.drop i).tail = _
  unfold entAt
  rw [headD_drop_rdOf, headD_drop_rd, List.tail_drop, List.tail_drop]
theorem entAt_parts {leaf : Bool} {keys vals : List ByteArray} {kids : List Int} (h : nodeOkR leaf keys vals kids = true) (i : Nat) (hi : i < keys.length) : (rdOf ByteArray.empty keys (i : Int)).size ≤ 24 ∧ (leaf = true → i < vals.length ∧ (rdOf ByteArray.empty vals (i : Int)).size ≤ 24) ∧ (leaf = false → i < kids.length ∧ 2 ≤ rd kids (i : Int) ∧ rd kids (i : Int) ≤ 39) := by
  obtain ⟨g1, g2, g3, g4, g5⟩ := nodeOkR_tells h
  refine ⟨g3 _ (rdOf_mem ByteArray.empty keys i hi), fun hl => ?_, fun hl => ?_⟩
  · obtain ⟨q1, _, q3⟩ := g4 hl
    exact ⟨by omega, q3 _ (rdOf_mem ByteArray.empty vals i (by omega))⟩
  · obtain ⟨q1, _, q3⟩ := g5 hl
    exact ⟨by omega, q3 _ (rd_mem kids i (by omega))⟩
theorem entAt_size {leaf : Bool} {keys vals : List ByteArray} {kids : List Int} (h : nodeOkR leaf keys vals kids = true) (i : Nat) (hi : i < keys.length) : (entAt leaf keys vals kids i).size ≤ 68 := by
  obtain ⟨h1, h2, h3⟩ := entAt_parts h i hi
  unfold entAt
  rw [ByteArray.size_append]
  have a1 := shortB_size_upto _ 24 h1 (by omega)
  cases leaf with
  | true =>
    rw [if_pos rfl]
    have a2 := shortB_size_upto _ 24 (h2 rfl).2 (by omega)
    omega
  | false =>
    rw [if_neg (by decide)]
    have := (h3 rfl).2
    have a2 := varB_size_le (rd kids (i : Int)).toNat (by omega)
    omega
theorem laws_eqStringS_loop (a : List ByteArray) (hb : a.length ≤ 9223372036854775807) : ∀ (d i : Nat), i + d = a.length → Ev (fun k => laws_eqStringS.l0 k a a (i : Int)) true := by
  intro d
  induction d with
  | zero =>
    intro i hi
    refine ev_end fun k => ?_
    rw [laws_eqStringS.l0, if_neg (by omega)]
  | succ d ih =>
    intro i hi
    refine ev_go (ih (i + 1) (by omega)) fun k => ?_
    rw [laws_eqStringS.l0, if_pos (by omega), if_pos (by omega), if_pos (by omega), if_pos rfl, w64 (by omega) (by omega)]
    rfl
theorem laws_eqStringS_same (a : List ByteArray) (hb : a.length ≤ 9223372036854775807) : Ev (fun k => laws_eqStringS.f k a a) true := by
  refine Ev.congr (fun k => ?_) (laws_eqStringS_loop a hb a.length 0 (by omega))
  unfold laws_eqStringS.f
  rw [if_pos rfl]
  rfl
theorem laws_eqIntS_loop (a : List Int) (hb : a.length ≤ 9223372036854775807) : ∀ (d i : Nat), i + d = a.length → Ev (fun k => laws_eqIntS.l0 k a a (i : Int)) true := by
  intro d
  induction d with
  | zero =>
    intro i hi
    refine ev_end fun k => ?_
    rw [laws_eqIntS.l0, if_neg (by omega)]
  | succ d ih =>
    intro i hi
    refine ev_go (ih (i + 1) (by omega)) fun k => ?_
    rw [laws_eqIntS.l0, if_pos (by omega), if_pos (by omega), if_pos (by omega), if_pos rfl, w64 (by omega) (by omega)]
    rfl
theorem laws_eqIntS_same (a : List Int) (hb : a.length ≤ 9223372036854775807) : Ev (fun k => laws_eqIntS.f k a a) true := by
  refine Ev.congr (fun k => ?_) (laws_eqIntS_loop a hb a.length 0 (by omega))
  unfold laws_eqIntS.f
  rw [if_pos rfl]
  rfl
theorem laws_eqNode_same (l : Bool) (a b : List ByteArray) (c : List Int) (ha : a.length ≤ 9223372036854775807) (hb : b.length ≤ 9223372036854775807) (hc : c.length ≤ 9223372036854775807) : Ev (fun k => laws_eqNode.f k l a b c l a b c) true := by
  obtain ⟨K1, h1⟩ := laws_eqStringS_same a ha
  obtain ⟨K2, h2⟩ := laws_eqStringS_same b hb
  obtain ⟨K3, h3⟩ := laws_eqIntS_same c hc
  dsimp only at h1 h2 h3
  refine ⟨K1 + K2 + K3, fun k hk => ?_⟩
  dsimp only
  unfold laws_eqNode.f
  rw [bne_self_eq_false, if_neg (by decide), h1 k (by omega), Option.bind_some, if_pos rfl, h2 k (by omega), Option.bind_some, if_pos rfl, h3 k (by omega), Option.bind_some, if_pos rfl]
theorem spec_l01In_eq (x a b : Int) : spec_l01In.f x a b = some (decide (a ≤ x ∧ x ≤ b)) := in_dec x a b
def specNodeAt (leaf : Bool) (keys vals : List ByteArray) (kids : List Int) (i : Nat) : Bool := fitAt 24 keys i && (ascAt keys i && (if leaf = true then fitAt 24 vals i else kidAt kids i))
theorem spec_NodeOk_twice (leaf : Bool) (keys vals : List ByteArray) (kids : List Int) (n : Nat) (hn : n = keys.length) (hk : kids.length = n) (hl : n ≤ 1048576) (i : Nat) (hi : i < n) : ∀ (d j : Nat), j + d = i → ((kids.drop j).take d).any (fun x => decide (x = rd kids (i : Int))) = false → ∀ res, Ev (fun k => spec_NodeOk.l0 k (n : Int) ((i + 1 : Nat) : Int) leaf keys vals kids) res → Ev (fun k => spec_NodeOk.l1 k (n : Int) (i : Int) (j : Int) leaf keys vals kids) res := by
  intro d
  induction d with
  | zero =>
    intro j hj _ res hr
    refine ev_go hr fun k => ?_
    rw [spec_NodeOk.l1, if_neg (by omega), w64 (by omega) (by omega)]
    rfl
  | succ d ih =>
    intro j hj ha res hr
    rw [drop_rd kids j (by omega), List.take_succ_cons, List.any_cons, Bool.or_eq_false_iff] at ha
    refine ev_go (ih (j + 1) (by omega) ha.2 res hr) fun k => ?_
    rw [spec_NodeOk.l1, if_pos (by omega), if_pos (by omega), if_pos (by omega), if_pos (by omega), if_pos (by omega), if_neg (of_decide_eq_false ha.1), w64 (by omega) (by omega)]
    rfl
theorem spec_NodeOk_found (leaf : Bool) (keys vals : List ByteArray) (kids : List Int) (n : Nat) (hk : kids.length = n) (hl : n ≤ 1048576) (i : Nat) (hi : i < n) : ∀ (d j : Nat), j + d = i → ((kids.drop j).take d).any (fun x => decide (x = rd kids (i : Int))) = true → Ev (fun k => spec_NodeOk.l1 k (n : Int) (i : Int) (j : Int) leaf keys vals kids) false := by
  intro d
  induction d with
  | zero => intro j hj ha; simp at ha
  | succ d ih =>
    intro j hj ha
    rw [drop_rd kids j (by omega), List.take_succ_cons, List.any_cons] at ha
    by_cases c : rd kids (j : Int) = rd kids (i : Int)
    · refine ev_end fun k => ?_
      rw [spec_NodeOk.l1, if_pos (by omega), if_pos (by omega), if_pos (by omega), if_pos (by omega), if_pos (by omega), if_pos c]
    · rw [decide_eq_false c, Bool.false_or] at ha
      refine ev_go (ih (j + 1) (by omega) ha) fun k => ?_
      rw [spec_NodeOk.l1, if_pos (by omega), if_pos (by omega), if_pos (by omega), if_pos (by omega), if_pos (by omega), if_neg c, w64 (by omega) (by omega)]
      rfl
theorem spec_NodeOk_loop (leaf : Bool) (keys vals : List ByteArray) (kids : List Int) (hl : keys.length ≤ 1048576) (h1 : leaf = true → vals.length = keys.length) (h2 : leaf = false → kids.length = keys.length) : Ev (fun k => spec_NodeOk.l0 k (keys.length : Int) 0 leaf keys vals kids) ((List.range' 0 keys.length).all (specNodeAt leaf keys vals kids)) := by
  rw [← ite_tf ((List.range' 0 keys.length).all (specNodeAt leaf keys vals kids))]
  have j3no : ∀ (i : Nat) (k : Nat), spec_NodeOk.j3 (k + 1) (keys.length : Int) (i : Int) true leaf keys vals kids = some false := fun i k => by rw [spec_NodeOk.j3, if_pos rfl]
  have j2no : ∀ (i : Nat) (k : Nat), spec_NodeOk.j2 (k + 1) (keys.length : Int) (i : Int) true leaf keys vals kids = some false := fun i k => by rw [spec_NodeOk.j2, if_pos rfl]
  -- the key's test
  have l0fit : ∀ (i : Nat), i < keys.length → fitAt 24 keys i = true → ∀ k, spec_NodeOk.l0 (k + 1) (keys.length : Int) (i : Int) leaf keys vals kids = spec_NodeOk.j2 k (keys.length : Int) (i : Int) (!(ascAt keys i)) leaf keys vals kids := by
    intro i hi hf k
    unfold fitAt at hf
    rw [Bool.not_eq_true'] at hf
    have hf' := of_decide_eq_false hf
    rw [spec_NodeOk.l0, if_pos (by omega), if_pos (by omega), if_pos (by omega), if_neg hf']
    unfold ascAt
    by_cases c : i = 0
    · rw [if_neg (by omega), decide_eq_true c]; rfl
    · rw [if_pos (by omega), w64 (by omega) (by omega), if_pos (by omega), if_pos (by omega), decide_eq_false c, Bool.false_or]
  have l0big : ∀ (i : Nat), i < keys.length → fitAt 24 keys i = false → ∀ k, spec_NodeOk.l0 (k + 1) (keys.length : Int) (i : Int) leaf keys vals kids = spec_NodeOk.j2 k (keys.length : Int) (i : Int) true leaf keys vals kids := by
    intro i hi hf k
    unfold fitAt at hf
    rw [Bool.not_eq_false'] at hf
    rw [spec_NodeOk.l0, if_pos (by omega), if_pos (by omega), if_pos (by omega), if_pos (of_decide_eq_true hf)]
  refine ev_every (fun k i => spec_NodeOk.l0 k (keys.length : Int) (i : Int) leaf keys vals kids) (specNodeAt leaf keys vals kids) keys.length ?_ ?_ ?_ keys.length 0 (by omega)
  · refine ev_end fun k => ?_
    rw [spec_NodeOk.l0, if_neg (by omega)]
  · intro i hi hp res hr
    unfold specNodeAt at hp
    rw [Bool.and_eq_true, Bool.and_eq_true] at hp
    obtain ⟨p1, p2, p3⟩ := hp
    refine ev_go (f := fun k => spec_NodeOk.j2 k (keys.length : Int) (i : Int) false leaf keys vals kids) ?_ fun k => by rw [l0fit i hi p1 k, p2]; rfl
    cases leaf with
    | true =>
      rw [if_pos rfl] at p3
      unfold fitAt at p3
      rw [Bool.not_eq_true'] at p3
      refine ev_go (f := fun k => spec_NodeOk.j3 k (keys.length : Int) (i : Int) false true keys vals kids) ?_ fun k => by rw [spec_NodeOk.j2, if_neg (by decide), if_pos rfl, if_pos (by omega), if_pos (by have := h1 rfl; omega), p3]
      refine ev_go hr fun k => ?_
      rw [spec_NodeOk.j3, if_neg (by decide), if_pos rfl, w64 (by omega) (by omega)]
      rfl
    | false =>
      rw [if_neg (by decide)] at p3
      unfold kidAt at p3
      rw [Bool.and_eq_true, decide_eq_true_eq] at p3
      refine ev_go (f := fun k => spec_NodeOk.j3 k (keys.length : Int) (i : Int) false false keys vals kids) ?_ fun k => by rw [spec_NodeOk.j2, if_neg (by decide), if_neg (by decide)]
      have hkl := h2 rfl
      refine ev_go (spec_NodeOk_twice false keys vals kids keys.length rfl hkl hl i hi i 0 (by omega) (by rw [List.drop_zero]; simpa using p3.2) res hr) fun k => ?_
      rw [spec_NodeOk.j3, if_neg (by decide), if_neg (by decide), if_pos (by omega), if_pos (by omega), spec_l01In_eq, Option.bind_some, decide_eq_true p3.1, if_pos rfl]
      rfl
  · intro i hi hp
    unfold specNodeAt at hp
    cases p1 : fitAt 24 keys i with
    | false =>
      refine ev_go (f := fun k => spec_NodeOk.j2 k (keys.length : Int) (i : Int) true leaf keys vals kids) (ev_end fun k => j2no i k) fun k => l0big i hi p1 k
    | true =>
      refine ev_go (f := fun k => spec_NodeOk.j2 k (keys.length : Int) (i : Int) (!(ascAt keys i)) leaf keys vals kids) ?_ fun k => l0fit i hi p1 k
      rw [p1, Bool.true_and] at hp
      cases p2 : ascAt keys i with
      | false => exact ev_end fun k => j2no i k
      | true =>
        rw [p2, Bool.true_and] at hp
        cases leaf with
        | true =>
          rw [if_pos rfl] at hp
          unfold fitAt at hp
          rw [Bool.not_eq_false'] at hp
          refine ev_go (f := fun k => spec_NodeOk.j3 k (keys.length : Int) (i : Int) true true keys vals kids) (ev_end fun k => j3no i k) fun k => by rw [Bool.not_true, spec_NodeOk.j2, if_neg (by decide), if_pos rfl, if_pos (by omega), if_pos (by have := h1 rfl; omega), hp]
        | false =>
          rw [if_neg (by decide)] at hp
          have hkl := h2 rfl
          unfold kidAt at hp
          refine ev_go (f := fun k => spec_NodeOk.j3 k (keys.length : Int) (i : Int) false false keys vals kids) ?_ fun k => by rw [Bool.not_true, spec_NodeOk.j2, if_neg (by decide), if_neg (by decide)]
          by_cases c : 2 ≤ rd kids (i : Int) ∧ rd kids (i : Int) ≤ 39
          · rw [decide_eq_true c, Bool.true_and, Bool.not_eq_false'] at hp
            refine ev_go (spec_NodeOk_found false keys vals kids keys.length hkl hl i hi i 0 (by omega) (by rw [List.drop_zero]; exact hp)) fun k => ?_
            rw [spec_NodeOk.j3, if_neg (by decide), if_neg (by decide), if_pos (by omega), if_pos (by omega), spec_l01In_eq, Option.bind_some, decide_eq_true c, if_pos rfl]
            rfl
          · refine ev_end fun k => ?_
            rw [spec_NodeOk.j3, if_neg (by decide), if_neg (by decide), if_pos (by omega), if_pos (by omega), spec_l01In_eq, Option.bind_some, decide_eq_false c, if_neg (by decide)]
theorem spec_NodeOk_eqR (leaf : Bool) (keys vals : List ByteArray) (kids : List Int) : nodeOkR leaf keys vals kids = (decide (1 ≤ (keys.length : Int) ∧ (keys.length : Int) ≤ 4) && ((if leaf = true then decide (vals.length = keys.length) && decide (kids.length = 0) else decide (kids.length = keys.length) && decide (vals.length = 0)) && (List.range' 0 keys.length).all (specNodeAt leaf keys vals kids))) := by
  unfold nodeOkR
  have e : (List.range' 0 keys.length).all (specNodeAt leaf keys vals kids) = ((List.range' 0 keys.length).all (fitAt 24 keys) && ((List.range' 0 keys.length).all (ascAt keys) && (List.range' 0 keys.length).all (fun i => if leaf = true then fitAt 24 vals i else kidAt kids i))) := by
    unfold specNodeAt
    rw [all_and, all_and]
  rw [e]
  cases leaf with
  | true =>
    simp only [if_true]
    by_cases c : vals.length = keys.length
    · rw [c, decide_eq_true (rfl : keys.length = keys.length)]
      have e2 : (List.range' 0 keys.length).all (fun i => fitAt 24 vals i) = (List.range' 0 keys.length).all (fitAt 24 vals) := rfl
      rw [e2]
      cases decide (1 ≤ (keys.length : Int) ∧ (keys.length : Int) ≤ 4) <;> cases (List.range' 0 keys.length).all (ascAt keys) <;> cases (List.range' 0 keys.length).all (fitAt 24 keys) <;> cases (List.range' 0 keys.length).all (fitAt 24 vals) <;> cases decide (kids.length = 0) <;> rfl
    · rw [decide_eq_false c]
      simp
  | false =>
    simp only [Bool.false_eq_true, if_false]
    by_cases c : kids.length = keys.length
    · rw [c, decide_eq_true (rfl : keys.length = keys.length)]
      have e2 : (List.range' 0 keys.length).all (fun i => kidAt kids i) = (List.range' 0 keys.length).all (kidAt kids) := rfl
      rw [e2]
      cases decide (1 ≤ (keys.length : Int) ∧ (keys.length : Int) ≤ 4) <;> cases (List.range' 0 keys.length).all (ascAt keys) <;> cases (List.range' 0 keys.length).all (fitAt 24 keys) <;> cases (List.range' 0 keys.length).all (kidAt kids) <;> cases decide (vals.length = 0) <;> rfl
    · rw [decide_eq_false c]
      simp
theorem spec_NodeOk_fev (leaf : Bool) (keys vals : List ByteArray) (kids : List Int) (h1 : keys.length ≤ 1048576) (hk : kids.length ≤ 1048576) (hv : vals.length ≤ 1048576) : Ev (fun k => spec_NodeOk.f k leaf keys vals kids) (nodeOkR leaf keys vals kids) := by
  have bad : ∀ k, spec_NodeOk.j0 (k + 1) (keys.length : Int) true leaf keys vals kids = some false := fun k => by rw [spec_NodeOk.j0, if_pos rfl]
  rw [spec_NodeOk_eqR]
  by_cases c1 : 1 ≤ (keys.length : Int) ∧ (keys.length : Int) ≤ 4
  · rw [decide_eq_true c1, Bool.true_and]
    cases leaf with
    | true =>
      simp only [if_true]
      by_cases c2 : vals.length = keys.length
      · by_cases c3 : kids.length = 0
        · rw [decide_eq_true c2, decide_eq_true c3, Bool.true_and, Bool.true_and]
          refine ev_go (spec_NodeOk_loop true keys vals kids h1 (fun _ => c2) (fun h => by cases h)) fun k => ?_
          unfold spec_NodeOk.f
          rw [spec_l01In_eq, Option.bind_some, decide_eq_true c1, if_pos rfl, if_pos rfl, if_pos (by omega), if_pos (by omega), spec_NodeOk.j0, if_neg (by decide)]
        · rw [decide_eq_false c3, Bool.and_false, Bool.false_and]
          refine ev_end fun k => ?_
          unfold spec_NodeOk.f
          rw [spec_l01In_eq, Option.bind_some, decide_eq_true c1, if_pos rfl, if_pos rfl, if_pos (by omega), if_neg (by omega), bad]
      · rw [decide_eq_false c2, Bool.false_and, Bool.false_and]
        refine ev_end fun k => ?_
        unfold spec_NodeOk.f
        rw [spec_l01In_eq, Option.bind_some, decide_eq_true c1, if_pos rfl, if_pos rfl, if_neg (by omega), bad]
    | false =>
      simp only [Bool.false_eq_true, if_false]
      by_cases c2 : kids.length = keys.length
      · by_cases c3 : vals.length = 0
        · rw [decide_eq_true c2, decide_eq_true c3, Bool.true_and, Bool.true_and]
          refine ev_go (spec_NodeOk_loop false keys vals kids h1 (fun h => by cases h) (fun _ => c2)) fun k => ?_
          unfold spec_NodeOk.f
          rw [spec_l01In_eq, Option.bind_some, decide_eq_true c1, if_pos rfl, if_neg (by decide), if_pos (by omega), c3]
          rw [show (((0 : Nat) : Int) != 0) = false from rfl, spec_NodeOk.j0, if_neg (by decide)]
        · rw [decide_eq_false c3, Bool.and_false, Bool.false_and]
          refine ev_end fun k => ?_
          unfold spec_NodeOk.f
          have e : ((vals.length : Int) != 0) = true := by simp only [bne_iff_ne, ne_eq]; omega
          rw [spec_l01In_eq, Option.bind_some, decide_eq_true c1, if_pos rfl, if_neg (by decide), if_pos (by omega), e, bad]
      · rw [decide_eq_false c2, Bool.false_and, Bool.false_and]
        refine ev_end fun k => ?_
        unfold spec_NodeOk.f
        rw [spec_l01In_eq, Option.bind_some, decide_eq_true c1, if_pos rfl, if_neg (by decide), if_neg (by omega), bad]
  · rw [decide_eq_false c1, Bool.false_and]
    refine ev_end fun k => ?_
    unfold spec_NodeOk.f
    rw [spec_l01In_eq, Option.bind_some, decide_eq_false c1, if_neg (by decide), bad]
theorem spec_SumMore_steps (s : ByteArray) (i : Int) (r : Int) : ∀ (d : Nat) (x : Int) (j : Int), j + d = 8 → 0 ≤ j → 0 ≤ x ∧ x < 4294967296 → Ev (fun k => spec_SumMore.l0 k (sumSteps d x) s (wrap64 (i + 1))) r → Ev (fun k => spec_SumMore.l1 k x s i j) r := by
  intro d
  induction d with
  | zero =>
    intro x j hj h0 hx h
    refine ev_go h fun k => ?_
    rw [spec_SumMore.l1, if_neg (by omega)]
    rfl
  | succ d ih =>
    intro x j hj h0 hx h
    refine ev_go (ih (sumStep x) (j + 1) (by omega) (by omega) (sumStep_range x hx) h) fun k => ?_
    rw [spec_SumMore.l1, if_pos (by omega), Int.tmod_eq_emod_of_nonneg hx.1, Int.tdiv_eq_ediv_of_nonneg hx.1, w64 (n := j + 1) (by omega) (by omega), show x / 2 % 4294967296 = x / 2 by omega]
    unfold sumStep
    by_cases c : x % 2 = 1
    · rw [if_pos c, if_pos c]
    · rw [if_neg c, if_neg c]
theorem spec_SumMore_loop (s : ByteArray) (hs : s.size ≤ 140737488351232) : ∀ (d : Nat) (x : Int) (i : Nat), i + d = s.size → 0 ≤ x ∧ x < 4294967296 → Ev (fun k => spec_SumMore.l0 k x s (i : Int)) (sumL x ((bytesOf s).drop i)) := by
  intro d
  induction d with
  | zero =>
    intro x i hi hx
    refine ev_end fun k => ?_
    rw [spec_SumMore.l0, if_neg (by omega), List.drop_eq_nil_of_le (by rw [bytesOf_length]; omega)]
    rfl
  | succ d ih =>
    intro x i hi hx
    have hb := bt_lo s i
    have hb' := bt_hi s i
    rw [bytesOf_drop s i (by omega)]
    have hn := ih (sumByte x (bt s i)) (i + 1) (by omega) (sumByte_range _ _)
    refine ev_go (spec_SumMore_steps s i _ 8 (Go.bits .xor .u32 x (bt s i)) 0 (by omega) (by omega) (bits_u32_range _ _ _ rfl) ?_) fun k => ?_
    · rw [w64 (by omega) (by omega)]
      exact hn
    · rw [spec_SumMore.l0, if_pos (by omega), if_pos (by omega), show bt s i % 4294967296 = bt s i by omega]
theorem spec_SumMore_fev (x : Int) (hx : 0 ≤ x ∧ x < 4294967296) (s : ByteArray) (hs : s.size ≤ 140737488351232) : Ev (fun k => spec_SumMore.f k x s) (sumR x s) :=
  spec_SumMore_loop s hs s.size x 0 (by omega) hx
theorem spec_SumOf_fev (s : ByteArray) (hs : s.size ≤ 140737488351232) : Ev (fun k => spec_SumOf.f k s) (sumR 4294967295 s) :=
  ev_call (spec_SumMore_fev 4294967295 (by omega) s hs) (Ev.now _) fun _ => rfl
theorem spec_Sealed_fev (s : ByteArray) (hs : s.size ≤ 140737488351232) : Ev (fun k => spec_Sealed.f k s) (sealedR s) := by
  unfold sealedR
  by_cases c : (s.size : Int) > 20000
  · rw [if_pos c]
    exact ev_some fun k => by unfold spec_Sealed.f; rw [if_pos c]
  · rw [if_neg c]
    refine ev_call (spec_SumOf_fev s hs) (c := fun k t => (spec_l02Four.f t).bind fun t106 => (if s.size + t106.size ≤ 9223372036854775807 then (some (s ++ t106, true)) else (none))) (ev_some fun k => ?_) fun k => by unfold spec_Sealed.f; rw [if_neg c]
    unfold spec_l02Four.f
    rw [Option.bind_some]
    have h4 : (sealB s).size = 4 := sealB_size s
    unfold sealB fourB at h4
    rw [if_pos (by omega)]
    rfl
theorem spec_l01Var_ev : ∀ (n : Nat) (acc : List Int), n ≤ 9223372036854775807 → acc.length + n ≤ 140737488355327 → Ev (fun k => spec_l01Var.l0 k (n : Int) acc) (strOfNums (acc ++ varL n)) := by
  intro n
  induction n using Nat.strongRecOn with
  | ind n ih =>
    intro acc hn hl
    by_cases h : n > 127
    · refine ev_go (f := fun k => spec_l01Var.l0 k ((n / 128 : Nat) : Int) (acc ++ [(n : Int) % 128 + 128])) ?_ ?_
      · have := ih (n / 128) (by omega) (acc ++ [(n : Int) % 128 + 128]) (by omega) (by rw [List.length_append, List.length_singleton]; omega)
        rw [List.append_assoc, List.singleton_append, ← varL_big h] at this
        exact this
      · intro k
        have e1 : wrap64 (Int.tdiv (n : Int) 128) = ((n / 128 : Nat) : Int) := by rw [Int.tdiv_eq_ediv_of_nonneg (by omega), w64 (by omega) (by omega)]; omega
        have e2 : (wrap64 (Int.tmod (n : Int) 128 + 128)) % 256 = (n : Int) % 128 + 128 := by rw [Int.tmod_eq_emod_of_nonneg (by omega), w64 (by omega) (by omega)]; omega
        rw [spec_l01Var.l0, if_pos (by omega), if_pos (by omega), e1, e2]
    · refine ev_end fun k => ?_
      rw [spec_l01Var.l0, if_neg (by omega), if_pos (by omega), varL_small h]
      rw [show (n : Int) % 256 = (n : Int) by omega]
theorem spec_l01Var_fev (n : Int) (h0 : 0 ≤ n) (h : n ≤ 140737488355327) : Ev (fun k => spec_l01Var.f k n) (varB n.toNat) := by
  have := spec_l01Var_ev n.toNat [] (by omega) (by simp; omega)
  rw [Int.toNat_of_nonneg h0, List.nil_append] at this
  exact this
theorem spec_l04Short_fev (s : ByteArray) (hs : s.size ≤ 140737488351232) : Ev (fun k => spec_l04Short.f k s) (shortB s) := by
  refine ev_call (spec_l01Var_fev (s.size : Int) (by omega) (by omega)) (ev_some fun k => ?_) fun k => rfl
  have h4 := varB_size_le s.size (by omega)
  rw [Int.toNat_natCast, if_pos (by omega)]
  rfl
theorem spec_l05Bytes_loop {leaf : Bool} {keys vals : List ByteArray} {kids : List Int} (h : nodeOkR leaf keys vals kids = true) : ∀ (d i : Nat) (acc : ByteArray), i + d = keys.length → acc.size ≤ 11 + 68 * i → Ev (fun k => spec_l05Bytes.l0 k acc (i : Int) leaf keys vals kids) (acc ++ entsL leaf (keys.drop i) (vals.drop i) (kids.drop i)) := by
  obtain ⟨_, hn, _⟩ := nodeOkR_tells h
  intro d
  induction d with
  | zero =>
    intro i acc hi ha
    refine ev_end fun k => ?_
    rw [spec_l05Bytes.l0, if_neg (by omega), List.drop_eq_nil_of_le (by omega : keys.length ≤ i)]
    unfold entsL
    rw [show acc ++ (⟨#[]⟩ : ByteArray) = acc from ByteArray.append_empty]
  | succ d ih =>
    intro i acc hi ha
    have hz := entAt_size h i (by omega)
    obtain ⟨p1, p2, p3⟩ := entAt_parts h i (by omega)
    rw [entsL_step leaf keys vals kids i (by omega), ← ByteArray.append_assoc]
    obtain ⟨K2, e2⟩ := ih (i + 1) (acc ++ entAt leaf keys vals kids i) (by omega) (by rw [ByteArray.size_append]; omega)
    unfold entAt at e2 hz ⊢
    rw [ByteArray.size_append] at hz
    obtain ⟨K1, e1⟩ := spec_l04Short_fev (rdOf ByteArray.empty keys (i : Int)) (by omega)
    cases leaf with
    | true =>
      rw [if_pos rfl] at e2 hz ⊢
      obtain ⟨q1, q2⟩ := p2 rfl
      obtain ⟨K3, e3⟩ := spec_l04Short_fev (rdOf ByteArray.empty vals (i : Int)) (by omega)
      refine ev_succ ⟨K1 + K2 + K3, fun k hk => ?_⟩
      dsimp only at e1 e2 e3
      rw [spec_l05Bytes.l0, if_pos (by omega), if_pos (by omega), e1 k (by omega), Option.bind_some, if_pos (by omega), if_pos rfl, if_pos (by omega), e3 k (by omega), Option.bind_some, if_pos (by rw [ByteArray.size_append]; omega), w64 (by omega) (by omega), ByteArray.append_assoc]
      exact e2 k (by omega)
    | false =>
      rw [if_neg (by decide)] at e2 hz ⊢
      obtain ⟨q1, q2, q3⟩ := p3 rfl
      obtain ⟨K3, e3⟩ := spec_l01Var_fev (rd kids (i : Int)) (by omega) (by omega)
      refine ev_succ ⟨K1 + K2 + K3, fun k hk => ?_⟩
      dsimp only at e1 e2 e3
      rw [spec_l05Bytes.l0, if_pos (by omega), if_pos (by omega), e1 k (by omega), Option.bind_some, if_pos (by omega), if_neg (by decide), if_pos (by omega), e3 k (by omega), Option.bind_some, if_pos (by rw [ByteArray.size_append]; omega), w64 (by omega) (by omega), ByteArray.append_assoc]
      exact e2 k (by omega)
theorem spec_l05Bytes_fev {leaf : Bool} {keys vals : List ByteArray} {kids : List Int} (h : nodeOkR leaf keys vals kids = true) : Ev (fun k => spec_l05Bytes.f k leaf keys vals kids) (nodeB leaf keys vals kids) := by
  obtain ⟨_, hn, _⟩ := nodeOkR_tells h
  obtain ⟨K1, e1⟩ := spec_l01Var_fev (keys.length : Int) (by omega) (by omega)
  rw [Int.toNat_natCast] at e1
  have hv := varB_size_le keys.length (by omega)
  have go : ∀ (b : ByteArray), b.size = 1 → Ev (fun k => spec_l05Bytes.j0 k b leaf keys vals kids) ((b ++ varB keys.length) ++ entsL leaf keys vals kids) := by
    intro b hb
    obtain ⟨K2, e2⟩ := spec_l05Bytes_loop h keys.length 0 (b ++ varB keys.length) (by omega) (by rw [ByteArray.size_append]; omega)
    rw [List.drop_zero, List.drop_zero, List.drop_zero] at e2
    refine ev_succ ⟨K1 + K2, fun k hk => ?_⟩
    dsimp only at e1 e2
    rw [spec_l05Bytes.j0, e1 k (by omega), Option.bind_some, if_pos (by omega)]
    exact e2 k (by omega)
  cases leaf with
  | true => exact go _ rfl
  | false => exact go _ rfl
theorem spec_NodeText_fev (leaf : Bool) (keys vals : List ByteArray) (kids : List Int) (h1 : keys.length ≤ 1048576) (hk : kids.length ≤ 1048576) (hv : vals.length ≤ 1048576) : Ev (fun k => spec_NodeText.f k leaf keys vals kids) (nodeTextR leaf keys vals kids) := by
  unfold nodeTextR
  refine ev_call (spec_NodeOk_fev leaf keys vals kids h1 hk hv) ?_ (fun k => rfl)
  cases h : nodeOkR leaf keys vals kids with
  | false => exact ev_some fun k => rfl
  | true =>
    have hz := nodeB_size h
    rw [if_pos rfl]
    have hs : sealedR (nodeB leaf keys vals kids) = (nodeB leaf keys vals kids ++ sealB (nodeB leaf keys vals kids), true) := by unfold sealedR; rw [if_neg (by omega)]
    rw [← hs]
    exact ev_call (spec_l05Bytes_fev h) (ev_call (spec_Sealed_fev _ (by omega)) (c := fun _ t => some (t.1, t.2)) (Ev.now _) fun k => rfl) fun k => rfl
theorem spec_ReadVar_ev (s : ByteArray) (hs : s.size ≤ 140737488351232) (a : Nat) (ha : a ≤ s.size) : ∀ (d j : Nat) (n : Int), 5 - j = d → j ≤ 5 → a + j ≤ s.size → 0 ≤ n → n < 128 ^ j → decAt ((bytesOf s).drop a) j n →
    Ev (fun k => spec_ReadVar.l0 k s (a : Int) n (128 ^ j) ((a : Int) + j)) (rvL a ((bytesOf s).drop a)) := by
  intro d
  induction d with
  | zero =>
    intro j n hd hj hl h0 h1 hD
    obtain rfl : j = 5 := by omega
    rw [rvL_none (decAt_over hD)]
    refine ev_succ ⟨1, fun k hk => ?_⟩
    obtain ⟨k, rfl⟩ : ∃ m, k = m + 1 := ⟨k - 1, by omega⟩
    rw [spec_ReadVar.l0]
    by_cases c : (a : Int) + (5 : Nat) < (s.size : Int)
    · rw [if_pos c, w64 (by omega) (by omega), decide_eq_false (by omega), spec_ReadVar.j1, if_neg (by decide)]
    · rw [if_neg c, spec_ReadVar.j1, if_neg (by decide)]
  | succ d ih =>
    intro j n hd hj hl h0 h1 hD
    by_cases c : a + j < s.size
    · have hdrop : ((bytesOf s).drop a).drop j = bt s ((a : Int) + j) :: ((bytesOf s).drop (a + j + 1)) := by
        rw [List.drop_drop, bytesOf_drop s (a + j) c]
        rw [show ((a + j : Nat) : Int) = (a : Int) + j by omega]
      have hb0 := bt_lo s ((a : Int) + j)
      have hb1 := bt_hi s ((a : Int) + j)
      obtain ⟨m1, m2, m3, m4⟩ := rv_mul j (by omega) n (bt s ((a : Int) + j)) h0 h1 hb0 hb1
      by_cases cb : bt s ((a : Int) + j) < 128
      · have hE := decAt_end hD (by omega) hdrop cb
        rw [show bt s ((a : Int) + j) % 128 = bt s ((a : Int) + j) by omega] at m1 m2 m3 m4
        by_cases cm : n + 128 ^ j * bt s ((a : Int) + j) > 1000000000
        · rw [rvL_bad hE (by omega)]
          refine ev_succ ⟨1, fun k hk => ?_⟩
          obtain ⟨k, rfl⟩ : ∃ m, k = m + 1 := ⟨k - 1, by omega⟩
          rw [spec_ReadVar.l0, if_pos (by omega), w64 (n := (a : Int) + 5) (by omega) (by omega), decide_eq_true (by omega), spec_ReadVar.j1, if_pos rfl, if_pos (by omega), if_pos (by omega), if_pos cb, m1, if_pos cm]
        · obtain ⟨K, hK⟩ := spec_l01Var_fev (n + 128 ^ j * bt s ((a : Int) + j)) m2 (by omega)
          dsimp only at hK
          refine ev_succ ⟨K + 1, fun k hk => ?_⟩
          obtain ⟨k, rfl⟩ : ∃ m, k = m + 1 := ⟨k - 1, by omega⟩
          rw [spec_ReadVar.l0, if_pos (by omega), w64 (n := (a : Int) + 5) (by omega) (by omega), decide_eq_true (by omega), spec_ReadVar.j1, if_pos rfl, if_pos (by omega), if_pos (by omega), if_pos cb, m1, if_neg cm]
          rw [hK k (by omega), Option.bind_some, w64 (n := (a : Int) + j + 1) (by omega) (by omega), if_pos (by omega), if_pos (by omega), if_pos (by omega)]
          have he : ((varB (n + 128 ^ j * bt s ((a : Int) + j)).toNat).toList = (s.extract (a : Int).toNat ((a : Int) + j + 1).toNat).toList) ↔ varL (n + 128 ^ j * bt s ((a : Int) + j)).toNat = ((bytesOf s).drop a).take (1 + j) := by
            rw [toList_eq_iff, varB, strOfNums_eq_iff _ _ (varL_range _), bytesOf_extract]
            rw [show (a : Int).toNat = a by omega, show ((a : Int) + j + 1).toNat - a = 1 + j by omega]
          by_cases ce : varL (n + 128 ^ j * bt s ((a : Int) + j)).toNat = ((bytesOf s).drop a).take (1 + j)
          · rw [if_pos (he.2 ce), rvL_good hE (by omega) ce]
            simp only [Option.some.injEq, Prod.mk.injEq, and_true, true_and]
            omega
          · rw [if_neg (fun h => ce (he.1 h)), rvL_bad hE (fun h => ce h.2)]
      · have hN := decAt_next hD (by omega) hdrop cb
        rw [show bt s ((a : Int) + j) % 128 = bt s ((a : Int) + j) - 128 by omega] at m1 m2 m3 m4
        have hsc : wrap64 (128 ^ j * 128) = 128 ^ (j + 1) := by
          rw [Int.pow_succ]
          rcases pow128 j (by omega) with ⟨h, _⟩ | ⟨h, _⟩ | ⟨h, _⟩ | ⟨h, _⟩ | ⟨h, _⟩ <;> (rw [h]; exact w64 (by omega) (by omega))
        have hi := ih (j + 1) _ (by omega) (by omega) (by omega) m2 m3 hN
        obtain ⟨K, hK⟩ := hi
        refine ev_succ ⟨K + 1, fun k hk => ?_⟩
        obtain ⟨k, rfl⟩ : ∃ m, k = m + 1 := ⟨k - 1, by omega⟩
        rw [spec_ReadVar.l0, if_pos (by omega), w64 (n := (a : Int) + 5) (by omega) (by omega), decide_eq_true (by omega), spec_ReadVar.j1, if_pos rfl, if_pos (by omega), if_pos (by omega), if_neg cb, m1, hsc, w64 (n := (a : Int) + j + 1) (by omega) (by omega)]
        have := hK k (by omega)
        simp only [Int.natCast_add, Int.natCast_one] at this
        rw [Int.add_assoc]
        exact this
    · have hdrop : ((bytesOf s).drop a).drop j = [] := by
        rw [List.drop_drop, List.drop_eq_nil_iff, bytesOf_length]; omega
      rw [rvL_none (decAt_short hD hdrop)]
      refine ev_succ ⟨1, fun k hk => ?_⟩
      obtain ⟨k, rfl⟩ : ∃ m, k = m + 1 := ⟨k - 1, by omega⟩
      rw [spec_ReadVar.l0, if_neg (by omega), spec_ReadVar.j1, if_neg (by decide)]
theorem spec_ReadVar_fev (s : ByteArray) (hs : s.size ≤ 140737488351232) (a : Int) : Ev (fun k => spec_ReadVar.f k s a) (rvR s a) := by
  unfold rvR
  by_cases c : 0 ≤ a ∧ a ≤ (s.size : Int)
  · rw [if_pos c]
    have := spec_ReadVar_ev s hs a.toNat (by omega) 5 0 0 (by omega) (by omega) (by omega) (by omega) (by simp) (decAt_zero _)
    rw [show ((a.toNat : Nat) : Int) = a by omega] at this
    simp only [Int.pow_zero, Int.natCast_zero, Int.add_zero] at this
    refine Ev.congr (fun k => ?_) this
    unfold spec_ReadVar.f spec_l01In.f
    rw [if_pos (by omega), Option.bind_some, decide_eq_true (by omega), if_pos rfl]
  · rw [if_neg c]
    refine ev_some fun k => ?_
    unfold spec_ReadVar.f spec_l01In.f
    by_cases c1 : a ≥ 0
    · rw [if_pos c1, Option.bind_some, decide_eq_false (by omega), if_neg (by decide)]
    · rw [if_neg c1, Option.bind_some, if_neg (by decide)]
theorem spec_ReadShort_fev (s : ByteArray) (hs : s.size ≤ 140737488351232) (a : Int) : Ev (fun k => spec_ReadShort.f k s a) (rsR s a) := by
  refine ev_call (spec_ReadVar_fev s hs a) (ev_some fun k => ?_) (fun k => rfl)
  unfold rsR
  rcases hr : rvR s a with ⟨n, nx, ok⟩
  cases ok with
  | false => simp
  | true =>
    obtain ⟨u, h1, h2, h3, h4, h5, h6, h7, h8⟩ := rvR_tells s a n nx hr
    simp only [if_true, true_and]
    rw [w64 (n := (s.size : Int) - nx) (by omega) (by omega)]
    by_cases c : n ≤ 20000
    · rw [if_neg (by omega)]
      by_cases c2 : n ≤ (s.size : Int) - nx
      · rw [if_neg (by omega), if_pos (by omega), w64 (n := nx + n) (by omega) (by omega), if_pos (by omega), if_pos (by omega), if_pos ⟨c, c2⟩]
      · rw [if_pos (by omega), if_neg (by omega)]
    · rw [if_pos (by omega), if_neg (by omega)]
theorem spec_l04ReadShort_fev (s : ByteArray) (hs : s.size ≤ 140737488351232) (a : Int) (bad : Bool) : Ev (fun k => spec_l04ReadShort.f k s a bad) ((txtR s a bad).1, s, (txtR s a bad).2.1, (txtR s a bad).2.2) := by
  refine ev_call (spec_ReadShort_fev s hs a) (ev_some fun k => ?_) fun k => rfl
  unfold txtR
  cases bad with
  | true => rw [if_pos rfl, if_neg (by simp)]
  | false =>
    rw [if_neg (by decide)]
    by_cases c : (rsR s a).2.2 = true
    · rw [if_pos c, if_pos ⟨rfl, c⟩]
    · rw [if_neg c, if_neg (fun h => c h.2)]
theorem spec_Unsealed_fev (s : ByteArray) (hs : s.size ≤ 140737488351232) : Ev (fun k => spec_Unsealed.f k s) (unsealedR s) := by
  unfold unsealedR
  by_cases c : 4 ≤ s.size ∧ s.size ≤ 20004
  · have hw : wrap64 ((s.size : Int) - 4) = (s.size : Int) - 4 := w64 (by omega) (by omega)
    have hx := extract_size_le s 0 (s.size - 4)
    have hn : ((s.size : Int) - 4).toNat = s.size - 4 := by omega
    refine ev_call (spec_SumOf_fev (s.extract 0 (s.size - 4)) (by omega)) (c := fun _ t105 => ((spec_l02Four.f t105).bind fun t106 => (if (s.extract (s.size - 4) s.size).toList = t106.toList then (some (s.extract 0 (s.size - 4), true)) else (some ((⟨#[]⟩ : ByteArray), false))))) (ev_some fun k => ?_) (fun k => ?_)
    · unfold spec_l02Four.f
      rw [Option.bind_some]
      change (if (s.extract (s.size - 4) s.size).toList = (sealB (s.extract 0 (s.size - 4))).toList then _ else _) = _
      by_cases c2 : s.extract (s.size - 4) s.size = sealB (s.extract 0 (s.size - 4))
      · rw [if_pos ((toList_eq_iff _ _).2 c2), if_pos ⟨c.1, c.2, c2⟩]
      · rw [if_neg (fun h => c2 ((toList_eq_iff _ _).1 h)), if_neg (fun h => c2 h.2.2)]
    · unfold spec_Unsealed.f
      rw [hw, if_neg (by omega), if_neg (by omega), if_pos (by omega), if_pos (by omega), hn]
  · rw [if_neg (fun h => c ⟨h.1, h.2.1⟩)]
    refine ev_some fun k => ?_
    unfold spec_Unsealed.f
    rw [w64 (by omega) (by omega)]
    by_cases c1 : (s.size : Int) - 4 < 0
    · rw [if_pos c1]
    · rw [if_neg c1, if_pos (by omega)]
theorem spec_l04Var_fev (s : ByteArray) (hs : s.size ≤ 140737488351232) (a : Int) (bad : Bool) : Ev (fun k => spec_l04Var.f k s a bad) ((numR s 1000000000 a bad).1, s, (numR s 1000000000 a bad).2.1, (numR s 1000000000 a bad).2.2) := by
  refine ev_call (spec_ReadVar_fev s hs a) (ev_some fun k => ?_) fun k => rfl
  unfold numR
  cases bad with
  | true => rw [if_pos rfl, if_neg (by simp)]
  | false =>
    rw [if_neg (by decide)]
    rcases hr : rvR s a with ⟨n, nx, ok⟩
    cases ok with
    | false => rw [if_neg (by simp), if_neg (by simp)]
    | true =>
      obtain ⟨_, _, h3⟩ := rvR_took hr
      rw [if_pos rfl, if_pos ⟨rfl, rfl, h3⟩]
def rnEnd (leaf : Bool) (t : ByteArray) (r : Int × Bool × List ByteArray × List ByteArray × List Int) : Bool × List ByteArray × List ByteArray × List Int × Bool :=
  if r.2.1 = false ∧ nodeTextR leaf r.2.2.1 r.2.2.2.1 r.2.2.2.2 = (t, true) then (leaf, r.2.2.1, r.2.2.2.1, r.2.2.2.2, true) else nodeZero
theorem spec_ReadNode_end (t s : ByteArray) (leaf : Bool) (n j a : Int) (bad : Bool) (K V : List ByteArray) (C : List Int) (hK : K.length ≤ 1048576) (hV : V.length ≤ 1048576) (hC : C.length ≤ 1048576) : Ev (fun k => spec_ReadNode.j2 k t n j false s a bad leaf K V C) (rnEnd leaf t (a, bad, K, V, C)) := by
  obtain ⟨K1, e1⟩ := spec_NodeText_fev leaf K V C hK hC hV
  dsimp only at e1
  unfold rnEnd
  dsimp only
  refine ev_succ ⟨K1, fun k hk => ?_⟩
  rw [spec_ReadNode.j2, if_neg (by decide), e1 k hk, Option.bind_some]
  cases bad with
  | true => rw [if_pos rfl, if_neg (by simp)]; rfl
  | false =>
    rw [if_neg (by decide)]
    rcases hn : nodeTextR leaf K V C with ⟨x, o⟩
    dsimp only
    cases o with
    | false => rw [if_neg (by decide), if_neg (by simp)]; rfl
    | true =>
      rw [if_pos rfl]
      by_cases c : x = t
      · rw [if_pos (by rw [c]), if_pos ⟨rfl, by rw [c]⟩]
      · rw [if_neg (fun h => c (toList_inj h)), if_neg (fun h => c (by simpa using h.2))]; rfl
theorem spec_ReadNode_loop (t s : ByteArray) (hs : s.size ≤ 140737488351232) (leaf : Bool) (n : Int) : ∀ (d j : Nat) (K V : List ByteArray) (C : List Int) (a : Int) (bad : Bool), j + d = min n.toNat 10 → K.length ≤ j → V.length ≤ j → C.length ≤ j →
    Ev (fun k => spec_ReadNode.l0 k t n (j : Int) s a bad leaf K V C) (rnEnd leaf t (ndP s leaf true 1000000000 d a bad K V C)) := by
  intro d
  induction d with
  | zero =>
    intro j K V C a bad hn hK hV hC
    rw [ndP]
    refine ev_go (spec_ReadNode_end t s leaf n (j : Int) a bad K V C (by omega) (by omega) (by omega)) fun k => ?_
    rw [spec_ReadNode.l0]
    by_cases c : (j : Int) < n
    · rw [if_pos c, if_neg (by omega)]
    · rw [if_neg c]
  | succ d ih =>
    intro j K V C a bad hn hK hV hC
    cases bad with
    | true =>
      rw [ndP, if_pos (by simp)]
      refine ev_go (spec_ReadNode_end t s leaf n (j : Int) a true K V C (by omega) (by omega) (by omega)) fun k => ?_
      rw [spec_ReadNode.l0, if_pos (by omega), if_pos (by omega)]
      rfl
    | false =>
      have top : ∀ {r}, Ev (fun k => spec_ReadNode.j2 k t n (j : Int) true s a false leaf K V C) r → Ev (fun k => spec_ReadNode.l0 k t n (j : Int) s a false leaf K V C) r := fun h => ev_go h fun k => by
        rw [spec_ReadNode.l0, if_pos (by omega), if_pos (by omega)]
        rfl
      refine top ?_
      obtain ⟨K1, e1⟩ := spec_l04ReadShort_fev s hs a false
      dsimp only at e1
      cases leaf with
      | true =>
        obtain ⟨K2, e2⟩ := spec_l04ReadShort_fev s hs (txtR s a false).2.1 (txtR s a false).2.2
        obtain ⟨K3, e3⟩ := ih (j + 1) (K ++ [(txtR s a false).1]) (V ++ [(txtR s (txtR s a false).2.1 (txtR s a false).2.2).1]) C (txtR s (txtR s a false).2.1 (txtR s a false).2.2).2.1 (txtR s (txtR s a false).2.1 (txtR s a false).2.2).2.2 (by omega) (by simp; omega) (by simp; omega) (by omega)
        dsimp only at e2 e3
        rw [ndP, if_neg (by simp), if_pos rfl]
        refine ev_succ ⟨K1 + K2 + K3, fun k hk => ?_⟩
        rw [spec_ReadNode.j2, if_pos rfl, e1 k (by omega), Option.bind_some, if_pos (by omega), Option.bind_some, if_pos rfl]
        dsimp only
        rw [e2 k (by omega), Option.bind_some, if_pos (by omega), w64 (by omega) (by omega)]
        exact e3 k (by omega)
      | false =>
        obtain ⟨K2, e2⟩ := spec_l04Var_fev s hs (txtR s a false).2.1 (txtR s a false).2.2
        obtain ⟨K3, e3⟩ := ih (j + 1) (K ++ [(txtR s a false).1]) V (C ++ [(numR s 1000000000 (txtR s a false).2.1 (txtR s a false).2.2).1]) (numR s 1000000000 (txtR s a false).2.1 (txtR s a false).2.2).2.1 (numR s 1000000000 (txtR s a false).2.1 (txtR s a false).2.2).2.2 (by omega) (by simp; omega) (by omega) (by simp; omega)
        dsimp only at e2 e3
        rw [ndP, if_neg (by simp), if_neg (by decide)]
        refine ev_succ ⟨K1 + K2 + K3, fun k hk => ?_⟩
        rw [spec_ReadNode.j2, if_pos rfl, e1 k (by omega), Option.bind_some, if_pos (by omega), Option.bind_some, if_neg (by decide)]
        dsimp only
        rw [e2 k (by omega), Option.bind_some, if_pos (by omega), w64 (by omega) (by omega)]
        exact e3 k (by omega)
theorem spec_ReadNode_fev (t : ByteArray) (ht : t.size ≤ 140737488351232) : Ev (fun k => spec_ReadNode.f k t) (readNodeR t) := by
  unfold readNodeR
  obtain ⟨K1, e1⟩ := spec_Unsealed_fev t ht
  rcases hu : unsealedR t with ⟨s, ok⟩
  rw [hu] at e1
  dsimp only at e1 ⊢
  cases ok with
  | false =>
    refine ev_succ ⟨K1, fun k hk => ?_⟩
    unfold spec_ReadNode.f
    rw [e1 (k + 1) (by omega), Option.bind_some, if_neg (by simp), spec_ReadNode.j0, if_pos rfl, if_neg (by simp)]
    rfl
  | true =>
    have hz : s.size ≤ 20000 := (unsealedR_tells hu).2.1
    by_cases c : 2 ≤ s.size
    · rw [if_pos ⟨rfl, c⟩]
      obtain ⟨K2, e2⟩ := spec_l04Var_fev s (by omega) 1 false
      obtain ⟨K3, e3⟩ := spec_ReadNode_loop t s (by omega) (decide (bt s 0 = 108)) (numR s 1000000000 1 false).1 (min (numR s 1000000000 1 false).1.toNat 10) 0 [] [] [] (numR s 1000000000 1 false).2.1 (numR s 1000000000 1 false).2.2 (by omega) (by simp) (by simp) (by simp)
      dsimp only at e2 e3
      refine ev_succ ⟨K1 + K2 + K3, fun k hk => ?_⟩
      unfold spec_ReadNode.f
      rw [e1 (k + 1) (by omega), Option.bind_some, if_pos rfl]
      dsimp only
      rw [decide_eq_false (show ¬ (s.size : Int) < 2 by omega), spec_ReadNode.j0, if_neg (by decide), if_pos (by omega), e2 k (by omega), Option.bind_some]
      exact e3 k (by omega)
    · rw [if_neg (fun h => c h.2)]
      refine ev_succ ⟨K1, fun k hk => ?_⟩
      unfold spec_ReadNode.f
      rw [e1 (k + 1) (by omega), Option.bind_some, if_pos rfl]
      dsimp only
      rw [decide_eq_true (show (s.size : Int) < 2 by omega), spec_ReadNode.j0, if_pos rfl]
      rfl
theorem impl_in_eq (x a b : Int) : impl_in.f x a b = some (decide (a ≤ x ∧ x ≤ b)) := in_dec x a b
theorem impl_ascending_fev (l : List ByteArray) (hl : l.length ≤ 9223372036854775806) : Ev (fun k => impl_ascending.f k l) ((List.range' 0 l.length).all (ascAt l)) := by
  rw [← ite_tf ((List.range' 0 l.length).all (ascAt l))]
  refine ev_every (fun k i => impl_ascending.l0 k l (l.length : Int) (i : Int)) (ascAt l) l.length ?_ ?_ ?_ l.length 0 (by omega)
  · refine ev_end fun k => ?_
    rw [impl_ascending.l0, if_neg (by omega)]
  · intro i hi hp res hr
    refine ev_go hr fun k => ?_
    try dsimp only
    unfold ascAt at hp
    rw [impl_ascending.l0, if_pos (by omega), w64 (n := (i : Int) + 1) (by omega) (by omega)]
    by_cases c : i = 0
    · rw [if_neg (by omega)]; rfl
    · rw [decide_eq_false c, Bool.false_or] at hp
      rw [if_pos (by omega), w64 (by omega) (by omega), if_pos (by omega), if_pos (by omega), if_pos (by omega), if_pos (by omega), if_pos hp]
      rfl
  · intro i hi hp
    refine ev_end fun k => ?_
    try dsimp only
    unfold ascAt at hp
    rw [Bool.or_eq_false_iff] at hp
    have c : i ≠ 0 := of_decide_eq_false hp.1
    rw [impl_ascending.l0, if_pos (by omega), if_pos (by omega), w64 (n := (i : Int) - 1) (by omega) (by omega), if_pos (by omega), if_pos (by omega), if_pos (by omega), if_pos (by omega), hp.2, if_neg (by decide)]
theorem impl_longer_eq (l : List ByteArray) (m : Int) : impl_longer.f l m = some (l.any fun s => decide ((s.size : Int) > m)) := rfl
theorem longer_fits (l : List ByteArray) (m : Int) : (List.range' 0 l.length).all (fitAt m l) = !(l.any fun s => decide ((s.size : Int) > m)) := any_places ByteArray.empty (fun s => decide ((s.size : Int) > m)) l
theorem slices_Index_int_int_loop (l : List Int) (v : Int) (hl : l.length ≤ 9223372036854775806) : ∀ d i : Nat, i + d = l.length → Ev (fun k => slices_Index_int_int.l0 k l v (l.length : Int) (i : Int)) (idxP (fun x => decide (x = v)) (l.drop i) (i : Int)) := by
  intro d
  induction d with
  | zero =>
    intro i hi
    refine ev_end fun k => ?_
    rw [slices_Index_int_int.l0, if_neg (by omega), List.drop_eq_nil_of_le (by omega)]
    rfl
  | succ d ih =>
    intro i hi
    rw [drop_rd l i (by omega), idxP_step]
    by_cases c : rd l (i : Int) = v
    · rw [if_pos (decide_eq_true c)]
      refine ev_end fun k => ?_
      rw [slices_Index_int_int.l0, if_pos (by omega), if_pos (by omega), if_pos (by omega), if_pos c.symm]
    · rw [decide_eq_false c, if_neg (by decide)]
      refine ev_go (ih (i + 1) (by omega)) fun k => ?_
      rw [slices_Index_int_int.l0, if_pos (by omega), if_pos (by omega), if_pos (by omega), if_neg (fun h => c h.symm), w64 (by omega) (by omega)]
      rfl
theorem slices_Contains_int_int_fev (l : List Int) (v : Int) (hl : l.length ≤ 9223372036854775806) : Ev (fun k => slices_Contains_int_int.f k l v) (l.any fun x => decide (x = v)) := by
  rw [← idxP_any]
  have h := slices_Index_int_int_loop l v hl l.length 0 (by omega)
  rw [List.drop_zero] at h
  exact ev_call h (c := fun _ t => some (decide (t ≥ 0))) (Ev.now _) fun k => rfl
theorem impl_NodeOk_kids (leaf : Bool) (keys vals : List ByteArray) (kids : List Int) (hl : kids.length ≤ 1048576) : Ev (fun k => impl_NodeOk.l0 k kids (kids.length : Int) 0 leaf keys vals kids) ((List.range' 0 kids.length).all (kidAt kids) && (decide (kids.length = keys.length) && decide (vals.length = 0))) := by
  rw [← ite_ff]
  refine ev_every (fun k i => impl_NodeOk.l0 k kids (kids.length : Int) (i : Int) leaf keys vals kids) (kidAt kids) kids.length ?_ ?_ ?_ kids.length 0 (by omega)
  · refine ev_end fun k => ?_
    rw [impl_NodeOk.l0, if_neg (by omega)]
    by_cases c : kids.length = keys.length
    · rw [if_pos (by omega), decide_eq_true c, Bool.true_and]
      by_cases d : vals.length = 0
      · rw [d]; rfl
      · rw [decide_eq_false d]
        congr 1
        simp only [beq_eq_false_iff_ne]
        omega
    · rw [if_neg (by omega), decide_eq_false c, Bool.false_and]
  · intro i hi hp res hr
    unfold kidAt at hp
    rw [Bool.and_eq_true, decide_eq_true_eq] at hp
    obtain ⟨K1, e1⟩ := slices_Contains_int_int_fev (kids.take i) (rd kids (i : Int)) (by rw [List.length_take]; omega)
    obtain ⟨K2, e2⟩ := hr
    refine ev_succ ⟨K1 + K2, fun k hk => ?_⟩
    have h3 : (kids.take i).any (fun x => decide (x = rd kids (i : Int))) = false := by simpa using hp.2
    have e1' := e1 k (by omega)
    dsimp only at e1'
    rw [h3] at e1'
    try dsimp only
    rw [impl_NodeOk.l0, if_pos (by omega), if_pos (by omega), if_pos (by omega), impl_in_eq, Option.bind_some, decide_eq_true hp.1, if_pos rfl, if_pos (by omega), Int.toNat_natCast, e1', Option.bind_some, if_neg (by decide), w64 (by omega) (by omega)]
    exact e2 k (by omega)
  · intro i hi hp
    unfold kidAt at hp
    by_cases c : 2 ≤ rd kids (i : Int) ∧ rd kids (i : Int) ≤ 39
    · rw [decide_eq_true c, Bool.true_and] at hp
      obtain ⟨K1, e1⟩ := slices_Contains_int_int_fev (kids.take i) (rd kids (i : Int)) (by rw [List.length_take]; omega)
      refine ev_succ ⟨K1, fun k hk => ?_⟩
      have h3 : (kids.take i).any (fun x => decide (x = rd kids (i : Int))) = true := by simpa using hp
      have e1' := e1 k (by omega)
      dsimp only at e1'
      rw [h3] at e1'
      try dsimp only
      rw [impl_NodeOk.l0, if_pos (by omega), if_pos (by omega), if_pos (by omega), impl_in_eq, Option.bind_some, decide_eq_true c, if_pos rfl, if_pos (by omega), Int.toNat_natCast, e1', Option.bind_some, if_pos rfl]
    · refine ev_end fun k => ?_
      try dsimp only
      rw [impl_NodeOk.l0, if_pos (by omega), if_pos (by omega), if_pos (by omega), impl_in_eq, Option.bind_some, decide_eq_false c, if_neg (by decide)]
theorem impl_NodeOk_tail (leaf : Bool) (keys vals : List ByteArray) (kids : List Int) (hk : kids.length ≤ 1048576) : Ev (fun k => impl_NodeOk.j0 k false leaf keys vals kids) (if leaf = true then decide (vals.length = keys.length) && (List.range' 0 vals.length).all (fitAt 24 vals) && decide (kids.length = 0)
  else (List.range' 0 kids.length).all (kidAt kids) && decide (kids.length = keys.length) && decide (vals.length = 0)) := by
  cases leaf with
  | true =>
    rw [if_pos rfl, longer_fits]
    refine ev_end fun k => ?_
    rw [impl_NodeOk.j0, if_neg (by decide), if_pos rfl]
    by_cases c : vals.length = keys.length
    · rw [if_pos (by omega), impl_longer_eq, Option.bind_some, decide_eq_true c, Bool.true_and]
      cases vals.any fun s => decide ((s.size : Int) > 24) with
      | true => rfl
      | false =>
        rw [if_neg (by decide)]
        by_cases d : kids.length = 0
        · rw [d]; rfl
        · rw [decide_eq_false d]
          congr 1
          simp only [Bool.not_false, Bool.true_and, beq_eq_false_iff_ne]
          omega
    · rw [if_neg (by omega), decide_eq_false c, Bool.false_and, Bool.false_and]
  | false =>
    rw [if_neg (by decide), Bool.and_assoc]
    refine ev_go (impl_NodeOk_kids false keys vals kids hk) fun k => ?_
    rw [impl_NodeOk.j0, if_neg (by decide), if_neg (by decide)]
theorem impl_NodeOk_fev (leaf : Bool) (keys vals : List ByteArray) (kids : List Int) (h1 : keys.length ≤ 1048576) (hk : kids.length ≤ 1048576) : Ev (fun k => impl_NodeOk.f k leaf keys vals kids) (nodeOkR leaf keys vals kids) := by
  have bad : ∀ k, impl_NodeOk.j0 (k + 1) true leaf keys vals kids = some false := fun k => by rw [impl_NodeOk.j0, if_pos rfl]
  unfold nodeOkR
  by_cases c1 : 1 ≤ (keys.length : Int) ∧ (keys.length : Int) ≤ 4
  · rw [decide_eq_true c1, Bool.true_and]
    obtain ⟨K1, e1⟩ := impl_ascending_fev keys (by omega)
    cases hA : (List.range' 0 keys.length).all (ascAt keys) with
    | false =>
      rw [hA] at e1
      refine ev_succ ⟨K1, fun k hk => ?_⟩
      dsimp only at e1 ⊢
      rw [impl_NodeOk.f, impl_in_eq, Option.bind_some, decide_eq_true c1, if_pos rfl, e1 (k + 1) (by omega), Option.bind_some, if_neg (by decide), bad]
      rfl
    | true =>
      rw [hA] at e1
      rw [Bool.true_and, longer_fits]
      cases hL : keys.any fun s => decide ((s.size : Int) > 24) with
      | true =>
        refine ev_succ ⟨K1, fun k hk => ?_⟩
        dsimp only at e1 ⊢
        rw [impl_NodeOk.f, impl_in_eq, Option.bind_some, decide_eq_true c1, if_pos rfl, e1 (k + 1) (by omega), Option.bind_some, if_pos rfl, impl_longer_eq, Option.bind_some, hL, bad]
        rfl
      | false =>
        obtain ⟨K2, e2⟩ := impl_NodeOk_tail leaf keys vals kids hk
        refine ⟨K1 + K2, fun k hk => ?_⟩
        dsimp only at e1 e2 ⊢
        rw [impl_NodeOk.f, impl_in_eq, Option.bind_some, decide_eq_true c1, if_pos rfl, e1 k (by omega), Option.bind_some, if_pos rfl, impl_longer_eq, Option.bind_some, hL, e2 k (by omega)]
        rfl
  · refine ev_end fun k => ?_
    try dsimp only
    rw [impl_NodeOk.f, impl_in_eq, Option.bind_some, decide_eq_false c1, if_neg (by decide), bad]
    rfl
theorem impl_SumMore_steps (s : ByteArray) (i : Int) (r : Int) : ∀ (d : Nat) (x : Int) (j : Int), j + d = 8 → 0 ≤ j → 0 ≤ x ∧ x < 4294967296 → Ev (fun k => impl_SumMore.l0 k (sumSteps d x) s (s.size : Int) (wrap64 (i + 1))) r → Ev (fun k => impl_SumMore.l1 k x s (s.size : Int) i j) r := by
  intro d
  induction d with
  | zero =>
    intro x j hj h0 hx h
    refine ev_go h fun k => ?_
    rw [impl_SumMore.l1, if_neg (by omega)]
    rfl
  | succ d ih =>
    intro x j hj h0 hx h
    refine ev_go (ih (sumStep x) (j + 1) (by omega) (by omega) (sumStep_range x hx) h) fun k => ?_
    rw [impl_SumMore.l1, if_pos (by omega), u32_and1 x hx, w64 (n := j + 1) (by omega) (by omega)]
    unfold sumStep
    by_cases c : x % 2 = 1
    · rw [if_pos c, if_pos c]
    · rw [if_neg c, if_neg c]
theorem impl_SumMore_loop (s : ByteArray) (hs : s.size ≤ 140737488351232) : ∀ (d : Nat) (x : Int) (i : Nat), i + d = s.size → 0 ≤ x ∧ x < 4294967296 → Ev (fun k => impl_SumMore.l0 k x s (s.size : Int) (i : Int)) (sumL x ((bytesOf s).drop i)) := by
  intro d
  induction d with
  | zero =>
    intro x i hi hx
    refine ev_end fun k => ?_
    rw [impl_SumMore.l0, if_neg (by omega), List.drop_eq_nil_of_le (by rw [bytesOf_length]; omega)]
    rfl
  | succ d ih =>
    intro x i hi hx
    have hb := bt_lo s i
    have hb' := bt_hi s i
    rw [bytesOf_drop s i (by omega)]
    have hn := ih (sumByte x (bt s i)) (i + 1) (by omega) (sumByte_range _ _)
    refine ev_go (impl_SumMore_steps s i _ 8 (Go.bits .xor .u32 x (bt s i)) 0 (by omega) (by omega) (bits_u32_range _ _ _ rfl) ?_) fun k => ?_
    · rw [w64 (by omega) (by omega)]
      exact hn
    · rw [impl_SumMore.l0, if_pos (by omega), if_pos (by omega), if_pos (by omega), show bt s i % 4294967296 = bt s i by omega]
theorem impl_SumMore_fev (x : Int) (hx : 0 ≤ x ∧ x < 4294967296) (s : ByteArray) (hs : s.size ≤ 140737488351232) : Ev (fun k => impl_SumMore.f k x s) (sumR x s) :=
  impl_SumMore_loop s hs s.size x 0 (by omega) hx
theorem impl_SumOf_fev (s : ByteArray) (hs : s.size ≤ 140737488351232) : Ev (fun k => impl_SumOf.f k s) (sumR 4294967295 s) :=
  ev_call (impl_SumMore_fev 4294967295 (by omega) s hs) (Ev.now _) fun _ => rfl
theorem impl_seal_fev (s : ByteArray) (hs : s.size ≤ 140737488351232) : Ev (fun k => impl_seal.f k s) (sealB s) :=
  ev_call (impl_SumOf_fev s hs) (Ev.now _) fun _ => rfl
theorem impl_Unsealed_fev (s : ByteArray) (hs : s.size ≤ 140737488351232) : Ev (fun k => impl_Unsealed.f k s) (unsealedR s) := by
  unfold unsealedR
  have hw : wrap64 ((s.size : Int) - 4) = (s.size : Int) - 4 := w64 (by omega) (by omega)
  by_cases c : 4 ≤ s.size ∧ s.size ≤ 20004
  · have hx := extract_size_le s 0 (s.size - 4)
    have hn : ((s.size : Int) - 4).toNat = s.size - 4 := by omega
    refine ev_call (impl_seal_fev (s.extract 0 (s.size - 4)) (by omega)) (c := fun _ t106 => (if (s.extract (s.size - 4) s.size).toList = t106.toList then (some (s.extract 0 (s.size - 4), true)) else (some ((⟨#[]⟩ : ByteArray), false)))) (ev_some fun k => ?_) (fun k => ?_)
    · by_cases c2 : s.extract (s.size - 4) s.size = sealB (s.extract 0 (s.size - 4))
      · rw [if_pos ((toList_eq_iff _ _).2 c2), if_pos ⟨c.1, c.2, c2⟩]
      · rw [if_neg (fun h => c2 ((toList_eq_iff _ _).1 h)), if_neg (fun h => c2 h.2.2)]
    · unfold impl_Unsealed.f impl_in.f
      rw [hw, if_pos (by omega), Option.bind_some, decide_eq_true (by omega), if_pos rfl, if_pos (by omega), if_pos (by omega), hn]
  · rw [if_neg (fun h => c ⟨h.1, h.2.1⟩)]
    refine ev_some fun k => ?_
    unfold impl_Unsealed.f impl_in.f
    rw [hw]
    by_cases c1 : (s.size : Int) - 4 ≥ 0
    · rw [if_pos c1, Option.bind_some, decide_eq_false (by omega), if_neg (by decide)]
    · rw [if_neg c1, Option.bind_some, if_neg (by decide)]
theorem impl_ReadVar_ev (s : ByteArray) (hs : s.size ≤ 140737488351232) (a : Nat) (ha : a ≤ s.size) : ∀ (d j : Nat) (n : Int), 5 - j = d → j ≤ 5 → a + j ≤ s.size → 0 ≤ n → n < 128 ^ j → decAt ((bytesOf s).drop a) j n →
    Ev (fun k => impl_ReadVar.l0 k s (a : Int) n (j : Int)) (rvL a ((bytesOf s).drop a)) := by
  have hrange : ∀ x ∈ (bytesOf s).drop a, 0 ≤ x ∧ x ≤ 255 := fun x hx => bytesOf_range s x (List.mem_of_mem_drop hx)
  intro d
  induction d with
  | zero =>
    intro j n hd hj hl h0 h1 hD
    obtain rfl : j = 5 := by omega
    rw [rvL_none (decAt_over hD)]
    refine ev_succ ⟨1, fun k hk => ?_⟩
    obtain ⟨k, rfl⟩ : ∃ m, k = m + 1 := ⟨k - 1, by omega⟩
    rw [impl_ReadVar.l0, if_neg (by omega), impl_ReadVar.j1, if_neg (by decide)]
  | succ d ih =>
    intro j n hd hj hl h0 h1 hD
    by_cases c : a + j < s.size
    · have hdrop : ((bytesOf s).drop a).drop j = bt s ((a : Int) + j) :: ((bytesOf s).drop (a + j + 1)) := by
        rw [List.drop_drop, bytesOf_drop s (a + j) c]
        rw [show ((a + j : Nat) : Int) = (a : Int) + j by omega]
      have hget : ((bytesOf s).drop a).getD j 0 = bt s ((a : Int) + j) := by
        have : ((bytesOf s).drop a)[j]? = some (bt s ((a : Int) + j)) := by
          have := congrArg (fun l : List Int => l[0]?) hdrop
          simpa using this
        rw [List.getD_eq_getElem?_getD, this]
        rfl
      have hb0 := bt_lo s ((a : Int) + j)
      have hb1 := bt_hi s ((a : Int) + j)
      obtain ⟨m1, m2, m3, m4⟩ := rv_mul j (by omega) n (bt s ((a : Int) + j)) h0 h1 hb0 hb1
      have m0 := rv_or j (by omega) n (bt s ((a : Int) + j)) h0 h1 hb0 hb1
      have hw : wrap64 (bt s ((a : Int) + j)) = bt s ((a : Int) + j) := w64 (by omega) (by omega)
      rw [hw] at m0
      by_cases cb : bt s ((a : Int) + j) < 128
      · have hE := decAt_end hD (by omega) hdrop cb
        have hC := decL_canon 5 _ _ _ hrange hE
        rw [show 1 + j - 1 = j by omega, hget] at hC
        rw [show bt s ((a : Int) + j) % 128 = bt s ((a : Int) + j) by omega] at m0 m1 m2 m3 m4
        refine ev_succ ⟨1, fun k hk => ?_⟩
        obtain ⟨k, rfl⟩ : ∃ m, k = m + 1 := ⟨k - 1, by omega⟩
        rw [impl_ReadVar.l0, if_pos (by omega), w64 (n := (a : Int) + j) (by omega) (by omega), decide_eq_true (by omega), impl_ReadVar.j1, if_pos rfl, w64 (n := (a : Int) + j) (by omega) (by omega), if_pos (by omega), if_pos (by omega), w64 (n := 7 * (j : Int)) (by omega) (by omega), if_pos (by omega), hw, if_neg (by omega)]
        rw [w64 (n := 7 * (j : Int)) (by omega) (by omega)] at m0
        rw [m0, w64 (n := (a : Int) + j + 1) (by omega) (by omega)]
        have hN : ¬ (n + 128 ^ j * bt s ((a : Int) + j) > 1000000000) → ¬ (bt s ((a : Int) + j) = 0 ∧ j > 0) → rvL a ((bytesOf s).drop a) = (n + 128 ^ j * bt s ((a : Int) + j), (a : Int) + j + 1, true) := by
          intro g1 g2
          rw [rvL_good hE (by omega) (hC.2 (fun h => g2 ⟨h.2, by omega⟩))]
          simp only [Prod.mk.injEq, and_true, true_and]
          omega
        have hM : n + 128 ^ j * bt s ((a : Int) + j) > 1000000000 → rvL a ((bytesOf s).drop a) = (0, 0, false) := fun g => rvL_bad hE (fun h => by omega)
        by_cases cz : bt s ((a : Int) + j) = 0
        · rw [if_pos cz]
          by_cases cj : (j : Int) > 0
          · rw [if_pos cj, rvL_bad hE]
            intro h
            exact hC.1 h.2 ⟨by omega, cz⟩
          · rw [if_neg cj]
            by_cases cm : n + 128 ^ j * bt s ((a : Int) + j) > 1000000000
            · rw [if_pos cm, hM cm]
            · rw [if_neg cm, hN cm (by omega)]
        · rw [if_neg cz]
          by_cases cm : n + 128 ^ j * bt s ((a : Int) + j) > 1000000000
          · rw [if_pos cm, hM cm]
          · rw [if_neg cm, hN cm (by omega)]
      · have hN := decAt_next hD (by omega) hdrop cb
        rw [show bt s ((a : Int) + j) % 128 = bt s ((a : Int) + j) - 128 by omega] at m0 m1 m2 m3 m4
        have hi := ih (j + 1) _ (by omega) (by omega) (by omega) m2 m3 hN
        obtain ⟨K, hK⟩ := hi
        dsimp only at hK
        refine ev_succ ⟨K + 1, fun k hk => ?_⟩
        obtain ⟨k, rfl⟩ : ∃ m, k = m + 1 := ⟨k - 1, by omega⟩
        rw [w64 (n := 7 * (j : Int)) (by omega) (by omega)] at m0
        rw [impl_ReadVar.l0, if_pos (by omega), w64 (n := (a : Int) + j) (by omega) (by omega), decide_eq_true (by omega), impl_ReadVar.j1, if_pos rfl, w64 (n := (a : Int) + j) (by omega) (by omega), if_pos (by omega), if_pos (by omega), w64 (n := 7 * (j : Int)) (by omega) (by omega), if_pos (by omega), hw, if_pos (by omega), m0, w64 (n := (j : Int) + 1) (by omega) (by omega)]
        have := hK k (by omega)
        simp only [Int.natCast_add, Int.natCast_one] at this
        exact this
    · have hdrop : ((bytesOf s).drop a).drop j = [] := by
        rw [List.drop_drop, List.drop_eq_nil_iff, bytesOf_length]; omega
      rw [rvL_none (decAt_short hD hdrop)]
      refine ev_succ ⟨1, fun k hk => ?_⟩
      obtain ⟨k, rfl⟩ : ∃ m, k = m + 1 := ⟨k - 1, by omega⟩
      rw [impl_ReadVar.l0, if_pos (by omega), w64 (n := (a : Int) + j) (by omega) (by omega), decide_eq_false (by omega), impl_ReadVar.j1, if_neg (by decide)]
theorem impl_ReadVar_fev (s : ByteArray) (hs : s.size ≤ 140737488351232) (a : Int) : Ev (fun k => impl_ReadVar.f k s a) (rvR s a) := by
  unfold rvR
  by_cases c : 0 ≤ a ∧ a ≤ (s.size : Int)
  · rw [if_pos c]
    have := impl_ReadVar_ev s hs a.toNat (by omega) 5 0 0 (by omega) (by omega) (by omega) (by omega) (by simp) (decAt_zero _)
    rw [show ((a.toNat : Nat) : Int) = a by omega] at this
    simp only [Int.natCast_zero] at this
    refine Ev.congr (fun k => ?_) this
    unfold impl_ReadVar.f impl_in.f
    rw [if_pos (by omega), Option.bind_some, decide_eq_true (by omega), if_pos rfl]
  · rw [if_neg c]
    refine ev_some fun k => ?_
    unfold impl_ReadVar.f impl_in.f
    by_cases c1 : a ≥ 0
    · rw [if_pos c1, Option.bind_some, decide_eq_false (by omega), if_neg (by decide)]
    · rw [if_neg c1, Option.bind_some, if_neg (by decide)]
theorem impl_reader_num_fev (s : ByteArray) (hs : s.size ≤ 140737488351232) (a : Int) (bad : Bool) (most : Int) : Ev (fun k => impl_reader_num.f k s a bad most) ((numR s most a bad).1, s, (numR s most a bad).2.1, (numR s most a bad).2.2) := by
  refine ev_call (impl_ReadVar_fev s hs a) (ev_some fun k => ?_) fun k => rfl
  unfold numR
  cases bad with
  | true => rw [if_pos rfl, if_neg (by simp)]
  | false =>
    rw [if_neg (by decide)]
    rcases hr : rvR s a with ⟨n, nx, ok⟩
    cases ok with
    | false => rw [if_neg (by simp), if_neg (by simp)]
    | true =>
      rw [if_pos rfl]
      by_cases c : n ≤ most
      · rw [if_neg (by omega), if_pos ⟨rfl, rfl, c⟩]
      · rw [if_pos (by omega), if_neg (fun h => c h.2.2)]
theorem impl_ReadShort_fev (s : ByteArray) (hs : s.size ≤ 140737488351232) (a : Int) : Ev (fun k => impl_ReadShort.f k s a) (rsR s a) := by
  refine ev_call (impl_ReadVar_fev s hs a) (ev_some fun k => ?_) (fun k => rfl)
  unfold rsR
  rcases hr : rvR s a with ⟨n, nx, ok⟩
  cases ok with
  | false => simp
  | true =>
    obtain ⟨u, h1, h2, h3, h4, h5, h6, h7, h8⟩ := rvR_tells s a n nx hr
    simp only [if_true, true_and]
    rw [w64 (n := (s.size : Int) - nx) (by omega) (by omega)]
    by_cases c : n ≤ 20000
    · rw [if_neg (by omega)]
      by_cases c2 : n ≤ (s.size : Int) - nx
      · rw [if_neg (by omega), if_pos (by omega), w64 (n := nx + n) (by omega) (by omega), if_pos (by omega), if_pos (by omega), if_pos ⟨c, c2⟩]
      · rw [if_pos (by omega), if_neg (by omega)]
    · rw [if_pos (by omega), if_neg (by omega)]
theorem impl_reader_text_fev (s : ByteArray) (hs : s.size ≤ 140737488351232) (a : Int) (bad : Bool) : Ev (fun k => impl_reader_text.f k s a bad) ((txtR s a bad).1, s, (txtR s a bad).2.1, (txtR s a bad).2.2) := by
  refine ev_call (impl_ReadShort_fev s hs a) (ev_some fun k => ?_) fun k => rfl
  unfold txtR
  cases bad with
  | true => rw [if_pos rfl, if_neg (by simp)]
  | false =>
    rw [if_neg (by decide)]
    by_cases c : (rsR s a).2.2 = true
    · rw [if_pos c, if_pos ⟨rfl, c⟩]
    · rw [if_neg c, if_neg (fun h => c h.2)]
theorem ndP_leaf (s : ByteArray) (most : Int) (d : Nat) (a : Int) (bad : Bool) (K V : List ByteArray) (C : List Int) : ndP s true false most (d + 1) a bad K V C = ndP s true false most d (txtR s (txtR s a bad).2.1 (txtR s a bad).2.2).2.1 (txtR s (txtR s a bad).2.1 (txtR s a bad).2.2).2.2 (K ++ [(txtR s a bad).1]) (V ++ [(txtR s (txtR s a bad).2.1 (txtR s a bad).2.2).1]) C := by
  rw [ndP, if_neg (by simp), if_pos rfl]
theorem ndP_twig (s : ByteArray) (most : Int) (d : Nat) (a : Int) (bad : Bool) (K V : List ByteArray) (C : List Int) : ndP s false false most (d + 1) a bad K V C = ndP s false false most d (numR s most (txtR s a bad).2.1 (txtR s a bad).2.2).2.1 (numR s most (txtR s a bad).2.1 (txtR s a bad).2.2).2.2 (K ++ [(txtR s a bad).1]) V (C ++ [(numR s most (txtR s a bad).2.1 (txtR s a bad).2.2).1]) := by
  rw [ndP, if_neg (by simp), if_neg (by decide)]
theorem impl_ReadNode_loop (s : ByteArray) (hs : s.size ≤ 140737488351232) (leaf : Bool) (n : Int) : ∀ (d j : Nat) (K V : List ByteArray) (C : List Int) (a : Int) (bad : Bool), ((j : Int) + d = n ∨ d = 0 ∧ n ≤ j) → j + d ≤ 1000000 → K.length ≤ j → V.length ≤ j → C.length ≤ j →
    Ev (fun k => impl_ReadNode.l0 k s n (j : Int) leaf K V C s a bad) (if (ndP s leaf false 40 d a bad K V C).2.1 = false ∧ (ndP s leaf false 40 d a bad K V C).1 = (s.size : Int) ∧ nodeOkR leaf (ndP s leaf false 40 d a bad K V C).2.2.1 (ndP s leaf false 40 d a bad K V C).2.2.2.1 (ndP s leaf false 40 d a bad K V C).2.2.2.2 = true then (leaf, (ndP s leaf false 40 d a bad K V C).2.2.1, (ndP s leaf false 40 d a bad K V C).2.2.2.1, (ndP s leaf false 40 d a bad K V C).2.2.2.2, true) else nodeZero) := by
  intro d
  induction d with
  | zero =>
    intro j K V C a bad hn hj hK hV hC
    obtain ⟨K1, e1⟩ := impl_NodeOk_fev leaf K V C (by omega) (by omega)
    dsimp only at e1
    unfold ndP
    dsimp only
    refine ev_succ ⟨K1, fun k hk => ?_⟩
    rw [impl_ReadNode.l0, if_neg (by omega)]
    cases bad with
    | true => rw [if_pos rfl, if_neg (by simp)]; rfl
    | false =>
      rw [if_neg (by decide)]
      by_cases c : a = (s.size : Int)
      · rw [if_pos c, e1 k hk, Option.bind_some]
        cases ho : nodeOkR leaf K V C with
        | true => rw [if_pos rfl, if_pos ⟨rfl, c, rfl⟩]
        | false => rw [if_neg (by decide), if_neg (fun h => by cases h.2.2)]; rfl
      · rw [if_neg c, if_neg (fun h => c h.2.1)]; rfl
  | succ d ih =>
    intro j K V C a bad hn hj hK hV hC
    obtain ⟨K1, e1⟩ := impl_reader_text_fev s hs a bad
    dsimp only at e1
    cases leaf with
    | true =>
      obtain ⟨K2, e2⟩ := impl_reader_text_fev s hs (txtR s a bad).2.1 (txtR s a bad).2.2
      obtain ⟨K3, e3⟩ := ih (j + 1) (K ++ [(txtR s a bad).1]) (V ++ [(txtR s (txtR s a bad).2.1 (txtR s a bad).2.2).1]) C (txtR s (txtR s a bad).2.1 (txtR s a bad).2.2).2.1 (txtR s (txtR s a bad).2.1 (txtR s a bad).2.2).2.2 (by omega) (by omega) (by simp; omega) (by simp; omega) (by omega)
      dsimp only at e2 e3
      rw [ndP_leaf]
      refine ev_succ ⟨K1 + K2 + K3, fun k hk => ?_⟩
      rw [impl_ReadNode.l0, if_pos (by omega), e1 k (by omega), Option.bind_some, if_pos (by omega), Option.bind_some, if_pos rfl]
      dsimp only
      rw [e2 k (by omega), Option.bind_some, if_pos (by omega), w64 (by omega) (by omega)]
      exact e3 k (by omega)
    | false =>
      obtain ⟨K2, e2⟩ := impl_reader_num_fev s hs (txtR s a bad).2.1 (txtR s a bad).2.2 40
      obtain ⟨K3, e3⟩ := ih (j + 1) (K ++ [(txtR s a bad).1]) V (C ++ [(numR s 40 (txtR s a bad).2.1 (txtR s a bad).2.2).1]) (numR s 40 (txtR s a bad).2.1 (txtR s a bad).2.2).2.1 (numR s 40 (txtR s a bad).2.1 (txtR s a bad).2.2).2.2 (by omega) (by omega) (by simp; omega) (by omega) (by simp; omega)
      dsimp only at e2 e3
      rw [ndP_twig]
      refine ev_succ ⟨K1 + K2 + K3, fun k hk => ?_⟩
      rw [impl_ReadNode.l0, if_pos (by omega), e1 k (by omega), Option.bind_some, if_pos (by omega), Option.bind_some, if_neg (by decide)]
      dsimp only
      rw [e2 k (by omega), Option.bind_some, if_pos (by omega), w64 (by omega) (by omega)]
      exact e3 k (by omega)
theorem numR_four (s : ByteArray) (a : Int) (bad : Bool) : (numR s 4 a bad).1 ≤ 4 := by
  unfold numR
  split
  · rename_i h; exact h.2.2
  · exact (by decide : (0 : Int) ≤ 4)
theorem impl_ReadNode_fev (t : ByteArray) (ht : t.size ≤ 140737488351232) : Ev (fun k => impl_ReadNode.f k t) (readNodeR t) := by
  rw [readNodeR_impl]
  obtain ⟨K1, e1⟩ := impl_Unsealed_fev t ht
  rcases hu : unsealedR t with ⟨s, ok⟩
  rw [hu] at e1
  dsimp only at e1 ⊢
  cases ok with
  | false =>
    refine ⟨K1, fun k hk => ?_⟩
    dsimp only
    unfold impl_ReadNode.f
    rw [e1 k hk, Option.bind_some, if_neg (by simp), if_neg (by simp)]
    rfl
  | true =>
    have hz : s.size ≤ 20000 := (unsealedR_tells hu).2.1
    by_cases c : s.size = 0
    · have he : s.toList = ([] : List UInt8) := by
        rw [ByteArray.toList_eq]
        exact List.eq_nil_of_length_eq_zero (by rw [Array.length_toList]; exact c)
      refine ⟨K1, fun k hk => ?_⟩
      dsimp only
      unfold impl_ReadNode.f
      rw [e1 k hk, Option.bind_some, if_pos rfl, if_pos he, if_neg (fun h => h.2 c)]
      rfl
    · have he : ¬ s.toList = ([] : List UInt8) := by
        intro h
        rw [ByteArray.toList_eq] at h
        have : s.data.toList.length = 0 := by rw [h]; rfl
        rw [Array.length_toList] at this
        exact c this
      rw [if_pos ⟨rfl, c⟩]
      try dsimp only
      have main : ∀ (leaf bad : Bool), Ev (fun k => (impl_reader_num.f k s 1 bad 4).bind fun bt226 => (impl_ReadNode.l0 k s bt226.1 0 leaf ([] : List ByteArray) ([] : List ByteArray) ([] : List Int) bt226.2.1 bt226.2.2.1 bt226.2.2.2)) (if (nodeP s leaf false bad 4 4 40).2.1 = false ∧ (nodeP s leaf false bad 4 4 40).1 = (s.size : Int) ∧ nodeOkR leaf (nodeP s leaf false bad 4 4 40).2.2.1 (nodeP s leaf false bad 4 4 40).2.2.2.1 (nodeP s leaf false bad 4 4 40).2.2.2.2 = true then (leaf, (nodeP s leaf false bad 4 4 40).2.2.1, (nodeP s leaf false bad 4 4 40).2.2.2.1, (nodeP s leaf false bad 4 4 40).2.2.2.2, true) else nodeZero) := by
        intro leaf bad
        obtain ⟨K2, e2⟩ := impl_reader_num_fev s (by omega) 1 bad 4
        have h4 := numR_four s 1 bad
        have hm : min (numR s 4 1 bad).1.toNat 4 = (numR s 4 1 bad).1.toNat := Nat.min_eq_left (by omega)
        obtain ⟨K3, e3⟩ := impl_ReadNode_loop s (by omega) leaf (numR s 4 1 bad).1 (numR s 4 1 bad).1.toNat 0 [] [] [] (numR s 4 1 bad).2.1 (numR s 4 1 bad).2.2 (by omega) (by omega) (by simp) (by simp) (by simp)
        unfold nodeP
        rw [hm]
        dsimp only at e2 e3
        refine ⟨K2 + K3, fun k hk => ?_⟩
        dsimp only
        rw [e2 k (by omega), Option.bind_some]
        exact e3 k (by omega)
      by_cases c1 : bt s 0 = 108
      · obtain ⟨K2, e2⟩ := main true false
        dsimp only at e2
        refine ⟨K1 + K2, fun k hk => ?_⟩
        dsimp only
        unfold impl_ReadNode.f
        rw [e1 k (by omega), Option.bind_some, if_pos rfl]
        dsimp only
        rw [if_neg he, if_pos (by omega), if_pos c1, show (bt s 0 == 108) = true by simpa using c1, decide_eq_true c1]
        exact e2 k (by omega)
      · obtain ⟨K2, e2⟩ := main false (bt s 0 != 98)
        dsimp only at e2
        refine ⟨K1 + K2, fun k hk => ?_⟩
        dsimp only
        unfold impl_ReadNode.f
        rw [e1 k (by omega), Option.bind_some, if_pos rfl]
        dsimp only
        rw [if_neg he, if_pos (by omega), if_neg c1, show (bt s 0 == 108) = false by simpa using c1, decide_eq_false c1, show (!false && !decide (bt s 0 = 98)) = (bt s 0 != 98) by rw [Bool.not_false, Bool.true_and]; rfl]
        exact e2 k (by omega)
theorem laws_markText_loop : ∀ (n : Nat) (acc : ByteArray), acc.size + n ≤ 4611686018427387904 → Ev (fun k => laws_markText.l0 k (n : Int) acc) (mtB n acc) := by
  intro n
  induction n using Nat.strongRecOn with
  | ind n ih =>
    intro acc h
    by_cases c : n = 0
    · subst c
      rw [mtB_zero]
      refine ev_end fun k => ?_
      rw [laws_markText.l0, if_neg (by omega), if_pos (by omega)]
    · rw [mtB_pos c]
      have hsz : (strOfNums [(48 + (n : Int) % 10) % 256]).size = 1 := by rw [strOfNums_size]; rfl
      refine ev_go (ih (n / 10) (by omega) (strOfNums [(48 + (n : Int) % 10) % 256] ++ acc) (by rw [ByteArray.size_append]; omega)) fun k => ?_
      have e1 : wrap64 (Int.tdiv (n : Int) 10) = ((n / 10 : Nat) : Int) := by rw [Int.tdiv_eq_ediv_of_nonneg (by omega), w64 (by omega) (by omega)]; omega
      have e2 : wrap64 (48 + Int.tmod (n : Int) 10) = 48 + (n : Int) % 10 := by rw [Int.tmod_eq_emod_of_nonneg (by omega), w64 (by omega) (by omega)]
      rw [laws_markText.l0, if_pos (by omega), Option.bind_some, e1, e2, if_pos (by rw [hsz]; omega)]
theorem laws_markText_fev (k : Int) (h : k ≤ 4611686018427387904) : Ev (fun f => laws_markText.f f k) (mtR k) := by
  unfold mtR
  by_cases c : k ≤ 0
  · rw [if_pos c]
    exact ev_some fun f => by unfold laws_markText.f; rw [if_pos c]
  · rw [if_neg c]
    have := laws_markText_loop k.toNat ⟨#[]⟩ (by have : (⟨#[]⟩ : ByteArray).size = 0 := rfl; omega)
    rw [Int.toNat_of_nonneg (by omega)] at this
    refine Ev.congr (fun f => ?_) this
    unfold laws_markText.f
    rw [if_neg c]
theorem laws_markStringS_loop : ∀ (d i : Nat) (pre rest : List ByteArray) (k : Int), pre.length = i → rest.length = d → i + d ≤ 1048576 → 0 ≤ k → k + d ≤ 4611686018427387904 → Ev (fun f => laws_markStringS.l0 f (pre ++ rest) k (i : Int)) (k + d, pre ++ marksS k d) := by
  intro d
  induction d with
  | zero =>
    intro i pre rest k hp hr hl h0 h1
    refine ev_end fun f => ?_
    rw [List.eq_nil_of_length_eq_zero hr, laws_markStringS.l0, if_neg (by rw [List.append_nil]; omega)]
    simp [marksS]
  | succ d ih =>
    intro i pre rest k hp hr hl h0 h1
    obtain ⟨x, t, rfl⟩ : ∃ x t, rest = x :: t := by
      cases rest with
      | nil => simp at hr
      | cons x t => exact ⟨x, t, rfl⟩
    have hn := ih (i + 1) (pre ++ [mtR k]) t (k + 1) (by simp; omega) (by simp at hr; omega) (by omega) (by omega) (by omega)
    rw [List.append_assoc, List.singleton_append, List.append_assoc, List.singleton_append, show k + 1 + (d : Int) = k + ((d + 1 : Nat) : Int) by omega] at hn
    refine ev_go_call (laws_markText_fev k (by omega)) (c := fun f t125 => (if (0 : Int) ≤ (i : Int) then (laws_markStringS.l0 f ((pre ++ x :: t).set ((i : Int)).toNat t125) (wrap64 (k + 1)) (wrap64 ((i : Int) + 1))) else (none))) ?_ (fun f => ?_)
    · refine Ev.congr (fun f => ?_) hn
      rw [if_pos (by omega), Int.toNat_natCast, set_mid pre t x _ i hp, w64 (by omega) (by omega), w64 (by omega) (by omega)]
      rfl
    · rw [laws_markStringS.l0, if_pos (by rw [List.length_append, List.length_cons]; omega)]
theorem laws_markStringS_fev (l : List ByteArray) (k : Int) (hl : l.length ≤ 1048576) (h0 : 0 ≤ k) (h1 : k ≤ 1099511627776) : Ev (fun f => laws_markStringS.f f l k) (k + l.length, marksS k l.length) :=
  laws_markStringS_loop l.length 0 [] l k rfl rfl (by omega) h0 (by omega)
theorem laws_markIntS_loop : ∀ (d i : Nat) (pre rest : List Int) (k : Int), pre.length = i → rest.length = d → i + d ≤ 1048576 → 0 ≤ k → k + d ≤ 4611686018427387904 → Ev (fun f => laws_markIntS.l0 f (pre ++ rest) k (i : Int)) (k + d, pre ++ marksI k d) := by
  intro d
  induction d with
  | zero =>
    intro i pre rest k hp hr hl h0 h1
    refine ev_end fun f => ?_
    rw [List.eq_nil_of_length_eq_zero hr, laws_markIntS.l0, if_neg (by rw [List.append_nil]; omega)]
    simp [marksI]
  | succ d ih =>
    intro i pre rest k hp hr hl h0 h1
    obtain ⟨x, t, rfl⟩ : ∃ x t, rest = x :: t := by
      cases rest with
      | nil => simp at hr
      | cons x t => exact ⟨x, t, rfl⟩
    have hn := ih (i + 1) (pre ++ [k]) t (k + 1) (by simp; omega) (by simp at hr; omega) (by omega) (by omega) (by omega)
    rw [List.append_assoc, List.singleton_append, List.append_assoc, List.singleton_append, show k + 1 + (d : Int) = k + ((d + 1 : Nat) : Int) by omega] at hn
    refine ev_go hn fun f => ?_
    rw [laws_markIntS.l0, if_pos (by rw [List.length_append, List.length_cons]; omega), if_pos (by omega), Int.toNat_natCast, set_mid pre t x _ i hp, w64 (by omega) (by omega), w64 (by omega) (by omega)]
    rfl
theorem laws_markIntS_fev (l : List Int) (k : Int) (hl : l.length ≤ 1048576) (h0 : 0 ≤ k) (h1 : k ≤ 1099511627776) : Ev (fun f => laws_markIntS.f f l k) (k + l.length, marksI k l.length) :=
  laws_markIntS_loop l.length 0 [] l k rfl rfl (by omega) h0 (by omega)
theorem laws_markNode_fev (leaf : Bool) (a b : List ByteArray) (c : List Int) (k : Int) (ha : a.length ≤ 1048576) (hb : b.length ≤ 1048576) (hc : c.length ≤ 1048576) (h0 : 0 ≤ k) (h1 : k ≤ 1048576) : Ev (fun f => laws_markNode.f f leaf a b c k) (k + a.length + b.length + c.length, marksS k a.length, marksS (k + a.length) b.length, marksI (k + a.length + b.length) c.length) := by
  obtain ⟨K1, e1⟩ := laws_markStringS_fev a k ha h0 (by omega)
  obtain ⟨K2, e2⟩ := laws_markStringS_fev b (k + a.length) hb (by omega) (by omega)
  obtain ⟨K3, e3⟩ := laws_markIntS_fev c (k + a.length + b.length) hc (by omega) (by omega)
  dsimp only at e1 e2 e3
  refine ⟨K1 + K2 + K3, fun f hf => ?_⟩
  dsimp only
  unfold laws_markNode.f
  rw [e1 f (by omega), Option.bind_some]
  dsimp only
  rw [e2 f (by omega), Option.bind_some]
  dsimp only
  rw [e3 f (by omega), Option.bind_some]
theorem laws_heldStringS_loop (l : List ByteArray) (hl : l.length ≤ 1048576) : ∀ (d i : Nat) (k : Int), i + d = l.length → l.drop i = marksS k d → 0 ≤ k → k + d ≤ 4611686018427387904 → Ev (fun f => laws_heldStringS.l0 f l k (i : Int)) (k + d) := by
  intro d
  induction d with
  | zero =>
    intro i k hi hd h0 h1
    refine ev_end fun f => ?_
    rw [laws_heldStringS.l0, if_neg (by omega)]
    simp
  | succ d ih =>
    intro i k hi hd h0 h1
    rw [drop_rdOf ByteArray.empty l i (by omega)] at hd
    unfold marksS at hd
    obtain ⟨hx, ht⟩ := List.cons.inj hd
    have hn := ih (i + 1) (k + 1) (by omega) ht (by omega) (by omega)
    rw [show k + 1 + (d : Int) = k + ((d + 1 : Nat) : Int) by omega] at hn
    refine ev_go_call (laws_markText_fev k (by omega)) (c := fun f t136 => (if (rdOf ByteArray.empty l (i : Int)).toList = t136.toList then (laws_heldStringS.l0 f l (wrap64 (k + 1)) (wrap64 ((i : Int) + 1))) else (some (-1)))) ?_ (fun f => ?_)
    · refine Ev.congr (fun f => ?_) hn
      rw [if_pos (by rw [hx]), w64 (by omega) (by omega), w64 (by omega) (by omega)]
      rfl
    · rw [laws_heldStringS.l0, if_pos (by omega), if_pos (by omega)]
theorem laws_heldStringS_fev (n : Nat) (k : Int) (hn : n ≤ 1048576) (h0 : 0 ≤ k) (h1 : k ≤ 1099511627776) : Ev (fun f => laws_heldStringS.f f (marksS k n) k) (k + n) :=
  laws_heldStringS_loop (marksS k n) (by rw [marksS_length]; exact hn) n 0 k (by rw [marksS_length]; omega) rfl h0 (by omega)
theorem laws_heldIntS_loop (l : List Int) (hl : l.length ≤ 1048576) : ∀ (d i : Nat) (k : Int), i + d = l.length → l.drop i = marksI k d → 0 ≤ k → k + d ≤ 4611686018427387904 → Ev (fun f => laws_heldIntS.l0 f l k (i : Int)) (k + d) := by
  intro d
  induction d with
  | zero =>
    intro i k hi hd h0 h1
    refine ev_end fun f => ?_
    rw [laws_heldIntS.l0, if_neg (by omega)]
    simp
  | succ d ih =>
    intro i k hi hd h0 h1
    rw [drop_rdOf (0 : Int) l i (by omega)] at hd
    unfold marksI at hd
    obtain ⟨hx, ht⟩ := List.cons.inj hd
    have hn := ih (i + 1) (k + 1) (by omega) ht (by omega) (by omega)
    rw [show k + 1 + (d : Int) = k + ((d + 1 : Nat) : Int) by omega] at hn
    refine ev_go hn fun f => ?_
    rw [laws_heldIntS.l0, if_pos (by omega), if_pos (by omega), if_pos (show rd l (i : Int) = k from hx), w64 (by omega) (by omega), w64 (by omega) (by omega)]
    rfl
theorem laws_heldIntS_fev (n : Nat) (k : Int) (hn : n ≤ 1048576) (h0 : 0 ≤ k) (h1 : k ≤ 1099511627776) : Ev (fun f => laws_heldIntS.f f (marksI k n) k) (k + n) :=
  laws_heldIntS_loop (marksI k n) (by rw [marksI_length]; exact hn) n 0 k (by rw [marksI_length]; omega) rfl h0 (by omega)
theorem laws_heldNode_fev (leaf : Bool) (p q r : Nat) (k : Int) (ha : p ≤ 1048576) (hb : q ≤ 1048576) (hc : r ≤ 1048576) (h0 : 0 ≤ k) (h1 : k ≤ 1048576) : Ev (fun f => laws_heldNode.f f leaf (marksS k p) (marksS (k + p) q) (marksI (k + p + q) r) k) (k + p + q + r) := by
  obtain ⟨K1, e1⟩ := laws_heldStringS_fev p k ha h0 (by omega)
  obtain ⟨K2, e2⟩ := laws_heldStringS_fev q (k + p) hb (by omega) (by omega)
  obtain ⟨K3, e3⟩ := laws_heldIntS_fev r (k + p + q) hc (by omega) (by omega)
  dsimp only at e1 e2 e3
  refine ⟨K1 + K2 + K3, fun f hf => ?_⟩
  dsimp only
  unfold laws_heldNode.f
  rw [e1 f (by omega), Option.bind_some, if_neg (by omega), e2 f (by omega), Option.bind_some, if_neg (by omega), e3 f (by omega), Option.bind_some, if_neg (by omega)]
end Go.Proofs.Ytkobbccjjglfmaa.VFnExactReadNode
namespace Go.Proofs.Ytkobbccjjglfmaa.Pure
open Go.Proofs.Ytkobbccjjglfmaa.VFnExactReadNode
set_option linter.unusedVariables false
set_option linter.unusedSimpArgs false
open Go Go.RowKit Go.Proofs.YtkobbccjjglfmaaW.PrintWords Go.Proofs.YtkobbccjjglfmaaW.PrintLast Go.Proofs.YtkobbccjjglfmaaW.PrintMore
theorem readNodeR_lengths {t : ByteArray} {leaf : Bool} {K V : List ByteArray} {C : List Int} {ok : Bool} (h : readNodeR t = (leaf, K, V, C, ok)) : K.length ≤ 4 ∧ V.length ≤ 4 ∧ C.length ≤ 1048576 := by
  cases ok with
  | false =>
    have := readNodeR_no h
    rw [h] at this
    unfold nodeZero at this
    simp only [Prod.mk.injEq] at this
    obtain ⟨_, rfl, rfl, rfl, _⟩ := this
    simp
  | true =>
    obtain ⟨h1, _⟩ := nodeTextR_tells (readNodeR_tells h)
    obtain ⟨g1, g2, g3, g4, g5⟩ := nodeOkR_tells h1
    cases leaf with
    | true =>
      obtain ⟨q1, q2, _⟩ := g4 rfl
      rw [q2]
      exact ⟨g2, by omega, by simp⟩
    | false =>
      obtain ⟨q1, q2, _⟩ := g5 rfl
      rw [q2]
      exact ⟨g2, by simp, by omega⟩
theorem FnExactReadNode : laws_FnExactReadNode.Pure := by
  intro t ht
  obtain ⟨K1, e1⟩ := spec_ReadNode_fev t ht
  obtain ⟨K2, e2⟩ := impl_ReadNode_fev t ht
  rcases hr : readNodeR t with ⟨leaf, K, V, C, ok⟩
  obtain ⟨h1, h2, h3⟩ := readNodeR_lengths hr
  rw [hr] at e1 e2
  obtain ⟨K3, e3⟩ := laws_eqNode_same leaf K V C (by omega) (by omega) (by omega)
  obtain ⟨K4, e4⟩ := laws_markNode_fev leaf K V C 1 (by omega) (by omega) h3 (by omega) (by omega)
  obtain ⟨K5, e5⟩ := laws_heldNode_fev leaf K.length V.length C.length 1 (by omega) (by omega) h3 (by omega) (by omega)
  dsimp only at e1 e2 e3 e4 e5
  refine ⟨K1 + K2 + K3 + K4 + K5 + 2, ?_⟩
  unfold laws_FnExactReadNode.f
  by_cases c : (t.size : Int) > 1048576
  · rw [if_pos c]
  · rw [if_neg c, e1 _ (by omega), Option.bind_some, e2 _ (by omega), Option.bind_some]
    dsimp only
    rw [e3 _ (by omega), Option.bind_some, if_pos rfl, bne_self_eq_false]
    rw [laws_FnExactReadNode.j0, if_neg (by decide), e4 _ (by omega), Option.bind_some]
    dsimp only
    rw [e5 _ (by omega), Option.bind_some, if_neg (by omega), if_pos rfl, e2 _ (by omega), Option.bind_some]
    dsimp only
    rw [e3 _ (by omega), Option.bind_some, if_pos rfl, bne_self_eq_false]
    rw [laws_FnExactReadNode.j1, if_neg (by decide), e5 _ (by omega), Option.bind_some, if_neg (by omega), if_pos rfl]
end Go.Proofs.Ytkobbccjjglfmaa.Pure
