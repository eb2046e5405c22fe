/- Plain lemmas on numbers, lists of bytes, and functions that count their rounds, for the proofs of this seat; no conditions. -/
import Derived.Test.YtdgefpifohfcgaaG
import Derived.Lib.Bytealg
namespace Go.Proofs.Ytdgefpifohfcgaa
set_option linter.unusedVariables false
set_option linter.unusedSimpArgs false
open Go Go.RowKit Go.Proofs.YtdgefpifohfcgaaW.PrintWords Go.Proofs.YtdgefpifohfcgaaW.PrintLast Go.Proofs.YtdgefpifohfcgaaW.PrintMore
/-! Numbers, bytes and rounds. -/
theorem w64 {n : Int} (h : -9223372036854775808 ≤ n) (h' : n ≤ 9223372036854775807) : wrap64 n = n := by
  unfold wrap64; omega
theorem ev_some {α : Type} {g : Nat → Option α} {r : α} (h : ∀ k, g k = some r) : Ev g r := ⟨0, fun k _ => h k⟩
theorem ev_succ {α : Type} {g : Nat → Option α} {r : α} (h : ∃ K, ∀ k, K ≤ k → g (k + 1) = some r) : Ev g r := by
  obtain ⟨K, h⟩ := h
  refine ⟨K + 1, fun k hk => ?_⟩
  obtain ⟨m, rfl⟩ : ∃ m, k = m + 1 := ⟨k - 1, by omega⟩
  exact h m (by omega)
/-- One round that goes on. -/
theorem ev_go {α : Type} {g f : Nat → Option α} {r : α} (hf : Ev f r) (h : ∀ k, g (k + 1) = f k) : Ev g r := Ev.step h hf
/-- One round that ends. -/
theorem ev_end {α : Type} {g : Nat → Option α} {r : α} (h : ∀ k, g (k + 1) = some r) : Ev g r := ev_succ ⟨0, fun k _ => h k⟩
/-- One call, then the rest. -/
theorem ev_call {α β : Type} {g : Nat → Option α} {f : Nat → Option β} {c : Nat → β → Option α} {b : β} {r : α} (hf : Ev f b) (hc : Ev (fun k => c k b) r) (h : ∀ k, g k = (f k).bind (c k)) : Ev g r :=
  Ev.congr h (Ev.bind hf hc)
/-- One round with one call in it. -/
theorem ev_go_call {α β : Type} {g : Nat → Option α} {f : Nat → Option β} {c : Nat → β → Option α} {b : β} {r : α} (hf : Ev f b) (hc : Ev (fun k => c k b) r) (h : ∀ k, g (k + 1) = (f k).bind (c k)) : Ev g r :=
  Ev.step h (Ev.bind hf hc)
theorem ev_pair {α β : Type} {g : Nat → Option α} {f : Nat → Option β} {a : α} {b : β} (h : Ev g a) (h' : Ev f b) : ∃ k, g k = some a ∧ f k = some b := by
  obtain ⟨K, h⟩ := h
  obtain ⟨K', h'⟩ := h'
  exact ⟨max K K', h _ (by omega), h' _ (by omega)⟩
theorem bt_lo (s : ByteArray) (i : Int) : 0 ≤ bt s i := (bt_range s i).1
theorem bt_hi (s : ByteArray) (i : Int) : bt s i ≤ 255 := (bt_range s i).2
theorem bytesOf_drop (s : ByteArray) (i : Nat) (h : i < s.size) : (bytesOf s).drop i = bt s (i : Int) :: (bytesOf s).drop (i + 1) := by
  have hl : i < (bytesOf s).length := by rw [bytesOf_length]; exact h
  rw [List.drop_eq_getElem_cons hl]
  congr 1
  rw [← rd_bytesOf s (i : Int)]
  unfold rd
  rw [Int.toNat_natCast]
  simp [List.getD, hl]
theorem bytesOf_range (s : ByteArray) : ∀ x ∈ bytesOf s, 0 ≤ x ∧ x ≤ 255 := by
  intro x hx
  unfold bytesOf at hx
  obtain ⟨b, _, rfl⟩ := List.mem_map.1 hx
  have := b.toNat_lt
  omega
theorem strOfNums_toList (xs : List Int) : (strOfNums xs).toList = xs.map fun n => UInt8.ofNat n.toNat := by
  rw [ByteArray.toList_eq, strOfNums_data]
theorem toList_inj {s t : ByteArray} (h : s.toList = t.toList) : s = t := by
  rw [ByteArray.toList_eq, ByteArray.toList_eq] at h
  exact ByteArray.ext (Array.toList_inj.1 h)
theorem strOfNums_bytesOf (s : ByteArray) : strOfNums (bytesOf s) = s := by
  apply ByteArray.ext
  apply Array.toList_inj.1
  rw [strOfNums_data]
  unfold bytesOf
  rw [List.map_map]
  conv => rhs; rw [← List.map_id s.data.toList]
  apply List.map_congr_left
  intro b _
  simp
theorem bytesOf_strOfNums (xs : List Int) (h : ∀ x ∈ xs, 0 ≤ x ∧ x ≤ 255) : bytesOf (strOfNums xs) = xs := by
  unfold bytesOf
  rw [strOfNums_data, List.map_map]
  conv => rhs; rw [← List.map_id xs]
  apply List.map_congr_left
  intro b hb
  have := h b hb
  simp only [Function.comp, UInt8.toNat_ofNat', id]
  omega
theorem bytesOf_extract (s : ByteArray) (a b : Nat) : bytesOf (s.extract a b) = ((bytesOf s).drop a).take (b - a) := by
  unfold bytesOf
  rw [ByteArray.data_extract, Array.toList_extract, List.extract_eq_take_drop, List.map_take, List.map_drop]
theorem bytesOf_append (s t : ByteArray) : bytesOf (s ++ t) = bytesOf s ++ bytesOf t := by
  unfold bytesOf
  rw [ByteArray.data_append, Array.toList_append, List.map_append]
theorem bytesOf_inj {s t : ByteArray} (h : bytesOf s = bytesOf t) : s = t := by
  rw [← strOfNums_bytesOf s, ← strOfNums_bytesOf t, h]
theorem toList_eq_iff (s t : ByteArray) : s.toList = t.toList ↔ s = t := ⟨toList_inj, fun h => by rw [h]⟩
theorem strOfNums_eq_iff (xs : List Int) (t : ByteArray) (h : ∀ x ∈ xs, 0 ≤ x ∧ x ≤ 255) : strOfNums xs = t ↔ xs = bytesOf t :=
  ⟨fun e => by rw [← e, bytesOf_strOfNums xs h], fun e => by rw [e, strOfNums_bytesOf]⟩
theorem bytesOf_length_drop (s : ByteArray) (i : Nat) : ((bytesOf s).drop i).length = s.size - i := by rw [List.length_drop, bytesOf_length]
theorem wf_u32 {x : Int} (h : (Lit.int .u32 x).wf = true) : 0 ≤ x ∧ x < 4294967296 := by
  simp [Lit.wf, IntKind.min, IntKind.max, IntKind.bits, IntKind.signed] at h
  omega
theorem wf_i64 {x : Int} (h : (Lit.int .i64 x).wf = true) : -9223372036854775808 ≤ x ∧ x ≤ 9223372036854775807 := by
  simp [Lit.wf, IntKind.min, IntKind.max, IntKind.bits, IntKind.signed] at h
  omega
theorem i64_and1_any (x : Int) (_ : -9223372036854775808 ≤ x ∧ x ≤ 9223372036854775807) : Go.bits .and .i64 x 1 = x % 2 := by
  unfold Go.bits
  simp only
  rw [IntKind.wrap_i64, BitVec.toNat_and]
  have h1 : (BitVec.ofInt IntKind.i64.bits 1).toNat = 1 := by decide
  have h2 : (((2 : Nat) ^ IntKind.i64.bits : Nat) : Int) = 18446744073709551616 := by decide
  rw [h1, Nat.and_one_is_mod, BitVec.toNat_ofInt, h2]
  omega
theorem tmod2_zero (x : Int) : Int.tmod x 2 = 0 ↔ x % 2 = 0 := by
  rw [← Int.dvd_iff_tmod_eq_zero, Int.dvd_iff_emod_eq_zero]
/-! Numbers as bytes. -/
def varL (n : Nat) : List Int := if n > 127 then ((n : Int) % 128 + 128) :: varL (n / 128) else [(n : Int)]
termination_by n
decreasing_by omega
theorem varL_big {n : Nat} (h : n > 127) : varL n = ((n : Int) % 128 + 128) :: varL (n / 128) := by rw [varL, if_pos h]
theorem varL_small {n : Nat} (h : ¬ n > 127) : varL n = [(n : Int)] := by rw [varL, if_neg h]
theorem varL_range (n : Nat) : ∀ x ∈ varL n, 0 ≤ x ∧ x ≤ 255 := by
  induction n using Nat.strongRecOn with
  | ind n ih =>
    intro x hx
    by_cases h : n > 127
    · rw [varL_big h] at hx
      rcases List.mem_cons.1 hx with rfl | hx
      · omega
      · exact ih _ (by omega) x hx
    · rw [varL_small h] at hx
      have := List.mem_singleton.1 hx
      omega
theorem varL_length_le (j : Nat) : ∀ n : Nat, n < 128 ^ j → (varL n).length ≤ max j 1 := by
  induction j with
  | zero => intro n hn; simp at hn; subst hn; rw [varL_small (by omega)]; simp
  | succ j ih =>
    intro n hn
    by_cases h : n > 127
    · rw [varL_big h]
      have : n / 128 < 128 ^ j := by rw [Nat.pow_succ] at hn; exact Nat.div_lt_of_lt_mul (by omega)
      have := ih _ this
      cases j with
      | zero => omega
      | succ j => simp only [List.length_cons]; omega
    · rw [varL_small h, List.length_singleton]; omega
theorem varL_length_pos (n : Nat) : 0 < (varL n).length := by
  by_cases h : n > 127
  · rw [varL_big h]; simp
  · rw [varL_small h]; simp
def varB (n : Nat) : ByteArray := strOfNums (varL n)
theorem varB_size (n : Nat) : (varB n).size = (varL n).length := strOfNums_size _
theorem varB_size_le (n : Nat) (h : n ≤ 9223372036854775807) : (varB n).size ≤ 10 := by
  rw [varB_size]
  have := varL_length_le 10 n (by omega)
  omega
theorem i64_and127 (x : Int) (h₀ : 0 ≤ x) (h₁ : x ≤ 9223372036854775807) : Go.bits .and .i64 x 127 = x % 128 :=
  Go.bits_mask .i64 63 (by decide) (fun n a b => by rw [IntKind.wrap_i64]; omega) 7 (by decide) x h₀ (by omega)
theorem i64_and1 (x : Int) (h₀ : 0 ≤ x) (h₁ : x ≤ 9223372036854775807) : Go.bits .and .i64 x 1 = x % 2 :=
  Go.bits_mask .i64 63 (by decide) (fun n a b => by rw [IntKind.wrap_i64]; omega) 1 (by decide) x h₀ (by omega)
theorem i64_or_join (i : Nat) (x y : Int) (hx₀ : 0 ≤ x) (hx : x % 2 ^ i = 0) (hx₁ : x ≤ 9223372036854775807) (hy₀ : 0 ≤ y) (hy : y < 2 ^ i) (hy₁ : y ≤ 9223372036854775807) : Go.bits .or .i64 x y = x + y :=
  Go.bits_join .i64 63 (by decide) (fun n a b => by rw [IntKind.wrap_i64]; omega) i x y hx₀ hx (by omega) hy₀ hy (by omega)
theorem i64_or_comm (x y : Int) : Go.bits .or .i64 x y = Go.bits .or .i64 y x := by
  unfold Go.bits
  simp only [BitVec.or_comm]
theorem i64_or128 (x : Int) (h₀ : 0 ≤ x) (h₁ : x < 128) : Go.bits .or .i64 x 128 = x + 128 := by
  rw [i64_or_comm, i64_or_join 7 128 x (by omega) (by decide) (by omega) h₀ (by omega) (by omega)]
  omega
def shortB (s : ByteArray) : ByteArray := varB s.size ++ s
def shortR (s : ByteArray) : ByteArray × Bool := if (s.size : Int) > 20000 then (⟨#[]⟩, false) else (shortB s, true)
def varR (n : Int) : ByteArray × Bool := if 0 ≤ n ∧ n ≤ 1000000000 then (varB n.toNat, true) else (⟨#[]⟩, false)
/-! Reading a number. -/
def decL : Nat → List Int → Option (Int × Nat)
  | 0, _ => none
  | _ + 1, [] => none
  | f + 1, b :: t => if b < 128 then some (b, 1) else (decL f t).map fun p => (b - 128 + 128 * p.1, p.2 + 1)
def rvL (at_ : Int) (L : List Int) : Int × Int × Bool :=
  match decL 5 L with
  | none => (0, 0, false)
  | some p => if p.1 ≤ 1000000000 ∧ varL p.1.toNat = L.take p.2 then (p.1, at_ + p.2, true) else (0, 0, false)
def rvR (s : ByteArray) (a : Int) : Int × Int × Bool :=
  if 0 ≤ a ∧ a ≤ (s.size : Int) then rvL a ((bytesOf s).drop a.toNat) else (0, 0, false)
theorem decL_pos (f : Nat) : ∀ (l : List Int) (m : Int) (u : Nat), (∀ x ∈ l, 0 ≤ x ∧ x ≤ 255) → decL f l = some (m, u) → 0 ≤ m ∧ m < 128 ^ f ∧ 1 ≤ u ∧ u ≤ f ∧ u ≤ l.length := by
  induction f with
  | zero => intro l m u _ h; simp [decL] at h
  | succ f ih =>
    intro l m u hr h
    cases l with
    | nil => simp [decL] at h
    | cons b t =>
      have hb := hr b (by simp)
      simp only [decL] at h
      have hp : (1 : Int) ≤ 128 ^ f := by have := Nat.one_le_two_pow (n := 7 * f); rw [Nat.pow_mul] at this; exact_mod_cast this
      by_cases c : b < 128
      · rw [if_pos c] at h
        simp only [Option.some.injEq, Prod.mk.injEq] at h
        obtain ⟨rfl, rfl⟩ := h
        refine ⟨hb.1, ?_, by omega, by omega, by simp⟩
        rw [Int.pow_succ]; omega
      · rw [if_neg c] at h
        obtain ⟨⟨m', u'⟩, h1, h2⟩ := Option.map_eq_some_iff.1 h
        simp only [Prod.mk.injEq] at h2
        obtain ⟨rfl, rfl⟩ := h2
        obtain ⟨g1, g2, g3, g4, g5⟩ := ih t m' u' (fun x hx => hr x (by simp [hx])) h1
        refine ⟨by omega, ?_, by omega, by omega, by simp only [List.length_cons]; omega⟩
        rw [Int.pow_succ]; omega
theorem decL_zero (f : Nat) : ∀ (l : List Int) (m : Int) (u : Nat), (∀ x ∈ l, 0 ≤ x ∧ x ≤ 255) → decL f l = some (m, u) → m = 0 → l.getD (u - 1) 0 = 0 := by
  induction f with
  | zero => intro l m u _ h; simp [decL] at h
  | succ f ih =>
    intro l m u hr h hm
    cases l with
    | nil => simp
    | cons b t =>
      have hb := hr b (by simp)
      simp only [decL] at h
      by_cases c : b < 128
      · rw [if_pos c] at h
        simp only [Option.some.injEq, Prod.mk.injEq] at h
        obtain ⟨rfl, rfl⟩ := h
        simpa using hm
      · rw [if_neg c] at h
        obtain ⟨⟨m', u'⟩, h1, h2⟩ := Option.map_eq_some_iff.1 h
        simp only [Prod.mk.injEq] at h2
        obtain ⟨rfl, rfl⟩ := h2
        have hr' : ∀ x ∈ t, 0 ≤ x ∧ x ≤ 255 := fun x hx => hr x (by simp [hx])
        obtain ⟨g1, g2, g3, g4, g5⟩ := decL_pos f t m' u' hr' h1
        have := ih t m' u' hr' h1 (by omega)
        obtain ⟨v, rfl⟩ : ∃ v, u' = v + 1 := ⟨u' - 1, by omega⟩
        simpa using this
theorem decL_canon (f : Nat) : ∀ (l : List Int) (m : Int) (u : Nat), (∀ x ∈ l, 0 ≤ x ∧ x ≤ 255) → decL f l = some (m, u) → (varL m.toNat = l.take u ↔ ¬ (u > 1 ∧ l.getD (u - 1) 0 = 0)) := by
  induction f with
  | zero => intro l m u _ h; simp [decL] at h
  | succ f ih =>
    intro l m u hr h
    cases l with
    | nil => simp [decL] at h
    | cons b t =>
      have hb := hr b (by simp)
      simp only [decL] at h
      by_cases c : b < 128
      · rw [if_pos c] at h
        simp only [Option.some.injEq, Prod.mk.injEq] at h
        obtain ⟨rfl, rfl⟩ := h
        rw [varL_small (by omega)]
        simp
        omega
      · rw [if_neg c] at h
        obtain ⟨⟨m', u'⟩, h1, h2⟩ := Option.map_eq_some_iff.1 h
        simp only [Prod.mk.injEq] at h2
        obtain ⟨rfl, rfl⟩ := h2
        have hr' : ∀ x ∈ t, 0 ≤ x ∧ x ≤ 255 := fun x hx => hr x (by simp [hx])
        obtain ⟨g1, g2, g3, g4, g5⟩ := decL_pos f t m' u' hr' h1
        have hi := ih t m' u' hr' h1
        have hz := decL_zero f t m' u' hr' h1
        obtain ⟨v, rfl⟩ : ∃ v, u' = v + 1 := ⟨u' - 1, by omega⟩
        have e0 : (b :: t).getD (v + 1 + 1 - 1) 0 = t.getD v 0 := by simp
        rw [e0, List.take_succ_cons]
        simp only [Nat.add_sub_cancel] at hi hz
        by_cases z : m' = 0
        · have := hz z
          rw [varL_small (by omega)]
          constructor
          · intro h
            have := (List.cons.inj h).1
            omega
          · intro h
            exact absurd ⟨by omega, this⟩ h
        · rw [varL_big (by omega), show (b - 128 + 128 * m').toNat / 128 = m'.toNat by omega, show (((b - 128 + 128 * m').toNat : Int) % 128 + 128) = b by omega]
          rw [List.cons_inj_right, hi]
          by_cases hv : v = 0
          · subst hv
            have : t.getD 0 0 ≠ 0 := by
              cases f with
              | zero => simp [decL] at h1
              | succ f =>
                cases t with
                | nil => simp [decL] at h1
                | cons y t =>
                  simp only [decL] at h1
                  by_cases c2 : y < 128
                  · rw [if_pos c2] at h1
                    simp only [Option.some.injEq, Prod.mk.injEq] at h1
                    simp; omega
                  · simp; omega
            constructor
            · intro _ h; exact this h.2
            · intro _ h; omega
          · constructor
            · intro h ⟨_, h2⟩; exact h ⟨by omega, h2⟩
            · intro h ⟨_, h2⟩; exact h ⟨by omega, h2⟩
theorem decL_varL (f : Nat) : ∀ (n : Nat) (t : List Int), n < 128 ^ f → 0 < f → decL f (varL n ++ t) = some ((n : Int), (varL n).length) := by
  induction f with
  | zero => intro n t _ h; omega
  | succ f ih =>
    intro n t hn _
    by_cases c : n > 127
    · rw [varL_big c, List.cons_append]
      simp only [decL]
      rw [if_neg (by omega)]
      have h1 : n / 128 < 128 ^ f := by rw [Nat.pow_succ] at hn; exact Nat.div_lt_of_lt_mul (by omega)
      cases f with
      | zero => simp at hn; omega
      | succ f =>
        rw [ih (n / 128) t h1 (by omega)]
        simp only [Option.map_some, List.length_cons, Option.some.injEq, Prod.mk.injEq, and_true]
        omega
    · rw [varL_small c]
      simp only [List.cons_append, List.nil_append, decL]
      rw [if_pos (by omega)]
      simp
/-! Steps of reading a number. -/
theorem decL_step (b : Int) (t : List Int) (f : Nat) : decL (f + 1) (b :: t) = if b < 128 then some (b, 1) else (decL f t).map fun p => (b - 128 + 128 * p.1, p.2 + 1) := rfl
theorem decL_nil (f : Nat) : decL f [] = none := by cases f <;> rfl
/-- What is left to read behind j bytes that go on. -/
def decAt (L : List Int) (j : Nat) (n : Int) : Prop := decL 5 L = (decL (5 - j) (L.drop j)).map fun p => (n + 128 ^ j * p.1, p.2 + j)
theorem decAt_zero (L : List Int) : decAt L 0 0 := by
  unfold decAt
  simp
theorem decAt_end {L : List Int} {j : Nat} {n b : Int} {t : List Int} (h : decAt L j n) (hj : j < 5) (ht : L.drop j = b :: t) (hb : b < 128) : decL 5 L = some (n + 128 ^ j * b, 1 + j) := by
  unfold decAt at h
  rw [h, ht, show 5 - j = (4 - j) + 1 by omega, decL_step, if_pos hb]
  rfl
theorem decAt_next {L : List Int} {j : Nat} {n b : Int} {t : List Int} (h : decAt L j n) (hj : j < 5) (ht : L.drop j = b :: t) (hb : ¬ b < 128) : decAt L (j + 1) (n + 128 ^ j * (b - 128)) := by
  unfold decAt at h ⊢
  have hd : L.drop (j + 1) = t := by rw [← List.drop_drop, ht]; simp
  rw [h, ht, hd, show 5 - j = (4 - j) + 1 by omega, decL_step, if_neg hb, Option.map_map, show 5 - (j + 1) = 4 - j by omega]
  congr 1
  funext p
  simp only [Function.comp, Prod.mk.injEq]
  refine ⟨?_, by omega⟩
  rw [Int.pow_succ, Int.mul_add, Int.mul_assoc, Int.add_assoc]
theorem decAt_short {L : List Int} {j : Nat} {n : Int} (h : decAt L j n) (ht : L.drop j = []) : decL 5 L = none := by
  unfold decAt at h
  rw [h, ht, decL_nil]
  rfl
theorem decAt_over {L : List Int} {n : Int} (h : decAt L 5 n) : decL 5 L = none := by
  unfold decAt at h
  rw [h]
  rfl
theorem rvL_none {a : Int} {L : List Int} (h : decL 5 L = none) : rvL a L = (0, 0, false) := by unfold rvL; rw [h]
theorem rvL_good {a : Int} {L : List Int} {n : Int} {u : Nat} (h : decL 5 L = some (n, u)) (h1 : n ≤ 1000000000) (h2 : varL n.toNat = L.take u) : rvL a L = (n, a + u, true) := by
  unfold rvL; rw [h]; simp only; rw [if_pos ⟨h1, h2⟩]
theorem rvL_bad {a : Int} {L : List Int} {n : Int} {u : Nat} (h : decL 5 L = some (n, u)) (h1 : ¬ (n ≤ 1000000000 ∧ varL n.toNat = L.take u)) : rvL a L = (0, 0, false) := by
  unfold rvL; rw [h]; simp only; rw [if_neg h1]
theorem rvL_tells {a : Int} {L : List Int} {n nx : Int} (hr : ∀ x ∈ L, 0 ≤ x ∧ x ≤ 255) (h : rvL a L = (n, nx, true)) : ∃ u : Nat, 0 ≤ n ∧ n ≤ 1000000000 ∧ varL n.toNat = L.take u ∧ nx = a + u ∧ 1 ≤ u ∧ u ≤ L.length ∧ u ≤ 5 := by
  unfold rvL at h
  cases h5 : decL 5 L with
  | none => rw [h5] at h; simp at h
  | some p =>
    obtain ⟨m, u⟩ := p
    rw [h5] at h
    simp only at h
    by_cases c : m ≤ 1000000000 ∧ varL m.toNat = L.take u
    · rw [if_pos c] at h
      simp only [Prod.mk.injEq, and_true] at h
      obtain ⟨rfl, rfl⟩ := h
      obtain ⟨g1, g2, g3, g4, g5⟩ := decL_pos 5 L m u hr h5
      exact ⟨u, g1, c.1, c.2, rfl, g3, g5, g4⟩
    · rw [if_neg c] at h
      simp at h
theorem rvL_reads (a : Int) (n : Nat) (t : List Int) (h : n ≤ 1000000000) : rvL a (varL n ++ t) = ((n : Int), a + (varL n).length, true) :=
  rvL_good (decL_varL 5 n t (by omega) (by omega)) (by omega) (by simp)
theorem pow128 (j : Nat) (hj : j < 5) : (128 : Int) ^ j = 1 ∧ j = 0 ∨ (128 : Int) ^ j = 128 ∧ j = 1 ∨ (128 : Int) ^ j = 16384 ∧ j = 2 ∨ (128 : Int) ^ j = 2097152 ∧ j = 3 ∨ (128 : Int) ^ j = 268435456 ∧ j = 4 := by
  have : j = 0 ∨ j = 1 ∨ j = 2 ∨ j = 3 ∨ j = 4 := by omega
  rcases this with rfl | rfl | rfl | rfl | rfl <;> simp
theorem rv_mul (j : Nat) (hj : j < 5) (n b : Int) (hn0 : 0 ≤ n) (hn : n < 128 ^ j) (hb0 : 0 ≤ b) (hb : b ≤ 255) :
    wrap64 (n + wrap64 (Int.tmod (wrap64 b) 128 * 128 ^ j)) = n + 128 ^ j * (b % 128) ∧ 0 ≤ n + 128 ^ j * (b % 128) ∧ n + 128 ^ j * (b % 128) < 128 ^ (j + 1) ∧ n + 128 ^ j * (b % 128) ≤ 34359738368 := by
  rw [w64 (n := b) (by omega) (by omega), Int.tmod_eq_emod_of_nonneg hb0, Int.pow_succ]
  rcases pow128 j hj with ⟨h, _⟩ | ⟨h, _⟩ | ⟨h, _⟩ | ⟨h, _⟩ | ⟨h, _⟩ <;> (rw [h] at hn ⊢; rw [w64 (n := b % 128 * _) (by omega) (by omega), w64 (by omega) (by omega)]; omega)
theorem rv_or (j : Nat) (hj : j < 5) (n b : Int) (hn0 : 0 ≤ n) (hn : n < 128 ^ j) (hb0 : 0 ≤ b) (hb : b ≤ 255) :
    Go.bits .or .i64 n (shl .i64 (Go.bits .and .i64 (wrap64 b) 127) (wrap64 (7 * (j : Int)))) = n + 128 ^ j * (b % 128) := by
  rw [w64 (n := b) (by omega) (by omega), w64 (n := 7 * (j : Int)) (by omega) (by omega), i64_and127 b hb0 (by omega)]
  unfold shl
  rw [IntKind.wrap_i64]
  have e : min (7 * (j : Int)).toNat IntKind.i64.bits = 7 * j := by
    have : IntKind.i64.bits = 64 := rfl
    omega
  rw [e, i64_or_comm]
  have hj' : j = 0 ∨ j = 1 ∨ j = 2 ∨ j = 3 ∨ j = 4 := by omega
  rcases hj' with rfl | rfl | rfl | rfl | rfl
  · simp only [Nat.mul_zero, Int.pow_zero, Int.mul_one, Int.one_mul] at hn ⊢
    rw [show n = 0 by omega, show (b % 128 + 9223372036854775808) % 18446744073709551616 - 9223372036854775808 = b % 128 by omega, i64_or_join 0 (b % 128) 0 (by omega) (by simp) (by omega) (by omega) (by omega) (by omega)]
    omega
  · rw [show (128 : Int) ^ 1 = 128 by decide] at hn ⊢
    rw [show (b % 128 * 2 ^ (7 * 1) + 9223372036854775808) % 18446744073709551616 - 9223372036854775808 = 128 * (b % 128) by omega, i64_or_join 7 (128 * (b % 128)) n (by omega) (by omega) (by omega) (by omega) (by omega) (by omega)]
    omega
  · rw [show (128 : Int) ^ 2 = 16384 by decide] at hn ⊢
    rw [show (b % 128 * 2 ^ (7 * 2) + 9223372036854775808) % 18446744073709551616 - 9223372036854775808 = 16384 * (b % 128) by omega, i64_or_join 14 (16384 * (b % 128)) n (by omega) (by omega) (by omega) (by omega) (by omega) (by omega)]
    omega
  · rw [show (128 : Int) ^ 3 = 2097152 by decide] at hn ⊢
    rw [show (b % 128 * 2 ^ (7 * 3) + 9223372036854775808) % 18446744073709551616 - 9223372036854775808 = 2097152 * (b % 128) by omega, i64_or_join 21 (2097152 * (b % 128)) n (by omega) (by omega) (by omega) (by omega) (by omega) (by omega)]
    omega
  · rw [show (128 : Int) ^ 4 = 268435456 by decide] at hn ⊢
    rw [show (b % 128 * 2 ^ (7 * 4) + 9223372036854775808) % 18446744073709551616 - 9223372036854775808 = 268435456 * (b % 128) by omega, i64_or_join 28 (268435456 * (b % 128)) n (by omega) (by omega) (by omega) (by omega) (by omega) (by omega)]
    omega
/-! Sums. -/
def sumStep (x : Int) : Int := if x % 2 = 1 then Go.bits .xor .u32 (x / 2) 3558460437 else x / 2
def sumSteps : Nat → Int → Int
  | 0, x => x
  | n + 1, x => sumSteps n (sumStep x)
def sumByte (x b : Int) : Int := sumSteps 8 (Go.bits .xor .u32 x b)
def sumL : Int → List Int → Int
  | x, [] => x
  | x, b :: t => sumL (sumByte x b) t
def sumR (x : Int) (s : ByteArray) : Int := sumL x (bytesOf s)
def fourB (n : Int) : ByteArray := strOfNums ([(n / 16777216) % 256, (n / 65536) % 256, (n / 256) % 256, n % 256] : List Int)
def sealB (s : ByteArray) : ByteArray := fourB (sumR 4294967295 s)
theorem bits_u32_range (o : BinOp) (x y : Int) (h : o = .xor) : 0 ≤ Go.bits o .u32 x y ∧ Go.bits o .u32 x y < 4294967296 := by
  subst h
  unfold Go.bits
  simp only
  rw [IntKind.wrap_u32]
  omega
theorem sumStep_range (x : Int) (h : 0 ≤ x ∧ x < 4294967296) : 0 ≤ sumStep x ∧ sumStep x < 4294967296 := by
  unfold sumStep
  split
  · exact bits_u32_range _ _ _ rfl
  · omega
theorem sumSteps_range (n : Nat) : ∀ x : Int, 0 ≤ x ∧ x < 4294967296 → 0 ≤ sumSteps n x ∧ sumSteps n x < 4294967296 := by
  induction n with
  | zero => exact fun x h => h
  | succ n ih => exact fun x h => ih _ (sumStep_range x h)
theorem sumByte_range (x b : Int) : 0 ≤ sumByte x b ∧ sumByte x b < 4294967296 := sumSteps_range 8 _ (bits_u32_range _ _ _ rfl)
theorem sumL_range (l : List Int) : ∀ x : Int, 0 ≤ x ∧ x < 4294967296 → 0 ≤ sumL x l ∧ sumL x l < 4294967296 := by
  induction l with
  | nil => exact fun x h => h
  | cons b t ih => exact fun x _ => ih _ (sumByte_range x b)
theorem sumR_range (x : Int) (s : ByteArray) (h : 0 ≤ x ∧ x < 4294967296) : 0 ≤ sumR x s ∧ sumR x s < 4294967296 := sumL_range _ x h
theorem u32_and1 (x : Int) (h : 0 ≤ x ∧ x < 4294967296) : Go.bits .and .u32 x 1 = x % 2 :=
  Go.bits_mask .u32 32 (by decide) (fun n a b => by rw [IntKind.wrap_u32]; omega) 1 (by decide) x h.1 (by omega)
theorem fourB_size (n : Int) : (fourB n).size = 4 := by unfold fourB; rw [strOfNums_size]; rfl
theorem sealB_size (s : ByteArray) : (sealB s).size = 4 := fourB_size _
def sealedR (s : ByteArray) : ByteArray × Bool := if (s.size : Int) > 20000 then (⟨#[]⟩, false) else (s ++ sealB s, true)
/-! Figures of bytes. -/
def fig (x : Int) : Int := if x < 10 then 48 + x else 87 + x
def hexL : List Int → List Int
  | [] => []
  | b :: t => fig (b / 16) :: fig (b % 16) :: hexL t
def hexR (s : ByteArray) : ByteArray × Bool := if (s.size : Int) > 20000 then (⟨#[]⟩, false) else (strOfNums (hexL (bytesOf s)), true)
theorem fig_range (x : Int) (h0 : 0 ≤ x) (h : x < 16) : 48 ≤ fig x ∧ fig x ≤ 102 := by unfold fig; split <;> omega
theorem bt_figs (x : Int) (h0 : 0 ≤ x) (h : x < 16) : bt (⟨#[48, 49, 50, 51, 52, 53, 54, 55, 56, 57, 97, 98, 99, 100, 101, 102]⟩ : ByteArray) x = fig x := by
  have : x = 0 ∨ x = 1 ∨ x = 2 ∨ x = 3 ∨ x = 4 ∨ x = 5 ∨ x = 6 ∨ x = 7 ∨ x = 8 ∨ x = 9 ∨ x = 10 ∨ x = 11 ∨ x = 12 ∨ x = 13 ∨ x = 14 ∨ x = 15 := by omega
  rcases this with rfl | rfl | rfl | rfl | rfl | rfl | rfl | rfl | rfl | rfl | rfl | rfl | rfl | rfl | rfl | rfl <;> rfl
/-! A sum tells any one byte that is turned. -/
theorem bits_xor_u32 (a b : Int) (ha : 0 ≤ a ∧ a < 4294967296) (hb : 0 ≤ b ∧ b < 4294967296) : Go.bits .xor .u32 a b = ((a.toNat ^^^ b.toNat : Nat) : Int) := by
  obtain ⟨x, rfl⟩ := Int.eq_ofNat_of_zero_le ha.1
  obtain ⟨y, rfl⟩ := Int.eq_ofNat_of_zero_le hb.1
  unfold Go.bits
  simp only [BitVec.ofInt_natCast, BitVec.toNat_xor, BitVec.toNat_ofNat, Int.toNat_natCast]
  have e : (2 : Nat) ^ IntKind.u32.bits = 4294967296 := by decide
  rw [e, Nat.mod_eq_of_lt (by omega), Nat.mod_eq_of_lt (by omega), IntKind.wrap_u32]
  have := Nat.xor_lt_two_pow (n := 32) (show x < 2 ^ 32 by omega) (show y < 2 ^ 32 by omega)
  omega
theorem nat_xor_cancel (a b p : Nat) (h : a ^^^ p = b ^^^ p) : a = b := by
  have := congrArg (fun z => z ^^^ p) h
  simpa [Nat.xor_assoc] using this
theorem nat_xor_cancel_left (a b p : Nat) (h : p ^^^ a = p ^^^ b) : a = b := by
  rw [Nat.xor_comm p a, Nat.xor_comm p b] at h
  exact nat_xor_cancel a b p h
theorem xor_high (a : Nat) (h : a < 2147483648) : a ^^^ 3558460437 ≥ 2147483648 := by
  have : (a ^^^ 3558460437).testBit 31 = true := by
    rw [Nat.testBit_xor, Nat.testBit_lt_two_pow (show a < 2 ^ 31 by omega)]
    decide
  exact Nat.ge_two_pow_of_testBit this
theorem sumStep_inj (x y : Int) (hx : 0 ≤ x ∧ x < 4294967296) (hy : 0 ≤ y ∧ y < 4294967296) (h : sumStep x = sumStep y) : x = y := by
  unfold sumStep at h
  have gx := xor_high (x / 2).toNat (by omega)
  have gy := xor_high (y / 2).toNat (by omega)
  rw [bits_xor_u32 (x / 2) _ (by omega) (by omega), bits_xor_u32 (y / 2) _ (by omega) (by omega)] at h
  have e : (3558460437 : Int).toNat = 3558460437 := rfl
  rw [e] at h
  by_cases cx : x % 2 = 1
  · rw [if_pos cx] at h
    by_cases cy : y % 2 = 1
    · rw [if_pos cy] at h
      have := nat_xor_cancel _ _ _ (Int.ofNat.inj h)
      omega
    · rw [if_neg cy] at h
      omega
  · rw [if_neg cx] at h
    by_cases cy : y % 2 = 1
    · rw [if_pos cy] at h
      omega
    · rw [if_neg cy] at h
      omega
theorem sumSteps_inj (n : Nat) : ∀ x y : Int, 0 ≤ x ∧ x < 4294967296 → 0 ≤ y ∧ y < 4294967296 → sumSteps n x = sumSteps n y → x = y := by
  induction n with
  | zero => exact fun x y _ _ h => h
  | succ n ih => exact fun x y hx hy h => sumStep_inj x y hx hy (ih _ _ (sumStep_range x hx) (sumStep_range y hy) h)
theorem sumByte_inj_left (x y b : Int) (hx : 0 ≤ x ∧ x < 4294967296) (hy : 0 ≤ y ∧ y < 4294967296) (hb : 0 ≤ b ∧ b ≤ 255) (h : sumByte x b = sumByte y b) : x = y := by
  have := sumSteps_inj 8 _ _ (bits_u32_range _ x b rfl) (bits_u32_range _ y b rfl) h
  rw [bits_xor_u32 x b hx (by omega), bits_xor_u32 y b hy (by omega)] at this
  have := nat_xor_cancel _ _ _ (Int.ofNat.inj this)
  omega
theorem sumByte_inj_right (x b c : Int) (hx : 0 ≤ x ∧ x < 4294967296) (hb : 0 ≤ b ∧ b ≤ 255) (hc : 0 ≤ c ∧ c ≤ 255) (h : sumByte x b = sumByte x c) : b = c := by
  have := sumSteps_inj 8 _ _ (bits_u32_range _ x b rfl) (bits_u32_range _ x c rfl) h
  rw [bits_xor_u32 x b hx (by omega), bits_xor_u32 x c hx (by omega)] at this
  have := nat_xor_cancel_left _ _ _ (Int.ofNat.inj this)
  omega
theorem sumL_inj (l : List Int) (hl : ∀ x ∈ l, 0 ≤ x ∧ x ≤ 255) : ∀ x y : Int, 0 ≤ x ∧ x < 4294967296 → 0 ≤ y ∧ y < 4294967296 → sumL x l = sumL y l → x = y := by
  induction l with
  | nil => exact fun x y _ _ h => h
  | cons b t ih =>
    intro x y hx hy h
    exact sumByte_inj_left x y b hx hy (hl b (by simp)) (ih (fun z hz => hl z (by simp [hz])) _ _ (sumByte_range x b) (sumByte_range y b) h)
theorem sumL_append (l m : List Int) : ∀ x : Int, sumL x (l ++ m) = sumL (sumL x l) m := by
  induction l with
  | nil => exact fun x => rfl
  | cons b t ih => exact fun x => ih _
theorem sumR_append (x : Int) (s t : ByteArray) : sumR x (s ++ t) = sumR (sumR x s) t := by unfold sumR; rw [bytesOf_append, sumL_append]
theorem sumL_turned (x : Int) (hx : 0 ≤ x ∧ x < 4294967296) (l m : List Int) (b c : Int) (hm : ∀ x ∈ m, 0 ≤ x ∧ x ≤ 255) (hb : 0 ≤ b ∧ b ≤ 255) (hc : 0 ≤ c ∧ c ≤ 255) (hbc : b ≠ c) : sumL x (l ++ b :: m) ≠ sumL x (l ++ c :: m) := by
  intro h
  rw [sumL_append, sumL_append] at h
  exact hbc (sumByte_inj_right _ b c (sumL_range l x hx) hb hc (sumL_inj m hm _ _ (sumByte_range _ b) (sumByte_range _ c) h))
theorem four_inj (m n : Int) (hm : 0 ≤ m ∧ m < 4294967296) (hn : 0 ≤ n ∧ n < 4294967296) (h : fourB m = fourB n) : m = n := by
  have h1 : bytesOf (fourB m) = bytesOf (fourB n) := by rw [h]
  unfold fourB at h1
  rw [bytesOf_strOfNums _ (by intro x hx; simp at hx; omega), bytesOf_strOfNums _ (by intro x hx; simp at hx; omega)] at h1
  simp only [List.cons.injEq, and_true] at h1
  omega
/-! Short texts read, sealed texts opened. -/
theorem rvR_tells (s : ByteArray) (a n nx : Int) (h : rvR s a = (n, nx, true)) : ∃ u : Nat, 0 ≤ a ∧ 0 ≤ n ∧ n ≤ 1000000000 ∧ nx = a + u ∧ 1 ≤ u ∧ u ≤ 5 ∧ nx ≤ (s.size : Int) ∧ varL n.toNat = ((bytesOf s).drop a.toNat).take u := by
  unfold rvR at h
  by_cases c : 0 ≤ a ∧ a ≤ (s.size : Int)
  · rw [if_pos c] at h
    obtain ⟨u, h1, h2, h3, h4, h5, h6, h7⟩ := rvL_tells (fun x hx => bytesOf_range s x (List.mem_of_mem_drop hx)) h
    rw [bytesOf_length_drop] at h6
    exact ⟨u, c.1, h1, h2, h4, h5, h7, by omega, h3⟩
  · rw [if_neg c] at h
    simp at h
theorem rvR_no (s : ByteArray) (a n nx : Int) (h : rvR s a = (n, nx, false)) : n = 0 ∧ nx = 0 := by
  unfold rvR rvL at h
  split at h
  · split at h
    · simp only [Prod.mk.injEq, and_true] at h; omega
    · split at h
      · simp at h
      · simp only [Prod.mk.injEq, and_true] at h; omega
  · simp only [Prod.mk.injEq, and_true] at h; omega
def rsR (s : ByteArray) (a : Int) : ByteArray × Int × Bool :=
  if (rvR s a).2.2 = true ∧ (rvR s a).1 ≤ 20000 ∧ (rvR s a).1 ≤ (s.size : Int) - (rvR s a).2.1 then (s.extract (rvR s a).2.1.toNat ((rvR s a).2.1 + (rvR s a).1).toNat, (rvR s a).2.1 + (rvR s a).1, true) else (⟨#[]⟩, 0, false)
def unsealedR (s : ByteArray) : ByteArray × Bool :=
  if 4 ≤ s.size ∧ s.size ≤ 20004 ∧ s.extract (s.size - 4) s.size = sealB (s.extract 0 (s.size - 4)) then (s.extract 0 (s.size - 4), true) else (⟨#[]⟩, false)
theorem extract_size_le (s : ByteArray) (a b : Nat) : (s.extract a b).size ≤ s.size := by
  have : (bytesOf (s.extract a b)).length ≤ s.size := by
    rw [bytesOf_extract, List.length_take, bytesOf_length_drop]; omega
  rwa [bytesOf_length] at this
/-! Lists gone through. -/
section
variable {α β : Type}
theorem drop_rdOf (d : α) (xs : List α) (i : Nat) (h : i < xs.length) : xs.drop i = rdOf d xs (i : Int) :: xs.drop (i + 1) := by
  rw [List.drop_eq_getElem_cons h]
  congr 1
  unfold rdOf
  rw [Int.toNat_natCast]
  simp [List.getD, h]
theorem drop_rd (xs : List Int) (i : Nat) (h : i < xs.length) : xs.drop i = rd xs (i : Int) :: xs.drop (i + 1) := by
  rw [List.drop_eq_getElem_cons h]
  congr 1
  unfold rd
  rw [Int.toNat_natCast]
  simp [List.getD, h]
theorem rdOf_get (d : α) (xs : List α) (i : Nat) (h : i < xs.length) : rdOf d xs (i : Int) = xs[i] := by
  unfold rdOf
  rw [Int.toNat_natCast]
  simp [List.getD, h]
theorem rd_get (xs : List Int) (i : Nat) (h : i < xs.length) : rd xs (i : Int) = xs[i] := by
  unfold rd
  rw [Int.toNat_natCast]
  simp [List.getD, h]
theorem rdOf_mem (d : α) (xs : List α) (i : Nat) (h : i < xs.length) : rdOf d xs (i : Int) ∈ xs := by
  rw [rdOf_get d xs i h]; exact List.getElem_mem h
theorem rd_mem (xs : List Int) (i : Nat) (h : i < xs.length) : rd xs (i : Int) ∈ xs := by
  rw [rd_get xs i h]; exact List.getElem_mem h
theorem set_mid (pre t : List α) (x v : α) (i : Nat) (h : pre.length = i) : (pre ++ x :: t).set i v = pre ++ v :: t := by
  subst h
  rw [List.set_append_right _ _ (Nat.le_refl _)]
  simp
theorem rdOf_mid (d : α) (pre t : List α) (x : α) (i : Nat) (h : pre.length = i) : rdOf d (pre ++ x :: t) (i : Int) = x := by
  subst h
  unfold rdOf
  rw [Int.toNat_natCast]
  simp [List.getD]
theorem rd_mid (pre t : List Int) (x : Int) (i : Nat) (h : pre.length = i) : rd (pre ++ x :: t) (i : Int) = x := by
  subst h
  unfold rd
  rw [Int.toNat_natCast]
  simp [List.getD]
/-- What is left of a measure behind a list. -/
def szL (w : α → Int) : List α → Int → Int
  | [], left => left
  | x :: t, left => if left - w x < 0 then -1 else szL w t (left - w x)
def szR (w : α → Int) (l : List α) (left : Int) : Int := if left - (l.length : Int) < 0 then -1 else szL w l (left - (l.length : Int))
def sumW (w : α → Int) : List α → Int
  | [] => 0
  | x :: t => w x + sumW w t
theorem sumW_nonneg (w : α → Int) (l : List α) (h : ∀ x ∈ l, 0 ≤ w x) : 0 ≤ sumW w l := by
  induction l with
  | nil => exact Int.le_refl 0
  | cons x t ih =>
    have h1 := h x (by simp)
    have h2 := ih (fun y hy => h y (by simp [hy]))
    unfold sumW
    omega
theorem sumW_mem (w : α → Int) (l : List α) (h : ∀ x ∈ l, 0 ≤ w x) : ∀ x ∈ l, w x ≤ sumW w l := by
  induction l with
  | nil => intro x hx; cases hx
  | cons y t ih =>
    intro x hx
    have h0 := h y (by simp)
    have h1 := sumW_nonneg w t (fun z hz => h z (by simp [hz]))
    unfold sumW
    rcases List.mem_cons.1 hx with rfl | hx
    · omega
    · have := ih (fun z hz => h z (by simp [hz])) x hx
      omega
theorem szL_tells (w : α → Int) (l : List α) (h : ∀ x ∈ l, 0 ≤ w x) : ∀ left : Int, 0 ≤ szL w l left → szL w l left = left - sumW w l := by
  induction l with
  | nil => intro left _; unfold szL sumW; omega
  | cons x t ih =>
    intro left hl
    unfold szL at hl ⊢
    unfold sumW
    split
    · rename_i hc; rw [if_pos hc] at hl; omega
    · rename_i hc
      rw [if_neg hc] at hl
      rw [ih (fun y hy => h y (by simp [hy])) _ hl]
      omega
theorem szR_tells (w : α → Int) (l : List α) (h : ∀ x ∈ l, 0 ≤ w x) (left : Int) (hl : 0 ≤ szR w l left) : szR w l left = left - (l.length : Int) - sumW w l ∧ 0 ≤ sumW w l := by
  unfold szR at hl ⊢
  have h0 := sumW_nonneg w l h
  split
  · rename_i hc; rw [if_pos hc] at hl; omega
  · rename_i hc
    rw [if_neg hc] at hl
    exact ⟨szL_tells w l h _ hl, h0⟩
theorem szR_le (w : α → Int) (l : List α) (h : ∀ x ∈ l, 0 ≤ w x) (left : Int) (h0 : 0 ≤ szR w l left) : szR w l left ≤ left := by
  have := szR_tells w l h left h0
  omega
end
/-! Marks. -/
def mtB (n : Nat) (acc : ByteArray) : ByteArray := if n = 0 then (⟨#[109]⟩ : ByteArray) ++ acc else mtB (n / 10) (strOfNums [(48 + (n : Int) % 10) % 256] ++ acc)
termination_by n
decreasing_by omega
def mtR (k : Int) : ByteArray := if k ≤ 0 then ⟨#[109, 48]⟩ else mtB k.toNat ⟨#[]⟩
theorem mtB_zero (acc : ByteArray) : mtB 0 acc = (⟨#[109]⟩ : ByteArray) ++ acc := by rw [mtB, if_pos rfl]
theorem mtB_pos {n : Nat} (h : n ≠ 0) (acc : ByteArray) : mtB n acc = mtB (n / 10) (strOfNums [(48 + (n : Int) % 10) % 256] ++ acc) := by rw [mtB, if_neg h]
def marksS (k : Int) : Nat → List ByteArray
  | 0 => []
  | n + 1 => mtR k :: marksS (k + 1) n
theorem marksS_length (n : Nat) : ∀ k, (marksS k n).length = n := by
  induction n with
  | zero => intro k; rfl
  | succ n ih => intro k; unfold marksS; rw [List.length_cons, ih]
def marksI (k : Int) : Nat → List Int
  | 0 => []
  | n + 1 => k :: marksI (k + 1) n
theorem marksI_length (n : Nat) : ∀ k, (marksI k n).length = n := by
  induction n with
  | zero => intro k; rfl
  | succ n ih => intro k; unfold marksI; rw [List.length_cons, ih]
def bwt (s : ByteArray) : Int := (s.size : Int)
theorem bwt_nonneg (s : ByteArray) : 0 ≤ bwt s := by unfold bwt; omega
/-! Places of keys. -/
def poL (s : ByteArray) : List ByteArray → Int → Int → Int
  | [], _, o => o
  | x :: t, i, o => if Op.bytesLess s.toList x.toList = true then poL s t (i + 1) o else poL s t (i + 1) i
/-! The order of texts; what is drawn. -/
theorem i64_and_range (y m : Int) (h0 : 0 ≤ m) (h1 : m ≤ 9223372036854775807) : 0 ≤ Go.bits .and .i64 y m ∧ Go.bits .and .i64 y m ≤ m := by
  unfold Go.bits
  simp only
  rw [IntKind.wrap_i64, BitVec.toNat_and]
  have h2 : (2 : Nat) ^ IntKind.i64.bits = 18446744073709551616 := by decide
  have h3 : (BitVec.ofInt IntKind.i64.bits m).toNat = m.toNat := by
    rw [BitVec.toNat_ofInt, h2]; omega
  rw [h3]
  have := Nat.and_le_right (n := (BitVec.ofInt IntKind.i64.bits y).toNat) (m := m.toNat)
  omega
theorem bl_nil_right (x : List UInt8) : Op.bytesLess x [] = false := by cases x <;> rfl
theorem bl_cons (a b : UInt8) (x y : List UInt8) : Op.bytesLess (a :: x) (b :: y) = (a < b || (a == b && Op.bytesLess x y)) := rfl
theorem bl_irrefl (x : List UInt8) : Op.bytesLess x x = false := by
  induction x with
  | nil => rfl
  | cons a x ih => rw [bl_cons, ih]; simp
theorem bl_cons_iff (a b : UInt8) (x y : List UInt8) : Op.bytesLess (a :: x) (b :: y) = true ↔ a.toNat < b.toNat ∨ (a = b ∧ Op.bytesLess x y = true) := by
  rw [bl_cons]
  simp [UInt8.lt_iff_toNat_lt]
theorem bl_trans (x : List UInt8) : ∀ y z : List UInt8, Op.bytesLess x y = true → Op.bytesLess y z = true → Op.bytesLess x z = true := by
  induction x with
  | nil =>
    intro y z h1 h2
    cases z with
    | nil => rw [bl_nil_right] at h2; cases h2
    | cons c z => rfl
  | cons a x ih =>
    intro y z h1 h2
    cases y with
    | nil => rw [bl_nil_right] at h1; cases h1
    | cons b y =>
      cases z with
      | nil => rw [bl_nil_right] at h2; cases h2
      | cons c z =>
        rw [bl_cons_iff] at h1 h2 ⊢
        rcases h1 with h1 | ⟨rfl, h1⟩
        · rcases h2 with h2 | ⟨rfl, h2⟩
          · exact .inl (by omega)
          · exact .inl h1
        · rcases h2 with h2 | ⟨rfl, h2⟩
          · exact .inl h2
          · exact .inr ⟨rfl, ih y z h1 h2⟩
theorem bl_asymm (x y : List UInt8) (h : Op.bytesLess x y = true) : ¬ Op.bytesLess y x = true := by
  intro h2
  have := bl_trans x y x h h2
  rw [bl_irrefl] at this
  cases this
theorem bl_snoc (x : List UInt8) (c : UInt8) : Op.bytesLess x (x ++ [c]) = true := by
  induction x with
  | nil => rfl
  | cons a x ih => rw [List.cons_append, bl_cons_iff]; exact .inr ⟨rfl, ih⟩
theorem bl_snoc_snoc (x : List UInt8) (c d : UInt8) (h : c.toNat < d.toNat) : Op.bytesLess (x ++ [c]) (x ++ [d]) = true := by
  induction x with
  | nil => exact (bl_cons_iff c d [] []).2 (.inl h)
  | cons a x ih => rw [List.cons_append, List.cons_append, bl_cons_iff]; exact .inr ⟨rfl, ih⟩
theorem toList_append (s t : ByteArray) : (s ++ t).toList = s.toList ++ t.toList := by
  rw [ByteArray.toList_eq, ByteArray.toList_eq, ByteArray.toList_eq, ByteArray.data_append, Array.toList_append]
theorem poL_split (s : ByteArray) (l m : List ByteArray) (hl : ∀ x ∈ l, ¬ Op.bytesLess s.toList x.toList = true) (hm : ∀ x ∈ m, Op.bytesLess s.toList x.toList = true) : ∀ i o : Int, poL s (l ++ m) i o = if l.length = 0 then o else i + l.length - 1 := by
  have hm' : ∀ i o : Int, poL s m i o = o := by
    clear hl
    induction m with
    | nil => intro i o; rfl
    | cons x t ih =>
      intro i o
      unfold poL
      rw [if_pos (hm x (by simp))]
      exact ih (fun y hy => hm y (by simp [hy])) _ _
  induction l with
  | nil => intro i o; rw [List.nil_append, hm']; rfl
  | cons x t ih =>
    intro i o
    rw [List.cons_append]
    unfold poL
    rw [if_neg (hl x (by simp)), ih (fun y hy => hl y (by simp [hy]))]
    simp only [List.length_cons]
    split <;> split <;> omega
/-- Each key ends, with a figure nought behind it, ahead of all later ones. -/
def Asc (l : List ByteArray) : Prop := ∀ i j : Nat, (hij : i < j) → (hj : j < l.length) → Op.bytesLess ((l[i]'(by omega)).toList ++ [48]) (l[j]).toList = true
theorem Asc.nil : Asc [] := fun i j _ hj => by simp at hj
theorem Asc.snoc {l : List ByteArray} (h : Asc l) (k : ByteArray) (hk : ∀ x, l.getLast? = some x → Op.bytesLess (x.toList ++ [48]) k.toList = true) : Asc (l ++ [k]) := by
  intro i j hij hj
  rw [List.length_append, List.length_singleton] at hj
  by_cases c : j < l.length
  · rw [List.getElem_append_left (by omega), List.getElem_append_left c]
    exact h i j hij c
  · have hj' : j = l.length := by omega
    subst hj'
    rw [List.getElem_append_left hij]
    have hlast : l.getLast? = some (l[l.length - 1]'(by omega)) := by
      rw [List.getLast?_eq_getElem?, List.getElem?_eq_getElem (by omega)]
    have hk' := hk _ hlast
    have he : (l ++ [k])[l.length]'(by simp) = k := by simp
    rw [he]
    by_cases ci : i = l.length - 1
    · subst ci; exact hk'
    · exact bl_trans _ _ _ (h i (l.length - 1) (by omega) (by omega)) (bl_trans _ _ _ (bl_snoc _ 48) hk')
theorem Asc.place {l : List ByteArray} (h : Asc l) (i : Nat) (hi : i < l.length) : poL (l[i]) l 0 (-1) = i ∧ poL (l[i] ++ (⟨#[48]⟩ : ByteArray)) l 0 (-1) = i := by
  have hlow : ∀ x ∈ l.take (i + 1), ¬ Op.bytesLess (l[i]).toList x.toList = true := by
    intro x hx
    obtain ⟨j, hj, rfl⟩ := List.getElem_of_mem hx
    rw [List.length_take] at hj
    rw [List.getElem_take]
    by_cases c : j = i
    · subst c; rw [bl_irrefl]; decide
    · exact bl_asymm _ _ (bl_trans _ _ _ (bl_snoc _ 48) (h j i (by omega) hi))
  have hlow2 : ∀ x ∈ l.take (i + 1), ¬ Op.bytesLess ((l[i]).toList ++ [48]) x.toList = true := by
    intro x hx hb
    exact hlow x hx (bl_trans _ _ _ (bl_snoc _ 48) hb)
  have hhigh : ∀ x ∈ l.drop (i + 1), Op.bytesLess ((l[i]).toList ++ [48]) x.toList = true := by
    intro x hx
    obtain ⟨j, hj, rfl⟩ := List.getElem_of_mem hx
    rw [List.length_drop] at hj
    rw [List.getElem_drop]
    exact h i (i + 1 + j) (by omega) (by omega)
  have hlen : (l.take (i + 1)).length = i + 1 := by rw [List.length_take]; omega
  constructor
  · have key := poL_split (l[i]) (l.take (i + 1)) (l.drop (i + 1)) hlow (fun x hx => bl_trans _ _ _ (bl_snoc _ 48) (hhigh x hx)) 0 (-1)
    rw [List.take_append_drop, hlen] at key
    rw [key]
    simp
  · have e : (l[i] ++ (⟨#[48]⟩ : ByteArray)).toList = (l[i]).toList ++ [48] := by
      rw [toList_append, ByteArray.toList_eq (⟨#[48]⟩ : ByteArray)]
    have key := poL_split (l[i] ++ (⟨#[48]⟩ : ByteArray)) (l.take (i + 1)) (l.drop (i + 1)) (by rw [e]; exact hlow2) (by rw [e]; exact hhigh) 0 (-1)
    rw [List.take_append_drop, hlen] at key
    rw [key]
    simp
/-! Letters, ranges. -/
def lettersL (l : List Int) : Bool := l.all fun b => decide (97 ≤ b ∧ b ≤ 122)
def wordR (s : ByteArray) (most : Int) : Bool := lettersL (bytesOf s) && decide (1 ≤ (s.size : Int) ∧ (s.size : Int) ≤ most)
theorem lettersL_cons (b : Int) (t : List Int) : lettersL (b :: t) = (decide (97 ≤ b ∧ b ≤ 122) && lettersL t) := rfl
theorem idxP_step {α : Type} (p : α → Bool) (x : α) (t : List α) (i : Int) : idxP p (x :: t) i = if p x = true then i else idxP p t (i + 1) := rfl
theorem idxP_ge {α : Type} (p : α → Bool) (l : List α) : ∀ i : Int, 0 ≤ i → idxP p l i = -1 ∨ i ≤ idxP p l i := by
  induction l with
  | nil => intro i _; exact .inl rfl
  | cons x t ih =>
    intro i h
    rw [idxP_step]
    by_cases c : p x = true
    · rw [if_pos c]; exact .inr (Int.le_refl _)
    · rw [if_neg c]
      rcases ih (i + 1) (by omega) with h1 | h1
      · exact .inl h1
      · exact .inr (by omega)
theorem idxP_append {α : Type} (p : α → Bool) (l m : List α) : ∀ i : Int, idxP p (l ++ m) i = if l.any p = true then idxP p l i else idxP p m (i + l.length) := by
  induction l with
  | nil => intro i; simp
  | cons x t ih =>
    intro i
    rw [List.cons_append, idxP_step, idxP_step, List.any_cons]
    by_cases c : p x = true
    · rw [if_pos c, c]; simp
    · rw [if_neg c, ih (i + 1), if_neg c]
      have : p x = false := by simpa using c
      rw [this, Bool.false_or]
      have e : i + 1 + (t.length : Int) = i + ((x :: t).length : Int) := by simp only [List.length_cons]; omega
      rw [e]
theorem idxP_lt {α : Type} (p : α → Bool) (l : List α) : ∀ i : Int, idxP p l i < i + l.length ∨ idxP p l i = -1 := by
  induction l with
  | nil => intro i; exact .inr rfl
  | cons x t ih =>
    intro i
    rw [idxP_step]
    by_cases c : p x = true
    · rw [if_pos c]; simp only [List.length_cons]; omega
    · rw [if_neg c]
      have := ih (i + 1)
      simp only [List.length_cons]
      omega
/-- The first place at which p holds is that of x itself, if and only if p holds of nothing ahead. -/
theorem idxP_own {α : Type} (p : α → Bool) (pre t : List α) (x : α) (hx : p x = true) : idxP p (pre ++ x :: t) 0 = (pre.length : Int) ↔ pre.any p = false := by
  rw [idxP_append]
  by_cases c : pre.any p = true
  · rw [if_pos c, c]
    have := idxP_lt p pre 0
    constructor
    · intro h; omega
    · intro h; cases h
  · rw [if_neg c, idxP_step, if_pos hx]
    have : pre.any p = false := by simpa using c
    rw [this]
    simp
theorem in_dec (x a b : Int) : (if x ≥ a then some (decide (x ≤ b)) else some false) = some (decide (a ≤ x ∧ x ≤ b)) := by
  by_cases c : x ≥ a
  · rw [if_pos c]
    congr 1
    by_cases d : x ≤ b
    · rw [decide_eq_true d, decide_eq_true ⟨c, d⟩]
    · rw [decide_eq_false d, decide_eq_false (fun h => d h.2)]
  · rw [if_neg c, decide_eq_false (fun h => c h.1)]
/-! Values and keys. -/
def noZero (s : ByteArray) : Bool := (bytesOf s).all fun b => decide (b ≠ 0)
def valueOkR (kind num : Int) (text : ByteArray) : Bool :=
  if kind = 1 then decide (0 ≤ num ∧ num ≤ 999999) && decide (text.size = 0) else decide (kind = 2) && decide (num = 0) && decide ((text.size : Int) ≤ 6) && noZero text
def keyR (kind num : Int) (text : ByteArray) : ByteArray × Bool :=
  if valueOkR kind num text = true then (if kind = 1 then (strOfNums [num / 65536 % 256, num / 256 % 256, num % 256], true) else (text ++ (⟨#[0]⟩ : ByteArray), true)) else (⟨#[]⟩, false)
theorem toList_empty_iff (s : ByteArray) : (s.toList == ([] : List UInt8)) = decide (s.size = 0) := by
  rw [ByteArray.toList_eq]
  have : s.data.toList.length = s.size := data_length s
  cases h : s.data.toList with
  | nil => rw [h] at this; simp at this; rw [← this]; rfl
  | cons a t => rw [h] at this; simp at this; rw [decide_eq_false (by omega)]; rfl
theorem indexByte_lo (l : List UInt8) (c : UInt8) : Lib.indexByte l c = -1 ∨ 0 ≤ Lib.indexByte l c := by
  induction l with
  | nil => exact .inl rfl
  | cons b t ih =>
    unfold Lib.indexByte
    split
    · exact .inr (by omega)
    · split
      · exact .inl rfl
      · rename_i h
        simp only [beq_iff_eq] at h
        exact .inr (by omega)
theorem indexByte_zero (l : List UInt8) : decide (0 ≤ Lib.indexByte l 0) = !((l.map fun b => (b.toNat : Int)).all fun b => decide (b ≠ 0)) := by
  induction l with
  | nil => rfl
  | cons b t ih =>
    unfold Lib.indexByte
    rw [List.map_cons, List.all_cons]
    by_cases c : b = 0
    · subst c; rfl
    · have h1 : (b == 0) = false := by simp [c]
      have h2 : ((b.toNat : Int) ≠ 0) := fun h => c (UInt8.toNat_inj.1 (by show b.toNat = 0; omega))
      rw [h1, decide_eq_true h2, Bool.true_and, ← ih]
      simp only [Bool.false_eq_true, if_false]
      have := indexByte_lo t 0
      split
      · rename_i h
        rw [beq_iff_eq] at h
        rw [h]
      · rename_i h
        rw [beq_iff_eq] at h
        rw [decide_eq_true (by omega), decide_eq_true (by omega)]
theorem noZero_index (s : ByteArray) : decide (0 ≤ Lib.indexByte s.data.toList 0) = !noZero s := indexByte_zero _
end Go.Proofs.Ytdgefpifohfcgaa
