/- Plain lemmas on numbers, lists of bytes, and functions that count their rounds, for the proofs of this seat; no conditions. -/
import Derived.Test.YtbjlpmhhcigkdaaG
import Derived.Lib.Bytealg
namespace Go.Proofs.Ytbjlpmhhcigkdaa
set_option linter.unusedVariables false
set_option linter.unusedSimpArgs false
open Go Go.RowKit Go.Proofs.YtbjlpmhhcigkdaaW.PrintWords Go.Proofs.YtbjlpmhhcigkdaaW.PrintLast Go.Proofs.YtbjlpmhhcigkdaaW.PrintMore
/-! Numbers, bytes and rounds. -/
theorem w64 {n : Int} (h : -9223372036854775808 ≤ n) (h' : n ≤ 9223372036854775807) : wrap64 n = n := by
  unfold wrap64; omega
theorem ev_some {α : Type} {g : Nat → Option α} {r : α} (h : ∀ k, g k = some r) : Ev g r := ⟨0, fun k _ => h k⟩
theorem ev_succ {α : Type} {g : Nat → Option α} {r : α} (h : ∃ K, ∀ k, K ≤ k → g (k + 1) = some r) : Ev g r := by
  obtain ⟨K, h⟩ := h
  refine ⟨K + 1, fun k hk => ?_⟩
  obtain ⟨m, rfl⟩ : ∃ m, k = m + 1 := ⟨k - 1, by omega⟩
  exact h m (by omega)
/-- One round that goes on. -/
theorem ev_go {α : Type} {g f : Nat → Option α} {r : α} (hf : Ev f r) (h : ∀ k, g (k + 1) = f k) : Ev g r := Ev.step h hf
/-- One round that ends. -/
theorem ev_end {α : Type} {g : Nat → Option α} {r : α} (h : ∀ k, g (k + 1) = some r) : Ev g r := ev_succ ⟨0, fun k _ => h k⟩
/-- One call, then the rest. -/
theorem ev_call {α β : Type} {g : Nat → Option α} {f : Nat → Option β} {c : Nat → β → Option α} {b : β} {r : α} (hf : Ev f b) (hc : Ev (fun k => c k b) r) (h : ∀ k, g k = (f k).bind (c k)) : Ev g r :=
  Ev.congr h (Ev.bind hf hc)
/-- One round with one call in it. -/
theorem ev_go_call {α β : Type} {g : Nat → Option α} {f : Nat → Option β} {c : Nat → β → Option α} {b : β} {r : α} (hf : Ev f b) (hc : Ev (fun k => c k b) r) (h : ∀ k, g (k + 1) = (f k).bind (c k)) : Ev g r :=
  Ev.step h (Ev.bind hf hc)
theorem ev_pair {α β : Type} {g : Nat → Option α} {f : Nat → Option β} {a : α} {b : β} (h : Ev g a) (h' : Ev f b) : ∃ k, g k = some a ∧ f k = some b := by
  obtain ⟨K, h⟩ := h
  obtain ⟨K', h'⟩ := h'
  exact ⟨max K K', h _ (by omega), h' _ (by omega)⟩
theorem bt_lo (s : ByteArray) (i : Int) : 0 ≤ bt s i := (bt_range s i).1
theorem bt_hi (s : ByteArray) (i : Int) : bt s i ≤ 255 := (bt_range s i).2
theorem bytesOf_drop (s : ByteArray) (i : Nat) (h : i < s.size) : (bytesOf s).drop i = bt s (i : Int) :: (bytesOf s).drop (i + 1) := by
  have hl : i < (bytesOf s).length := by rw [bytesOf_length]; exact h
  rw [List.drop_eq_getElem_cons hl]
  congr 1
  rw [← rd_bytesOf s (i : Int)]
  unfold rd
  rw [Int.toNat_natCast]
  simp [List.getD, hl]
theorem bytesOf_range (s : ByteArray) : ∀ x ∈ bytesOf s, 0 ≤ x ∧ x ≤ 255 := by
  intro x hx
  unfold bytesOf at hx
  obtain ⟨b, _, rfl⟩ := List.mem_map.1 hx
  have := b.toNat_lt
  omega
theorem strOfNums_toList (xs : List Int) : (strOfNums xs).toList = xs.map fun n => UInt8.ofNat n.toNat := by
  rw [ByteArray.toList_eq, strOfNums_data]
theorem toList_inj {s t : ByteArray} (h : s.toList = t.toList) : s = t := by
  rw [ByteArray.toList_eq, ByteArray.toList_eq] at h
  exact ByteArray.ext (Array.toList_inj.1 h)
theorem strOfNums_bytesOf (s : ByteArray) : strOfNums (bytesOf s) = s := by
  apply ByteArray.ext
  apply Array.toList_inj.1
  rw [strOfNums_data]
  unfold bytesOf
  rw [List.map_map]
  conv => rhs; rw [← List.map_id s.data.toList]
  apply List.map_congr_left
  intro b _
  simp
theorem bytesOf_strOfNums (xs : List Int) (h : ∀ x ∈ xs, 0 ≤ x ∧ x ≤ 255) : bytesOf (strOfNums xs) = xs := by
  unfold bytesOf
  rw [strOfNums_data, List.map_map]
  conv => rhs; rw [← List.map_id xs]
  apply List.map_congr_left
  intro b hb
  have := h b hb
  simp only [Function.comp, UInt8.toNat_ofNat', id]
  omega
theorem bytesOf_extract (s : ByteArray) (a b : Nat) : bytesOf (s.extract a b) = ((bytesOf s).drop a).take (b - a) := by
  unfold bytesOf
  rw [ByteArray.data_extract, Array.toList_extract, List.extract_eq_take_drop, List.map_take, List.map_drop]
theorem bytesOf_append (s t : ByteArray) : bytesOf (s ++ t) = bytesOf s ++ bytesOf t := by
  unfold bytesOf
  rw [ByteArray.data_append, Array.toList_append, List.map_append]
theorem bytesOf_inj {s t : ByteArray} (h : bytesOf s = bytesOf t) : s = t := by
  rw [← strOfNums_bytesOf s, ← strOfNums_bytesOf t, h]
theorem toList_eq_iff (s t : ByteArray) : s.toList = t.toList ↔ s = t := ⟨toList_inj, fun h => by rw [h]⟩
theorem strOfNums_eq_iff (xs : List Int) (t : ByteArray) (h : ∀ x ∈ xs, 0 ≤ x ∧ x ≤ 255) : strOfNums xs = t ↔ xs = bytesOf t :=
  ⟨fun e => by rw [← e, bytesOf_strOfNums xs h], fun e => by rw [e, strOfNums_bytesOf]⟩
theorem bytesOf_length_drop (s : ByteArray) (i : Nat) : ((bytesOf s).drop i).length = s.size - i := by rw [List.length_drop, bytesOf_length]
theorem wf_u32 {x : Int} (h : (Lit.int .u32 x).wf = true) : 0 ≤ x ∧ x < 4294967296 := by
  simp [Lit.wf, IntKind.min, IntKind.max, IntKind.bits, IntKind.signed] at h
  omega
theorem wf_i64 {x : Int} (h : (Lit.int .i64 x).wf = true) : -9223372036854775808 ≤ x ∧ x ≤ 9223372036854775807 := by
  simp [Lit.wf, IntKind.min, IntKind.max, IntKind.bits, IntKind.signed] at h
  omega
theorem i64_and1_any (x : Int) (_ : -9223372036854775808 ≤ x ∧ x ≤ 9223372036854775807) : Go.bits .and .i64 x 1 = x % 2 := by
  unfold Go.bits
  simp only
  rw [IntKind.wrap_i64, BitVec.toNat_and]
  have h1 : (BitVec.ofInt IntKind.i64.bits 1).toNat = 1 := by decide
  have h2 : (((2 : Nat) ^ IntKind.i64.bits : Nat) : Int) = 18446744073709551616 := by decide
  rw [h1, Nat.and_one_is_mod, BitVec.toNat_ofInt, h2]
  omega
theorem tmod2_zero (x : Int) : Int.tmod x 2 = 0 ↔ x % 2 = 0 := by
  rw [← Int.dvd_iff_tmod_eq_zero, Int.dvd_iff_emod_eq_zero]
/-! Numbers as bytes. -/
def varL (n : Nat) : List Int := if n > 127 then ((n : Int) % 128 + 128) :: varL (n / 128) else [(n : Int)]
termination_by n
decreasing_by omega
theorem varL_big {n : Nat} (h : n > 127) : varL n = ((n : Int) % 128 + 128) :: varL (n / 128) := by rw [varL, if_pos h]
theorem varL_small {n : Nat} (h : ¬ n > 127) : varL n = [(n : Int)] := by rw [varL, if_neg h]
theorem varL_range (n : Nat) : ∀ x ∈ varL n, 0 ≤ x ∧ x ≤ 255 := by
  induction n using Nat.strongRecOn with
  | ind n ih =>
    intro x hx
    by_cases h : n > 127
    · rw [varL_big h] at hx
      rcases List.mem_cons.1 hx with rfl | hx
      · omega
      · exact ih _ (by omega) x hx
    · rw [varL_small h] at hx
      have := List.mem_singleton.1 hx
      omega
theorem varL_length_le (j : Nat) : ∀ n : Nat, n < 128 ^ j → (varL n).length ≤ max j 1 := by
  induction j with
  | zero => intro n hn; simp at hn; subst hn; rw [varL_small (by omega)]; simp
  | succ j ih =>
    intro n hn
    by_cases h : n > 127
    · rw [varL_big h]
      have : n / 128 < 128 ^ j := by rw [Nat.pow_succ] at hn; exact Nat.div_lt_of_lt_mul (by omega)
      have := ih _ this
      cases j with
      | zero => omega
      | succ j => simp only [List.length_cons]; omega
    · rw [varL_small h, List.length_singleton]; omega
theorem varL_length_pos (n : Nat) : 0 < (varL n).length := by
  by_cases h : n > 127
  · rw [varL_big h]; simp
  · rw [varL_small h]; simp
def varB (n : Nat) : ByteArray := strOfNums (varL n)
theorem varB_size (n : Nat) : (varB n).size = (varL n).length := strOfNums_size _
theorem varB_size_le (n : Nat) (h : n ≤ 9223372036854775807) : (varB n).size ≤ 10 := by
  rw [varB_size]
  have := varL_length_le 10 n (by omega)
  omega
theorem i64_and127 (x : Int) (h₀ : 0 ≤ x) (h₁ : x ≤ 9223372036854775807) : Go.bits .and .i64 x 127 = x % 128 :=
  Go.bits_mask .i64 63 (by decide) (fun n a b => by rw [IntKind.wrap_i64]; omega) 7 (by decide) x h₀ (by omega)
theorem i64_and1 (x : Int) (h₀ : 0 ≤ x) (h₁ : x ≤ 9223372036854775807) : Go.bits .and .i64 x 1 = x % 2 :=
  Go.bits_mask .i64 63 (by decide) (fun n a b => by rw [IntKind.wrap_i64]; omega) 1 (by decide) x h₀ (by omega)
theorem i64_or_join (i : Nat) (x y : Int) (hx₀ : 0 ≤ x) (hx : x % 2 ^ i = 0) (hx₁ : x ≤ 9223372036854775807) (hy₀ : 0 ≤ y) (hy : y < 2 ^ i) (hy₁ : y ≤ 9223372036854775807) : Go.bits .or .i64 x y = x + y :=
  Go.bits_join .i64 63 (by decide) (fun n a b => by rw [IntKind.wrap_i64]; omega) i x y hx₀ hx (by omega) hy₀ hy (by omega)
theorem i64_or_comm (x y : Int) : Go.bits .or .i64 x y = Go.bits .or .i64 y x := by
  unfold Go.bits
  simp only [BitVec.or_comm]
theorem i64_or128 (x : Int) (h₀ : 0 ≤ x) (h₁ : x < 128) : Go.bits .or .i64 x 128 = x + 128 := by
  rw [i64_or_comm, i64_or_join 7 128 x (by omega) (by decide) (by omega) h₀ (by omega) (by omega)]
  omega
def shortB (s : ByteArray) : ByteArray := varB s.size ++ s
def shortR (s : ByteArray) : ByteArray × Bool := if (s.size : Int) > 20000 then (⟨#[]⟩, false) else (shortB s, true)
def varR (n : Int) : ByteArray × Bool := if 0 ≤ n ∧ n ≤ 1000000000 then (varB n.toNat, true) else (⟨#[]⟩, false)
/-! Reading a number. -/
def decL : Nat → List Int → Option (Int × Nat)
  | 0, _ => none
  | _ + 1, [] => none
  | f + 1, b :: t => if b < 128 then some (b, 1) else (decL f t).map fun p => (b - 128 + 128 * p.1, p.2 + 1)
def rvL (at_ : Int) (L : List Int) : Int × Int × Bool :=
  match decL 5 L with
  | none => (0, 0, false)
  | some p => if p.1 ≤ 1000000000 ∧ varL p.1.toNat = L.take p.2 then (p.1, at_ + p.2, true) else (0, 0, false)
def rvR (s : ByteArray) (a : Int) : Int × Int × Bool :=
  if 0 ≤ a ∧ a ≤ (s.size : Int) then rvL a ((bytesOf s).drop a.toNat) else (0, 0, false)
theorem decL_pos (f : Nat) : ∀ (l : List Int) (m : Int) (u : Nat), (∀ x ∈ l, 0 ≤ x ∧ x ≤ 255) → decL f l = some (m, u) → 0 ≤ m ∧ m < 128 ^ f ∧ 1 ≤ u ∧ u ≤ f ∧ u ≤ l.length := by
  induction f with
  | zero => intro l m u _ h; simp [decL] at h
  | succ f ih =>
    intro l m u hr h
    cases l with
    | nil => simp [decL] at h
    | cons b t =>
      have hb := hr b (by simp)
      simp only [decL] at h
      have hp : (1 : Int) ≤ 128 ^ f := by have := Nat.one_le_two_pow (n := 7 * f); rw [Nat.pow_mul] at this; exact_mod_cast this
      by_cases c : b < 128
      · rw [if_pos c] at h
        simp only [Option.some.injEq, Prod.mk.injEq] at h
        obtain ⟨rfl, rfl⟩ := h
        refine ⟨hb.1, ?_, by omega, by omega, by simp⟩
        rw [Int.pow_succ]; omega
      · rw [if_neg c] at h
        obtain ⟨⟨m', u'⟩, h1, h2⟩ := Option.map_eq_some_iff.1 h
        simp only [Prod.mk.injEq] at h2
        obtain ⟨rfl, rfl⟩ := h2
        obtain ⟨g1, g2, g3, g4, g5⟩ := ih t m' u' (fun x hx => hr x (by simp [hx])) h1
        refine ⟨by omega, ?_, by omega, by omega, by simp only [List.length_cons]; omega⟩
        rw [Int.pow_succ]; omega
theorem decL_zero (f : Nat) : ∀ (l : List Int) (m : Int) (u : Nat), (∀ x ∈ l, 0 ≤ x ∧ x ≤ 255) → decL f l = some (m, u) → m = 0 → l.getD (u - 1) 0 = 0 := by
  induction f with
  | zero => intro l m u _ h; simp [decL] at h
  | succ f ih =>
    intro l m u hr h hm
    cases l with
    | nil => simp
    | cons b t =>
      have hb := hr b (by simp)
      simp only [decL] at h
      by_cases c : b < 128
      · rw [if_pos c] at h
        simp only [Option.some.injEq, Prod.mk.injEq] at h
        obtain ⟨rfl, rfl⟩ := h
        simpa using hm
      · rw [if_neg c] at h
        obtain ⟨⟨m', u'⟩, h1, h2⟩ := Option.map_eq_some_iff.1 h
        simp only [Prod.mk.injEq] at h2
        obtain ⟨rfl, rfl⟩ := h2
        have hr' : ∀ x ∈ t, 0 ≤ x ∧ x ≤ 255 := fun x hx => hr x (by simp [hx])
        obtain ⟨g1, g2, g3, g4, g5⟩ := decL_pos f t m' u' hr' h1
        have := ih t m' u' hr' h1 (by omega)
        obtain ⟨v, rfl⟩ : ∃ v, u' = v + 1 := ⟨u' - 1, by omega⟩
        simpa using this
theorem decL_canon (f : Nat) : ∀ (l : List Int) (m : Int) (u : Nat), (∀ x ∈ l, 0 ≤ x ∧ x ≤ 255) → decL f l = some (m, u) → (varL m.toNat = l.take u ↔ ¬ (u > 1 ∧ l.getD (u - 1) 0 = 0)) := by
  induction f with
  | zero => intro l m u _ h; simp [decL] at h
  | succ f ih =>
    intro l m u hr h
    cases l with
    | nil => simp [decL] at h
    | cons b t =>
      have hb := hr b (by simp)
      simp only [decL] at h
      by_cases c : b < 128
      · rw [if_pos c] at h
        simp only [Option.some.injEq, Prod.mk.injEq] at h
        obtain ⟨rfl, rfl⟩ := h
        rw [varL_small (by omega)]
        simp
        omega
      · rw [if_neg c] at h
        obtain ⟨⟨m', u'⟩, h1, h2⟩ := Option.map_eq_some_iff.1 h
        simp only [Prod.mk.injEq] at h2
        obtain ⟨rfl, rfl⟩ := h2
        have hr' : ∀ x ∈ t, 0 ≤ x ∧ x ≤ 255 := fun x hx => hr x (by simp [hx])
        obtain ⟨g1, g2, g3, g4, g5⟩ := decL_pos f t m' u' hr' h1
        have hi := ih t m' u' hr' h1
        have hz := decL_zero f t m' u' hr' h1
        obtain ⟨v, rfl⟩ : ∃ v, u' = v + 1 := ⟨u' - 1, by omega⟩
        have e0 : (b :: t).getD (v + 1 + 1 - 1) 0 = t.getD v 0 := by simp
        rw [e0, List.take_succ_cons]
        simp only [Nat.add_sub_cancel] at hi hz
        by_cases z : m' = 0
        · have := hz z
          rw [varL_small (by omega)]
          constructor
          · intro h
            have := (List.cons.inj h).1
            omega
          · intro h
            exact absurd ⟨by omega, this⟩ h
        · rw [varL_big (by omega), show (b - 128 + 128 * m').toNat / 128 = m'.toNat by omega, show (((b - 128 + 128 * m').toNat : Int) % 128 + 128) = b by omega]
          rw [List.cons_inj_right, hi]
          by_cases hv : v = 0
          · subst hv
            have : t.getD 0 0 ≠ 0 := by
              cases f with
              | zero => simp [decL] at h1
              | succ f =>
                cases t with
                | nil => simp [decL] at h1
                | cons y t =>
                  simp only [decL] at h1
                  by_cases c2 : y < 128
                  · rw [if_pos c2] at h1
                    simp only [Option.some.injEq, Prod.mk.injEq] at h1
                    simp; omega
                  · simp; omega
            constructor
            · intro _ h; exact this h.2
            · intro _ h; omega
          · constructor
            · intro h ⟨_, h2⟩; exact h ⟨by omega, h2⟩
            · intro h ⟨_, h2⟩; exact h ⟨by omega, h2⟩
theorem decL_varL (f : Nat) : ∀ (n : Nat) (t : List Int), n < 128 ^ f → 0 < f → decL f (varL n ++ t) = some ((n : Int), (varL n).length) := by
  induction f with
  | zero => intro n t _ h; omega
  | succ f ih =>
    intro n t hn _
    by_cases c : n > 127
    · rw [varL_big c, List.cons_append]
      simp only [decL]
      rw [if_neg (by omega)]
      have h1 : n / 128 < 128 ^ f := by rw [Nat.pow_succ] at hn; exact Nat.div_lt_of_lt_mul (by omega)
      cases f with
      | zero => simp at hn; omega
      | succ f =>
        rw [ih (n / 128) t h1 (by omega)]
        simp only [Option.map_some, List.length_cons, Option.some.injEq, Prod.mk.injEq, and_true]
        omega
    · rw [varL_small c]
      simp only [List.cons_append, List.nil_append, decL]
      rw [if_pos (by omega)]
      simp
/-! Steps of reading a number. -/
theorem decL_step (b : Int) (t : List Int) (f : Nat) : decL (f + 1) (b :: t) = if b < 128 then some (b, 1) else (decL f t).map fun p => (b - 128 + 128 * p.1, p.2 + 1) := rfl
theorem decL_nil (f : Nat) : decL f [] = none := by cases f <;> rfl
/-- What is left to read behind j bytes that go on. -/
def decAt (L : List Int) (j : Nat) (n : Int) : Prop := decL 5 L = (decL (5 - j) (L.drop j)).map fun p => (n + 128 ^ j * p.1, p.2 + j)
theorem decAt_zero (L : List Int) : decAt L 0 0 := by
  unfold decAt
  simp
theorem decAt_end {L : List Int} {j : Nat} {n b : Int} {t : List Int} (h : decAt L j n) (hj : j < 5) (ht : L.drop j = b :: t) (hb : b < 128) : decL 5 L = some (n + 128 ^ j * b, 1 + j) := by
  unfold decAt at h
  rw [h, ht, show 5 - j = (4 - j) + 1 by omega, decL_step, if_pos hb]
  rfl
theorem decAt_next {L : List Int} {j : Nat} {n b : Int} {t : List Int} (h : decAt L j n) (hj : j < 5) (ht : L.drop j = b :: t) (hb : ¬ b < 128) : decAt L (j + 1) (n + 128 ^ j * (b - 128)) := by
  unfold decAt at h ⊢
  have hd : L.drop (j + 1) = t := by rw [← List.drop_drop, ht]; simp
  rw [h, ht, hd, show 5 - j = (4 - j) + 1 by omega, decL_step, if_neg hb, Option.map_map, show 5 - (j + 1) = 4 - j by omega]
  congr 1
  funext p
  simp only [Function.comp, Prod.mk.injEq]
  refine ⟨?_, by omega⟩
  rw [Int.pow_succ, Int.mul_add, Int.mul_assoc, Int.add_assoc]
theorem decAt_short {L : List Int} {j : Nat} {n : Int} (h : decAt L j n) (ht : L.drop j = []) : decL 5 L = none := by
  unfold decAt at h
  rw [h, ht, decL_nil]
  rfl
theorem decAt_over {L : List Int} {n : Int} (h : decAt L 5 n) : decL 5 L = none := by
  unfold decAt at h
  rw [h]
  rfl
theorem rvL_none {a : Int} {L : List Int} (h : decL 5 L = none) : rvL a L = (0, 0, false) := by unfold rvL; rw [h]
theorem rvL_good {a : Int} {L : List Int} {n : Int} {u : Nat} (h : decL 5 L = some (n, u)) (h1 : n ≤ 1000000000) (h2 : varL n.toNat = L.take u) : rvL a L = (n, a + u, true) := by
  unfold rvL; rw [h]; simp only; rw [if_pos ⟨h1, h2⟩]
theorem rvL_bad {a : Int} {L : List Int} {n : Int} {u : Nat} (h : decL 5 L = some (n, u)) (h1 : ¬ (n ≤ 1000000000 ∧ varL n.toNat = L.take u)) : rvL a L = (0, 0, false) := by
  unfold rvL; rw [h]; simp only; rw [if_neg h1]
theorem rvL_tells {a : Int} {L : List Int} {n nx : Int} (hr : ∀ x ∈ L, 0 ≤ x ∧ x ≤ 255) (h : rvL a L = (n, nx, true)) : ∃ u : Nat, 0 ≤ n ∧ n ≤ 1000000000 ∧ varL n.toNat = L.take u ∧ nx = a + u ∧ 1 ≤ u ∧ u ≤ L.length ∧ u ≤ 5 := by
  unfold rvL at h
  cases h5 : decL 5 L with
  | none => rw [h5] at h; simp at h
  | some p =>
    obtain ⟨m, u⟩ := p
    rw [h5] at h
    simp only at h
    by_cases c : m ≤ 1000000000 ∧ varL m.toNat = L.take u
    · rw [if_pos c] at h
      simp only [Prod.mk.injEq, and_true] at h
      obtain ⟨rfl, rfl⟩ := h
      obtain ⟨g1, g2, g3, g4, g5⟩ := decL_pos 5 L m u hr h5
      exact ⟨u, g1, c.1, c.2, rfl, g3, g5, g4⟩
    · rw [if_neg c] at h
      simp at h
theorem rvL_reads (a : Int) (n : Nat) (t : List Int) (h : n ≤ 1000000000) : rvL a (varL n ++ t) = ((n : Int), a + (varL n).length, true) :=
  rvL_good (decL_varL 5 n t (by omega) (by omega)) (by omega) (by simp)
theorem pow128 (j : Nat) (hj : j < 5) : (128 : Int) ^ j = 1 ∧ j = 0 ∨ (128 : Int) ^ j = 128 ∧ j = 1 ∨ (128 : Int) ^ j = 16384 ∧ j = 2 ∨ (128 : Int) ^ j = 2097152 ∧ j = 3 ∨ (128 : Int) ^ j = 268435456 ∧ j = 4 := by
  have : j = 0 ∨ j = 1 ∨ j = 2 ∨ j = 3 ∨ j = 4 := by omega
  rcases this with rfl | rfl | rfl | rfl | rfl <;> simp
theorem rv_mul (j : Nat) (hj : j < 5) (n b : Int) (hn0 : 0 ≤ n) (hn : n < 128 ^ j) (hb0 : 0 ≤ b) (hb : b ≤ 255) :
    wrap64 (n + wrap64 (Int.tmod (wrap64 b) 128 * 128 ^ j)) = n + 128 ^ j * (b % 128) ∧ 0 ≤ n + 128 ^ j * (b % 128) ∧ n + 128 ^ j * (b % 128) < 128 ^ (j + 1) ∧ n + 128 ^ j * (b % 128) ≤ 34359738368 := by
  rw [w64 (n := b) (by omega) (by omega), Int.tmod_eq_emod_of_nonneg hb0, Int.pow_succ]
  rcases pow128 j hj with ⟨h, _⟩ | ⟨h, _⟩ | ⟨h, _⟩ | ⟨h, _⟩ | ⟨h, _⟩ <;> (rw [h] at hn ⊢; rw [w64 (n := b % 128 * _) (by omega) (by omega), w64 (by omega) (by omega)]; omega)
theorem rv_or (j : Nat) (hj : j < 5) (n b : Int) (hn0 : 0 ≤ n) (hn : n < 128 ^ j) (hb0 : 0 ≤ b) (hb : b ≤ 255) :
    Go.bits .or .i64 n (shl .i64 (Go.bits .and .i64 (wrap64 b) 127) (wrap64 (7 * (j : Int)))) = n + 128 ^ j * (b % 128) := by
  rw [w64 (n := b) (by omega) (by omega), w64 (n := 7 * (j : Int)) (by omega) (by omega), i64_and127 b hb0 (by omega)]
  unfold shl
  rw [IntKind.wrap_i64]
  have e : min (7 * (j : Int)).toNat IntKind.i64.bits = 7 * j := by
    have : IntKind.i64.bits = 64 := rfl
    omega
  rw [e, i64_or_comm]
  have hj' : j = 0 ∨ j = 1 ∨ j = 2 ∨ j = 3 ∨ j = 4 := by omega
  rcases hj' with rfl | rfl | rfl | rfl | rfl
  · simp only [Nat.mul_zero, Int.pow_zero, Int.mul_one, Int.one_mul] at hn ⊢
    rw [show n = 0 by omega, show (b % 128 + 9223372036854775808) % 18446744073709551616 - 9223372036854775808 = b % 128 by omega, i64_or_join 0 (b % 128) 0 (by omega) (by simp) (by omega) (by omega) (by omega) (by omega)]
    omega
  · rw [show (128 : Int) ^ 1 = 128 by decide] at hn ⊢
    rw [show (b % 128 * 2 ^ (7 * 1) + 9223372036854775808) % 18446744073709551616 - 9223372036854775808 = 128 * (b % 128) by omega, i64_or_join 7 (128 * (b % 128)) n (by omega) (by omega) (by omega) (by omega) (by omega) (by omega)]
    omega
  · rw [show (128 : Int) ^ 2 = 16384 by decide] at hn ⊢
    rw [show (b % 128 * 2 ^ (7 * 2) + 9223372036854775808) % 18446744073709551616 - 9223372036854775808 = 16384 * (b % 128) by omega, i64_or_join 14 (16384 * (b % 128)) n (by omega) (by omega) (by omega) (by omega) (by omega) (by omega)]
    omega
  · rw [show (128 : Int) ^ 3 = 2097152 by decide] at hn ⊢
    rw [show (b % 128 * 2 ^ (7 * 3) + 9223372036854775808) % 18446744073709551616 - 9223372036854775808 = 2097152 * (b % 128) by omega, i64_or_join 21 (2097152 * (b % 128)) n (by omega) (by omega) (by omega) (by omega) (by omega) (by omega)]
    omega
  · rw [show (128 : Int) ^ 4 = 268435456 by decide] at hn ⊢
    rw [show (b % 128 * 2 ^ (7 * 4) + 9223372036854775808) % 18446744073709551616 - 9223372036854775808 = 268435456 * (b % 128) by omega, i64_or_join 28 (268435456 * (b % 128)) n (by omega) (by omega) (by omega) (by omega) (by omega) (by omega)]
    omega
/-! Sums. -/
def sumStep (x : Int) : Int := if x % 2 = 1 then Go.bits .xor .u32 (x / 2) 3558460437 else x / 2
def sumSteps : Nat → Int → Int
  | 0, x => x
  | n + 1, x => sumSteps n (sumStep x)
def sumByte (x b : Int) : Int := sumSteps 8 (Go.bits .xor .u32 x b)
def sumL : Int → List Int → Int
  | x, [] => x
  | x, b :: t => sumL (sumByte x b) t
def sumR (x : Int) (s : ByteArray) : Int := sumL x (bytesOf s)
def fourB (n : Int) : ByteArray := strOfNums ([(n / 16777216) % 256, (n / 65536) % 256, (n / 256) % 256, n % 256] : List Int)
def sealB (s : ByteArray) : ByteArray := fourB (sumR 4294967295 s)
theorem bits_u32_range (o : BinOp) (x y : Int) (h : o = .xor) : 0 ≤ Go.bits o .u32 x y ∧ Go.bits o .u32 x y < 4294967296 := by
  subst h
  unfold Go.bits
  simp only
  rw [IntKind.wrap_u32]
  omega
theorem sumStep_range (x : Int) (h : 0 ≤ x ∧ x < 4294967296) : 0 ≤ sumStep x ∧ sumStep x < 4294967296 := by
  unfold sumStep
  split
  · exact bits_u32_range _ _ _ rfl
  · omega
theorem sumSteps_range (n : Nat) : ∀ x : Int, 0 ≤ x ∧ x < 4294967296 → 0 ≤ sumSteps n x ∧ sumSteps n x < 4294967296 := by
  induction n with
  | zero => exact fun x h => h
  | succ n ih => exact fun x h => ih _ (sumStep_range x h)
theorem sumByte_range (x b : Int) : 0 ≤ sumByte x b ∧ sumByte x b < 4294967296 := sumSteps_range 8 _ (bits_u32_range _ _ _ rfl)
theorem sumL_range (l : List Int) : ∀ x : Int, 0 ≤ x ∧ x < 4294967296 → 0 ≤ sumL x l ∧ sumL x l < 4294967296 := by
  induction l with
  | nil => exact fun x h => h
  | cons b t ih => exact fun x _ => ih _ (sumByte_range x b)
theorem sumR_range (x : Int) (s : ByteArray) (h : 0 ≤ x ∧ x < 4294967296) : 0 ≤ sumR x s ∧ sumR x s < 4294967296 := sumL_range _ x h
theorem u32_and1 (x : Int) (h : 0 ≤ x ∧ x < 4294967296) : Go.bits .and .u32 x 1 = x % 2 :=
  Go.bits_mask .u32 32 (by decide) (fun n a b => by rw [IntKind.wrap_u32]; omega) 1 (by decide) x h.1 (by omega)
theorem fourB_size (n : Int) : (fourB n).size = 4 := by unfold fourB; rw [strOfNums_size]; rfl
theorem sealB_size (s : ByteArray) : (sealB s).size = 4 := fourB_size _
def sealedR (s : ByteArray) : ByteArray × Bool := if (s.size : Int) > 20000 then (⟨#[]⟩, false) else (s ++ sealB s, true)
/-! Figures of bytes. -/
def fig (x : Int) : Int := if x < 10 then 48 + x else 87 + x
def hexL : List Int → List Int
  | [] => []
  | b :: t => fig (b / 16) :: fig (b % 16) :: hexL t
def hexR (s : ByteArray) : ByteArray × Bool := if (s.size : Int) > 20000 then (⟨#[]⟩, false) else (strOfNums (hexL (bytesOf s)), true)
theorem fig_range (x : Int) (h0 : 0 ≤ x) (h : x < 16) : 48 ≤ fig x ∧ fig x ≤ 102 := by unfold fig; split <;> omega
theorem bt_figs (x : Int) (h0 : 0 ≤ x) (h : x < 16) : bt (⟨#[48, 49, 50, 51, 52, 53, 54, 55, 56, 57, 97, 98, 99, 100, 101, 102]⟩ : ByteArray) x = fig x := by
  have : x = 0 ∨ x = 1 ∨ x = 2 ∨ x = 3 ∨ x = 4 ∨ x = 5 ∨ x = 6 ∨ x = 7 ∨ x = 8 ∨ x = 9 ∨ x = 10 ∨ x = 11 ∨ x = 12 ∨ x = 13 ∨ x = 14 ∨ x = 15 := by omega
  rcases this with rfl | rfl | rfl | rfl | rfl | rfl | rfl | rfl | rfl | rfl | rfl | rfl | rfl | rfl | rfl | rfl <;> rfl
/-! A sum tells any one byte that is turned. -/
theorem bits_xor_u32 (a b : Int) (ha : 0 ≤ a ∧ a < 4294967296) (hb : 0 ≤ b ∧ b < 4294967296) : Go.bits .xor .u32 a b = ((a.toNat ^^^ b.toNat : Nat) : Int) := by
  obtain ⟨x, rfl⟩ := Int.eq_ofNat_of_zero_le ha.1
  obtain ⟨y, rfl⟩ := Int.eq_ofNat_of_zero_le hb.1
  unfold Go.bits
  simp only [BitVec.ofInt_natCast, BitVec.toNat_xor, BitVec.toNat_ofNat, Int.toNat_natCast]
  have e : (2 : Nat) ^ IntKind.u32.bits = 4294967296 := by decide
  rw [e, Nat.mod_eq_of_lt (by omega), Nat.mod_eq_of_lt (by omega), IntKind.wrap_u32]
  have := Nat.xor_lt_two_pow (n := 32) (show x < 2 ^ 32 by omega) (show y < 2 ^ 32 by omega)
  omega
theorem nat_xor_cancel (a b p : Nat) (h : a ^^^ p = b ^^^ p) : a = b := by
  have := congrArg (fun z => z ^^^ p) h
  simpa [Nat.xor_assoc] using this
theorem nat_xor_cancel_left (a b p : Nat) (h : p ^^^ a = p ^^^ b) : a = b := by
  rw [Nat.xor_comm p a, Nat.xor_comm p b] at h
  exact nat_xor_cancel a b p h
theorem xor_high (a : Nat) (h : a < 2147483648) : a ^^^ 3558460437 ≥ 2147483648 := by
  have : (a ^^^ 3558460437).testBit 31 = true := by
    rw [Nat.testBit_xor, Nat.testBit_lt_two_pow (show a < 2 ^ 31 by omega)]
    decide
  exact Nat.ge_two_pow_of_testBit this
theorem sumStep_inj (x y : Int) (hx : 0 ≤ x ∧ x < 4294967296) (hy : 0 ≤ y ∧ y < 4294967296) (h : sumStep x = sumStep y) : x = y := by
  unfold sumStep at h
  have gx := xor_high (x / 2).toNat (by omega)
  have gy := xor_high (y / 2).toNat (by omega)
  rw [bits_xor_u32 (x / 2) _ (by omega) (by omega), bits_xor_u32 (y / 2) _ (by omega) (by omega)] at h
  have e : (3558460437 : Int).toNat = 3558460437 := rfl
  rw [e] at h
  by_cases cx : x % 2 = 1
  · rw [if_pos cx] at h
    by_cases cy : y % 2 = 1
    · rw [if_pos cy] at h
      have := nat_xor_cancel _ _ _ (Int.ofNat.inj h)
      omega
    · rw [if_neg cy] at h
      omega
  · rw [if_neg cx] at h
    by_cases cy : y % 2 = 1
    · rw [if_pos cy] at h
      omega
    · rw [if_neg cy] at h
      omega
theorem sumSteps_inj (n : Nat) : ∀ x y : Int, 0 ≤ x ∧ x < 4294967296 → 0 ≤ y ∧ y < 4294967296 → sumSteps n x = sumSteps n y → x = y := by
  induction n with
  | zero => exact fun x y _ _ h => h
  | succ n ih => exact fun x y hx hy h => sumStep_inj x y hx hy (ih _ _ (sumStep_range x hx) (sumStep_range y hy) h)
theorem sumByte_inj_left (x y b : Int) (hx : 0 ≤ x ∧ x < 4294967296) (hy : 0 ≤ y ∧ y < 4294967296) (hb : 0 ≤ b ∧ b ≤ 255) (h : sumByte x b = sumByte y b) : x = y := by
  have := sumSteps_inj 8 _ _ (bits_u32_range _ x b rfl) (bits_u32_range _ y b rfl) h
  rw [bits_xor_u32 x b hx (by omega), bits_xor_u32 y b hy (by omega)] at this
  have := nat_xor_cancel _ _ _ (Int.ofNat.inj this)
  omega
theorem sumByte_inj_right (x b c : Int) (hx : 0 ≤ x ∧ x < 4294967296) (hb : 0 ≤ b ∧ b ≤ 255) (hc : 0 ≤ c ∧ c ≤ 255) (h : sumByte x b = sumByte x c) : b = c := by
  have := sumSteps_inj 8 _ _ (bits_u32_range _ x b rfl) (bits_u32_range _ x c rfl) h
  rw [bits_xor_u32 x b hx (by omega), bits_xor_u32 x c hx (by omega)] at this
  have := nat_xor_cancel_left _ _ _ (Int.ofNat.inj this)
  omega
theorem sumL_inj (l : List Int) (hl : ∀ x ∈ l, 0 ≤ x ∧ x ≤ 255) : ∀ x y : Int, 0 ≤ x ∧ x < 4294967296 → 0 ≤ y ∧ y < 4294967296 → sumL x l = sumL y l → x = y := by
  induction l with
  | nil => exact fun x y _ _ h => h
  | cons b t ih =>
    intro x y hx hy h
    exact sumByte_inj_left x y b hx hy (hl b (by simp)) (ih (fun z hz => hl z (by simp [hz])) _ _ (sumByte_range x b) (sumByte_range y b) h)
theorem sumL_append (l m : List Int) : ∀ x : Int, sumL x (l ++ m) = sumL (sumL x l) m := by
  induction l with
  | nil => exact fun x => rfl
  | cons b t ih => exact fun x => ih _
theorem sumR_append (x : Int) (s t : ByteArray) : sumR x (s ++ t) = sumR (sumR x s) t := by unfold sumR; rw [bytesOf_append, sumL_append]
theorem sumL_turned (x : Int) (hx : 0 ≤ x ∧ x < 4294967296) (l m : List Int) (b c : Int) (hm : ∀ x ∈ m, 0 ≤ x ∧ x ≤ 255) (hb : 0 ≤ b ∧ b ≤ 255) (hc : 0 ≤ c ∧ c ≤ 255) (hbc : b ≠ c) : sumL x (l ++ b :: m) ≠ sumL x (l ++ c :: m) := by
  intro h
  rw [sumL_append, sumL_append] at h
  exact hbc (sumByte_inj_right _ b c (sumL_range l x hx) hb hc (sumL_inj m hm _ _ (sumByte_range _ b) (sumByte_range _ c) h))
theorem four_inj (m n : Int) (hm : 0 ≤ m ∧ m < 4294967296) (hn : 0 ≤ n ∧ n < 4294967296) (h : fourB m = fourB n) : m = n := by
  have h1 : bytesOf (fourB m) = bytesOf (fourB n) := by rw [h]
  unfold fourB at h1
  rw [bytesOf_strOfNums _ (by intro x hx; simp at hx; omega), bytesOf_strOfNums _ (by intro x hx; simp at hx; omega)] at h1
  simp only [List.cons.injEq, and_true] at h1
  omega
/-! Short texts read, sealed texts opened. -/
theorem rvR_tells (s : ByteArray) (a n nx : Int) (h : rvR s a = (n, nx, true)) : ∃ u : Nat, 0 ≤ a ∧ 0 ≤ n ∧ n ≤ 1000000000 ∧ nx = a + u ∧ 1 ≤ u ∧ u ≤ 5 ∧ nx ≤ (s.size : Int) ∧ varL n.toNat = ((bytesOf s).drop a.toNat).take u := by
  unfold rvR at h
  by_cases c : 0 ≤ a ∧ a ≤ (s.size : Int)
  · rw [if_pos c] at h
    obtain ⟨u, h1, h2, h3, h4, h5, h6, h7⟩ := rvL_tells (fun x hx => bytesOf_range s x (List.mem_of_mem_drop hx)) h
    rw [bytesOf_length_drop] at h6
    exact ⟨u, c.1, h1, h2, h4, h5, h7, by omega, h3⟩
  · rw [if_neg c] at h
    simp at h
theorem rvR_no (s : ByteArray) (a n nx : Int) (h : rvR s a = (n, nx, false)) : n = 0 ∧ nx = 0 := by
  unfold rvR rvL at h
  split at h
  · split at h
    · simp only [Prod.mk.injEq, and_true] at h; omega
    · split at h
      · simp at h
      · simp only [Prod.mk.injEq, and_true] at h; omega
  · simp only [Prod.mk.injEq, and_true] at h; omega
def rsR (s : ByteArray) (a : Int) : ByteArray × Int × Bool :=
  if (rvR s a).2.2 = true ∧ (rvR s a).1 ≤ 20000 ∧ (rvR s a).1 ≤ (s.size : Int) - (rvR s a).2.1 then (s.extract (rvR s a).2.1.toNat ((rvR s a).2.1 + (rvR s a).1).toNat, (rvR s a).2.1 + (rvR s a).1, true) else (⟨#[]⟩, 0, false)
def unsealedR (s : ByteArray) : ByteArray × Bool :=
  if 4 ≤ s.size ∧ s.size ≤ 20004 ∧ s.extract (s.size - 4) s.size = sealB (s.extract 0 (s.size - 4)) then (s.extract 0 (s.size - 4), true) else (⟨#[]⟩, false)
theorem extract_size_le (s : ByteArray) (a b : Nat) : (s.extract a b).size ≤ s.size := by
  have : (bytesOf (s.extract a b)).length ≤ s.size := by
    rw [bytesOf_extract, List.length_take, bytesOf_length_drop]; omega
  rwa [bytesOf_length] at this
/-! Lists gone through. -/
section
variable {α β : Type}
theorem drop_rdOf (d : α) (xs : List α) (i : Nat) (h : i < xs.length) : xs.drop i = rdOf d xs (i : Int) :: xs.drop (i + 1) := by
  rw [List.drop_eq_getElem_cons h]
  congr 1
  unfold rdOf
  rw [Int.toNat_natCast]
  simp [List.getD, h]
theorem drop_rd (xs : List Int) (i : Nat) (h : i < xs.length) : xs.drop i = rd xs (i : Int) :: xs.drop (i + 1) := by
  rw [List.drop_eq_getElem_cons h]
  congr 1
  unfold rd
  rw [Int.toNat_natCast]
  simp [List.getD, h]
theorem rdOf_get (d : α) (xs : List α) (i : Nat) (h : i < xs.length) : rdOf d xs (i : Int) = xs[i] := by
  unfold rdOf
  rw [Int.toNat_natCast]
  simp [List.getD, h]
theorem rd_get (xs : List Int) (i : Nat) (h : i < xs.length) : rd xs (i : Int) = xs[i] := by
  unfold rd
  rw [Int.toNat_natCast]
  simp [List.getD, h]
theorem rdOf_mem (d : α) (xs : List α) (i : Nat) (h : i < xs.length) : rdOf d xs (i : Int) ∈ xs := by
  rw [rdOf_get d xs i h]; exact List.getElem_mem h
theorem rd_mem (xs : List Int) (i : Nat) (h : i < xs.length) : rd xs (i : Int) ∈ xs := by
  rw [rd_get xs i h]; exact List.getElem_mem h
theorem set_mid (pre t : List α) (x v : α) (i : Nat) (h : pre.length = i) : (pre ++ x :: t).set i v = pre ++ v :: t := by
  subst h
  rw [List.set_append_right _ _ (Nat.le_refl _)]
  simp
theorem rdOf_mid (d : α) (pre t : List α) (x : α) (i : Nat) (h : pre.length = i) : rdOf d (pre ++ x :: t) (i : Int) = x := by
  subst h
  unfold rdOf
  rw [Int.toNat_natCast]
  simp [List.getD]
theorem rd_mid (pre t : List Int) (x : Int) (i : Nat) (h : pre.length = i) : rd (pre ++ x :: t) (i : Int) = x := by
  subst h
  unfold rd
  rw [Int.toNat_natCast]
  simp [List.getD]
/-- What is left of a measure behind a list. -/
def szL (w : α → Int) : List α → Int → Int
  | [], left => left
  | x :: t, left => if left - w x < 0 then -1 else szL w t (left - w x)
def szR (w : α → Int) (l : List α) (left : Int) : Int := if left - (l.length : Int) < 0 then -1 else szL w l (left - (l.length : Int))
def sumW (w : α → Int) : List α → Int
  | [] => 0
  | x :: t => w x + sumW w t
theorem sumW_nonneg (w : α → Int) (l : List α) (h : ∀ x ∈ l, 0 ≤ w x) : 0 ≤ sumW w l := by
  induction l with
  | nil => exact Int.le_refl 0
  | cons x t ih =>
    have h1 := h x (by simp)
    have h2 := ih (fun y hy => h y (by simp [hy]))
    unfold sumW
    omega
theorem sumW_mem (w : α → Int) (l : List α) (h : ∀ x ∈ l, 0 ≤ w x) : ∀ x ∈ l, w x ≤ sumW w l := by
  induction l with
  | nil => intro x hx; cases hx
  | cons y t ih =>
    intro x hx
    have h0 := h y (by simp)
    have h1 := sumW_nonneg w t (fun z hz => h z (by simp [hz]))
    unfold sumW
    rcases List.mem_cons.1 hx with rfl | hx
    · omega
    · have := ih (fun z hz => h z (by simp [hz])) x hx
      omega
theorem szL_tells (w : α → Int) (l : List α) (h : ∀ x ∈ l, 0 ≤ w x) : ∀ left : Int, 0 ≤ szL w l left → szL w l left = left - sumW w l := by
  induction l with
  | nil => intro left _; unfold szL sumW; omega
  | cons x t ih =>
    intro left hl
    unfold szL at hl ⊢
    unfold sumW
    split
    · rename_i hc; rw [if_pos hc] at hl; omega
    · rename_i hc
      rw [if_neg hc] at hl
      rw [ih (fun y hy => h y (by simp [hy])) _ hl]
      omega
theorem szR_tells (w : α → Int) (l : List α) (h : ∀ x ∈ l, 0 ≤ w x) (left : Int) (hl : 0 ≤ szR w l left) : szR w l left = left - (l.length : Int) - sumW w l ∧ 0 ≤ sumW w l := by
  unfold szR at hl ⊢
  have h0 := sumW_nonneg w l h
  split
  · rename_i hc; rw [if_pos hc] at hl; omega
  · rename_i hc
    rw [if_neg hc] at hl
    exact ⟨szL_tells w l h _ hl, h0⟩
theorem szR_le (w : α → Int) (l : List α) (h : ∀ x ∈ l, 0 ≤ w x) (left : Int) (h0 : 0 ≤ szR w l left) : szR w l left ≤ left := by
  have := szR_tells w l h left h0
  omega
end
/-! Marks. -/
def mtB (n : Nat) (acc : ByteArray) : ByteArray := if n = 0 then (⟨#[109]⟩ : ByteArray) ++ acc else mtB (n / 10) (strOfNums [(48 + (n : Int) % 10) % 256] ++ acc)
termination_by n
decreasing_by omega
def mtR (k : Int) : ByteArray := if k ≤ 0 then ⟨#[109, 48]⟩ else mtB k.toNat ⟨#[]⟩
theorem mtB_zero (acc : ByteArray) : mtB 0 acc = (⟨#[109]⟩ : ByteArray) ++ acc := by rw [mtB, if_pos rfl]
theorem mtB_pos {n : Nat} (h : n ≠ 0) (acc : ByteArray) : mtB n acc = mtB (n / 10) (strOfNums [(48 + (n : Int) % 10) % 256] ++ acc) := by rw [mtB, if_neg h]
def marksS (k : Int) : Nat → List ByteArray
  | 0 => []
  | n + 1 => mtR k :: marksS (k + 1) n
theorem marksS_length (n : Nat) : ∀ k, (marksS k n).length = n := by
  induction n with
  | zero => intro k; rfl
  | succ n ih => intro k; unfold marksS; rw [List.length_cons, ih]
def marksI (k : Int) : Nat → List Int
  | 0 => []
  | n + 1 => k :: marksI (k + 1) n
theorem marksI_length (n : Nat) : ∀ k, (marksI k n).length = n := by
  induction n with
  | zero => intro k; rfl
  | succ n ih => intro k; unfold marksI; rw [List.length_cons, ih]
def bwt (s : ByteArray) : Int := (s.size : Int)
theorem bwt_nonneg (s : ByteArray) : 0 ≤ bwt s := by unfold bwt; omega
/-! Places of keys. -/
def poL (s : ByteArray) : List ByteArray → Int → Int → Int
  | [], _, o => o
  | x :: t, i, o => if Op.bytesLess s.toList x.toList = true then poL s t (i + 1) o else poL s t (i + 1) i
/-! The order of texts; what is drawn. -/
theorem i64_and_range (y m : Int) (h0 : 0 ≤ m) (h1 : m ≤ 9223372036854775807) : 0 ≤ Go.bits .and .i64 y m ∧ Go.bits .and .i64 y m ≤ m := by
  unfold Go.bits
  simp only
  rw [IntKind.wrap_i64, BitVec.toNat_and]
  have h2 : (2 : Nat) ^ IntKind.i64.bits = 18446744073709551616 := by decide
  have h3 : (BitVec.ofInt IntKind.i64.bits m).toNat = m.toNat := by
    rw [BitVec.toNat_ofInt, h2]; omega
  rw [h3]
  have := Nat.and_le_right (n := (BitVec.ofInt IntKind.i64.bits y).toNat) (m := m.toNat)
  omega
theorem bl_nil_right (x : List UInt8) : Op.bytesLess x [] = false := by cases x <;> rfl
theorem bl_cons (a b : UInt8) (x y : List UInt8) : Op.bytesLess (a :: x) (b :: y) = (a < b || (a == b && Op.bytesLess x y)) := rfl
theorem bl_irrefl (x : List UInt8) : Op.bytesLess x x = false := by
  induction x with
  | nil => rfl
  | cons a x ih => rw [bl_cons, ih]; simp
theorem bl_cons_iff (a b : UInt8) (x y : List UInt8) : Op.bytesLess (a :: x) (b :: y) = true ↔ a.toNat < b.toNat ∨ (a = b ∧ Op.bytesLess x y = true) := by
  rw [bl_cons]
  simp [UInt8.lt_iff_toNat_lt]
theorem bl_trans (x : List UInt8) : ∀ y z : List UInt8, Op.bytesLess x y = true → Op.bytesLess y z = true → Op.bytesLess x z = true := by
  induction x with
  | nil =>
    intro y z h1 h2
    cases z with
    | nil => rw [bl_nil_right] at h2; cases h2
    | cons c z => rfl
  | cons a x ih =>
    intro y z h1 h2
    cases y with
    | nil => rw [bl_nil_right] at h1; cases h1
    | cons b y =>
      cases z with
      | nil => rw [bl_nil_right] at h2; cases h2
      | cons c z =>
        rw [bl_cons_iff] at h1 h2 ⊢
        rcases h1 with h1 | ⟨rfl, h1⟩
        · rcases h2 with h2 | ⟨rfl, h2⟩
          · exact .inl (by omega)
          · exact .inl h1
        · rcases h2 with h2 | ⟨rfl, h2⟩
          · exact .inl h2
          · exact .inr ⟨rfl, ih y z h1 h2⟩
theorem bl_asymm (x y : List UInt8) (h : Op.bytesLess x y = true) : ¬ Op.bytesLess y x = true := by
  intro h2
  have := bl_trans x y x h h2
  rw [bl_irrefl] at this
  cases this
theorem bl_snoc (x : List UInt8) (c : UInt8) : Op.bytesLess x (x ++ [c]) = true := by
  induction x with
  | nil => rfl
  | cons a x ih => rw [List.cons_append, bl_cons_iff]; exact .inr ⟨rfl, ih⟩
theorem bl_snoc_snoc (x : List UInt8) (c d : UInt8) (h : c.toNat < d.toNat) : Op.bytesLess (x ++ [c]) (x ++ [d]) = true := by
  induction x with
  | nil => exact (bl_cons_iff c d [] []).2 (.inl h)
  | cons a x ih => rw [List.cons_append, List.cons_append, bl_cons_iff]; exact .inr ⟨rfl, ih⟩
theorem toList_append (s t : ByteArray) : (s ++ t).toList = s.toList ++ t.toList := by
  rw [ByteArray.toList_eq, ByteArray.toList_eq, ByteArray.toList_eq, ByteArray.data_append, Array.toList_append]
theorem poL_split (s : ByteArray) (l m : List ByteArray) (hl : ∀ x ∈ l, ¬ Op.bytesLess s.toList x.toList = true) (hm : ∀ x ∈ m, Op.bytesLess s.toList x.toList = true) : ∀ i o : Int, poL s (l ++ m) i o = if l.length = 0 then o else i + l.length - 1 := by
  have hm' : ∀ i o : Int, poL s m i o = o := by
    clear hl
    induction m with
    | nil => intro i o; rfl
    | cons x t ih =>
      intro i o
      unfold poL
      rw [if_pos (hm x (by simp))]
      exact ih (fun y hy => hm y (by simp [hy])) _ _
  induction l with
  | nil => intro i o; rw [List.nil_append, hm']; rfl
  | cons x t ih =>
    intro i o
    rw [List.cons_append]
    unfold poL
    rw [if_neg (hl x (by simp)), ih (fun y hy => hl y (by simp [hy]))]
    simp only [List.length_cons]
    split <;> split <;> omega
/-- Each key ends, with a figure nought behind it, ahead of all later ones. -/
def Asc (l : List ByteArray) : Prop := ∀ i j : Nat, (hij : i < j) → (hj : j < l.length) → Op.bytesLess ((l[i]'(by omega)).toList ++ [48]) (l[j]).toList = true
theorem Asc.nil : Asc [] := fun i j _ hj => by simp at hj
theorem Asc.snoc {l : List ByteArray} (h : Asc l) (k : ByteArray) (hk : ∀ x, l.getLast? = some x → Op.bytesLess (x.toList ++ [48]) k.toList = true) : Asc (l ++ [k]) := by
  intro i j hij hj
  rw [List.length_append, List.length_singleton] at hj
  by_cases c : j < l.length
  · rw [List.getElem_append_left (by omega), List.getElem_append_left c]
    exact h i j hij c
  · have hj' : j = l.length := by omega
    subst hj'
    rw [List.getElem_append_left hij]
    have hlast : l.getLast? = some (l[l.length - 1]'(by omega)) := by
      rw [List.getLast?_eq_getElem?, List.getElem?_eq_getElem (by omega)]
    have hk' := hk _ hlast
    have he : (l ++ [k])[l.length]'(by simp) = k := by simp
    rw [he]
    by_cases ci : i = l.length - 1
    · subst ci; exact hk'
    · exact bl_trans _ _ _ (h i (l.length - 1) (by omega) (by omega)) (bl_trans _ _ _ (bl_snoc _ 48) hk')
theorem Asc.place {l : List ByteArray} (h : Asc l) (i : Nat) (hi : i < l.length) : poL (l[i]) l 0 (-1) = i ∧ poL (l[i] ++ (⟨#[48]⟩ : ByteArray)) l 0 (-1) = i := by
  have hlow : ∀ x ∈ l.take (i + 1), ¬ Op.bytesLess (l[i]).toList x.toList = true := by
    intro x hx
    obtain ⟨j, hj, rfl⟩ := List.getElem_of_mem hx
    rw [List.length_take] at hj
    rw [List.getElem_take]
    by_cases c : j = i
    · subst c; rw [bl_irrefl]; decide
    · exact bl_asymm _ _ (bl_trans _ _ _ (bl_snoc _ 48) (h j i (by omega) hi))
  have hlow2 : ∀ x ∈ l.take (i + 1), ¬ Op.bytesLess ((l[i]).toList ++ [48]) x.toList = true := by
    intro x hx hb
    exact hlow x hx (bl_trans _ _ _ (bl_snoc _ 48) hb)
  have hhigh : ∀ x ∈ l.drop (i + 1), Op.bytesLess ((l[i]).toList ++ [48]) x.toList = true := by
    intro x hx
    obtain ⟨j, hj, rfl⟩ := List.getElem_of_mem hx
    rw [List.length_drop] at hj
    rw [List.getElem_drop]
    exact h i (i + 1 + j) (by omega) (by omega)
  have hlen : (l.take (i + 1)).length = i + 1 := by rw [List.length_take]; omega
  constructor
  · have key := poL_split (l[i]) (l.take (i + 1)) (l.drop (i + 1)) hlow (fun x hx => bl_trans _ _ _ (bl_snoc _ 48) (hhigh x hx)) 0 (-1)
    rw [List.take_append_drop, hlen] at key
    rw [key]
    simp
  · have e : (l[i] ++ (⟨#[48]⟩ : ByteArray)).toList = (l[i]).toList ++ [48] := by
      rw [toList_append, ByteArray.toList_eq (⟨#[48]⟩ : ByteArray)]
    have key := poL_split (l[i] ++ (⟨#[48]⟩ : ByteArray)) (l.take (i + 1)) (l.drop (i + 1)) (by rw [e]; exact hlow2) (by rw [e]; exact hhigh) 0 (-1)
    rw [List.take_append_drop, hlen] at key
    rw [key]
    simp
/-! Letters, ranges. -/
def lettersL (l : List Int) : Bool := l.all fun b => decide (97 ≤ b ∧ b ≤ 122)
def wordR (s : ByteArray) (most : Int) : Bool := lettersL (bytesOf s) && decide (1 ≤ (s.size : Int) ∧ (s.size : Int) ≤ most)
theorem lettersL_cons (b : Int) (t : List Int) : lettersL (b :: t) = (decide (97 ≤ b ∧ b ≤ 122) && lettersL t) := rfl
theorem idxP_step {α : Type} (p : α → Bool) (x : α) (t : List α) (i : Int) : idxP p (x :: t) i = if p x = true then i else idxP p t (i + 1) := rfl
theorem idxP_ge {α : Type} (p : α → Bool) (l : List α) : ∀ i : Int, 0 ≤ i → idxP p l i = -1 ∨ i ≤ idxP p l i := by
  induction l with
  | nil => intro i _; exact .inl rfl
  | cons x t ih =>
    intro i h
    rw [idxP_step]
    by_cases c : p x = true
    · rw [if_pos c]; exact .inr (Int.le_refl _)
    · rw [if_neg c]
      rcases ih (i + 1) (by omega) with h1 | h1
      · exact .inl h1
      · exact .inr (by omega)
theorem idxP_append {α : Type} (p : α → Bool) (l m : List α) : ∀ i : Int, idxP p (l ++ m) i = if l.any p = true then idxP p l i else idxP p m (i + l.length) := by
  induction l with
  | nil => intro i; simp
  | cons x t ih =>
    intro i
    rw [List.cons_append, idxP_step, idxP_step, List.any_cons]
    by_cases c : p x = true
    · rw [if_pos c, c]; simp
    · rw [if_neg c, ih (i + 1), if_neg c]
      have : p x = false := by simpa using c
      rw [this, Bool.false_or]
      have e : i + 1 + (t.length : Int) = i + ((x :: t).length : Int) := by simp only [List.length_cons]; omega
      rw [e]
theorem idxP_lt {α : Type} (p : α → Bool) (l : List α) : ∀ i : Int, idxP p l i < i + l.length ∨ idxP p l i = -1 := by
  induction l with
  | nil => intro i; exact .inr rfl
  | cons x t ih =>
    intro i
    rw [idxP_step]
    by_cases c : p x = true
    · rw [if_pos c]; simp only [List.length_cons]; omega
    · rw [if_neg c]
      have := ih (i + 1)
      simp only [List.length_cons]
      omega
/-- The first place at which p holds is that of x itself, if and only if p holds of nothing ahead. -/
theorem idxP_own {α : Type} (p : α → Bool) (pre t : List α) (x : α) (hx : p x = true) : idxP p (pre ++ x :: t) 0 = (pre.length : Int) ↔ pre.any p = false := by
  rw [idxP_append]
  by_cases c : pre.any p = true
  · rw [if_pos c, c]
    have := idxP_lt p pre 0
    constructor
    · intro h; omega
    · intro h; cases h
  · rw [if_neg c, idxP_step, if_pos hx]
    have : pre.any p = false := by simpa using c
    rw [this]
    simp
theorem in_dec (x a b : Int) : (if x ≥ a then some (decide (x ≤ b)) else some false) = some (decide (a ≤ x ∧ x ≤ b)) := by
  by_cases c : x ≥ a
  · rw [if_pos c]
    congr 1
    by_cases d : x ≤ b
    · rw [decide_eq_true d, decide_eq_true ⟨c, d⟩]
    · rw [decide_eq_false d, decide_eq_false (fun h => d h.2)]
  · rw [if_neg c, decide_eq_false (fun h => c h.1)]
/-! Values and keys. -/
def noZero (s : ByteArray) : Bool := (bytesOf s).all fun b => decide (b ≠ 0)
def valueOkR (kind num : Int) (text : ByteArray) : Bool :=
  if kind = 1 then decide (0 ≤ num ∧ num ≤ 999999) && decide (text.size = 0) else decide (kind = 2) && decide (num = 0) && decide ((text.size : Int) ≤ 6) && noZero text
def keyR (kind num : Int) (text : ByteArray) : ByteArray × Bool :=
  if valueOkR kind num text = true then (if kind = 1 then (strOfNums [num / 65536 % 256, num / 256 % 256, num % 256], true) else (text ++ (⟨#[0]⟩ : ByteArray), true)) else (⟨#[]⟩, false)
theorem toList_empty_iff (s : ByteArray) : (s.toList == ([] : List UInt8)) = decide (s.size = 0) := by
  rw [ByteArray.toList_eq]
  have : s.data.toList.length = s.size := data_length s
  cases h : s.data.toList with
  | nil => rw [h] at this; simp at this; rw [← this]; rfl
  | cons a t => rw [h] at this; simp at this; rw [decide_eq_false (by omega)]; rfl
theorem indexByte_lo (l : List UInt8) (c : UInt8) : Lib.indexByte l c = -1 ∨ 0 ≤ Lib.indexByte l c := by
  induction l with
  | nil => exact .inl rfl
  | cons b t ih =>
    unfold Lib.indexByte
    split
    · exact .inr (by omega)
    · split
      · exact .inl rfl
      · rename_i h
        simp only [beq_iff_eq] at h
        exact .inr (by omega)
theorem indexByte_zero (l : List UInt8) : decide (0 ≤ Lib.indexByte l 0) = !((l.map fun b => (b.toNat : Int)).all fun b => decide (b ≠ 0)) := by
  induction l with
  | nil => rfl
  | cons b t ih =>
    unfold Lib.indexByte
    rw [List.map_cons, List.all_cons]
    by_cases c : b = 0
    · subst c; rfl
    · have h1 : (b == 0) = false := by simp [c]
      have h2 : ((b.toNat : Int) ≠ 0) := fun h => c (UInt8.toNat_inj.1 (by show b.toNat = 0; omega))
      rw [h1, decide_eq_true h2, Bool.true_and, ← ih]
      simp only [Bool.false_eq_true, if_false]
      have := indexByte_lo t 0
      split
      · rename_i h
        rw [beq_iff_eq] at h
        rw [h]
      · rename_i h
        rw [beq_iff_eq] at h
        rw [decide_eq_true (by omega), decide_eq_true (by omega)]
theorem noZero_index (s : ByteArray) : decide (0 ≤ Lib.indexByte s.data.toList 0) = !noZero s := indexByte_zero _
/-! What was read of a text from one place to another. -/
def Took (s : ByteArray) (a b : Int) (x : ByteArray) : Prop := 0 ≤ a ∧ b ≤ (s.size : Int) ∧ b = a + (x.size : Int) ∧ (bytesOf s).drop a.toNat = bytesOf x ++ (bytesOf s).drop b.toNat
theorem Took.nil (s : ByteArray) (a : Int) (h : 0 ≤ a ∧ a ≤ (s.size : Int)) : Took s a a ⟨#[]⟩ := ⟨h.1, h.2, by show a = a + 0; omega, rfl⟩
theorem Took.trans {s : ByteArray} {a b c : Int} {x y : ByteArray} (h : Took s a b x) (g : Took s b c y) : Took s a c (x ++ y) := by
  obtain ⟨h1, h2, h3, h4⟩ := h
  obtain ⟨g1, g2, g3, g4⟩ := g
  refine ⟨h1, g2, by rw [ByteArray.size_append]; omega, ?_⟩
  rw [h4, g4, bytesOf_append, List.append_assoc]
theorem Took.whole {s : ByteArray} {b : Int} {x : ByteArray} (h : Took s 0 b x) (hb : b = (s.size : Int)) : x = s := by
  obtain ⟨h1, h2, h3, h4⟩ := h
  have e : (bytesOf s).drop b.toNat = [] := List.drop_eq_nil_of_le (by rw [bytesOf_length]; omega)
  rw [e, List.append_nil] at h4
  exact (bytesOf_inj h4).symm
theorem Took.all (s x t : ByteArray) : Took (s ++ x ++ t) (s.size : Int) ((s.size : Int) + (x.size : Int)) x := by
  refine ⟨by omega, by rw [ByteArray.size_append, ByteArray.size_append]; omega, rfl, ?_⟩
  have e1 : (bytesOf s).length = s.size := bytesOf_length s
  have e2 : (bytesOf x).length = x.size := bytesOf_length x
  have e3 : ((s.size : Int) + (x.size : Int)).toNat = s.size + x.size := by omega
  have l1 : ((bytesOf s) ++ (bytesOf x ++ bytesOf t)).drop s.size = bytesOf x ++ bytesOf t := List.drop_left' e1
  have l2 : ((bytesOf s) ++ (bytesOf x ++ bytesOf t)).drop (s.size + x.size) = bytesOf t := by rw [← List.drop_drop, l1]; exact List.drop_left' e2
  rw [bytesOf_append, bytesOf_append, List.append_assoc, Int.toNat_natCast, e3, l1, l2]
theorem Took.extract {s : ByteArray} {a b : Int} {x : ByteArray} (h : Took s a b x) : s.extract a.toNat b.toNat = x := by
  obtain ⟨h1, h2, h3, h4⟩ := h
  apply bytesOf_inj
  rw [bytesOf_extract, h4, show b.toNat - a.toNat = (bytesOf x).length by rw [bytesOf_length]; omega, List.take_left']
  rfl
theorem Took.of_extract (s : ByteArray) (a b : Int) (h0 : 0 ≤ a) (h1 : a ≤ b) (h2 : b ≤ (s.size : Int)) : Took s a b (s.extract a.toNat b.toNat) := by
  have hz : (s.extract a.toNat b.toNat).size = b.toNat - a.toNat := by
    rw [← bytesOf_length, bytesOf_extract, List.length_take, bytesOf_length_drop]; omega
  refine ⟨h0, h2, by rw [hz]; omega, ?_⟩
  have e : (bytesOf s).drop b.toNat = ((bytesOf s).drop a.toNat).drop (b.toNat - a.toNat) := by rw [List.drop_drop]; congr 1; omega
  rw [bytesOf_extract, e, List.take_append_drop]
theorem bytesOf_varB (n : Nat) : bytesOf (varB n) = varL n := bytesOf_strOfNums _ (varL_range n)
theorem rvR_took {s : ByteArray} {a n nx : Int} (h : rvR s a = (n, nx, true)) : Took s a nx (varB n.toNat) ∧ 0 ≤ n ∧ n ≤ 1000000000 := by
  obtain ⟨u, h1, h2, h3, h4, h5, h6, h7, h8⟩ := rvR_tells s a n nx h
  have hl : (((bytesOf s).drop a.toNat).take u).length = u := by rw [List.length_take, bytesOf_length_drop]; omega
  refine ⟨⟨h1, h7, ?_, ?_⟩, h2, h3⟩
  · rw [varB_size, h8, hl]; exact h4
  · rw [bytesOf_varB, h8, h4, show (a + (u : Int)).toNat = a.toNat + u by omega, ← List.drop_drop, List.take_append_drop]
theorem rvR_reads {s : ByteArray} {a b : Int} {n : Nat} (h : Took s a b (varB n)) (hn : n ≤ 1000000000) : rvR s a = ((n : Int), b, true) := by
  obtain ⟨h1, h2, h3, h4⟩ := h
  unfold rvR
  rw [if_pos ⟨h1, by omega⟩, h4, bytesOf_varB, rvL_reads a n _ hn, h3, varB_size]
theorem rsR_took {s t : ByteArray} {a nx : Int} (h : rsR s a = (t, nx, true)) : Took s a nx (shortB t) ∧ t.size ≤ 20000 := by
  unfold rsR at h
  rcases hr : rvR s a with ⟨n, b, ok⟩
  rw [hr] at h
  dsimp only at h
  by_cases c : ok = true ∧ n ≤ 20000 ∧ n ≤ (s.size : Int) - b
  · rw [if_pos c] at h
    obtain ⟨rfl, c2, c3⟩ := c
    obtain ⟨h1, h2, h3⟩ := rvR_took hr
    have hb : 0 ≤ b := by have := h1.1; have := h1.2.2.1; omega
    have ht := Took.of_extract s b (b + n) hb (by omega) (by omega)
    simp only [Prod.mk.injEq, and_true] at h
    obtain ⟨e1, e2⟩ := h
    rw [e1, e2] at ht
    have hz : (t.size : Int) = n := by have := ht.2.2.1; omega
    refine ⟨?_, by omega⟩
    have := h1.trans ht
    unfold shortB
    rwa [show n.toNat = t.size by omega] at this
  · rw [if_neg c] at h
    simp at h
theorem Took.split {s x y : ByteArray} {a c : Int} (h : Took s a c (x ++ y)) : Took s a (a + (x.size : Int)) x ∧ Took s (a + (x.size : Int)) c y := by
  obtain ⟨h1, h2, h3, h4⟩ := h
  rw [ByteArray.size_append] at h3
  rw [bytesOf_append, List.append_assoc] at h4
  have e : (bytesOf s).drop (a + (x.size : Int)).toNat = bytesOf y ++ (bytesOf s).drop c.toNat := by
    rw [show (a + (x.size : Int)).toNat = a.toNat + x.size by omega, ← List.drop_drop, h4, ← bytesOf_length x, List.drop_left']
    rfl
  exact ⟨⟨h1, by omega, rfl, by rw [e]; exact h4⟩, ⟨by omega, h2, by omega, e⟩⟩
theorem rsR_reads {s t : ByteArray} {a b : Int} (h : Took s a b (shortB t)) (ht : t.size ≤ 20000) : rsR s a = (t, b, true) := by
  obtain ⟨g1, g2⟩ := Took.split (x := varB t.size) (y := t) h
  have hr := rvR_reads g1 (by omega)
  unfold rsR
  rw [hr]
  dsimp only
  have hz := g2.2.2.1
  have hb := g2.2.1
  rw [if_pos ⟨rfl, by omega, by omega⟩, ← hz, g2.extract]
/-- A number is read, at most so great; what is bad stays bad. -/
def numR (s : ByteArray) (most at_ : Int) (bad : Bool) : Int × Int × Bool :=
  if bad = false ∧ (rvR s at_).2.2 = true ∧ (rvR s at_).1 ≤ most then ((rvR s at_).1, (rvR s at_).2.1, false) else (0, at_, true)
def txtR (s : ByteArray) (at_ : Int) (bad : Bool) : ByteArray × Int × Bool :=
  if bad = false ∧ (rsR s at_).2.2 = true then ((rsR s at_).1, (rsR s at_).2.1, false) else (⟨#[]⟩, at_, true)
theorem numR_bad (s : ByteArray) (most at_ : Int) : numR s most at_ true = (0, at_, true) := by unfold numR; rw [if_neg (by simp)]
theorem txtR_bad (s : ByteArray) (at_ : Int) : txtR s at_ true = (⟨#[]⟩, at_, true) := by unfold txtR; rw [if_neg (by simp)]
theorem numR_no {s : ByteArray} {most a : Int} {bad : Bool} (h : (numR s most a bad).2.2 = true) : numR s most a bad = (0, a, true) := by
  unfold numR at h ⊢
  split
  · rename_i c; rw [if_pos c] at h; cases h
  · rfl
theorem txtR_no {s : ByteArray} {a : Int} {bad : Bool} (h : (txtR s a bad).2.2 = true) : txtR s a bad = (⟨#[]⟩, a, true) := by
  unfold txtR at h ⊢
  split
  · rename_i c; rw [if_pos c] at h; cases h
  · rfl
theorem numR_took {s : ByteArray} {most a n b : Int} {bad : Bool} (h : numR s most a bad = (n, b, false)) : bad = false ∧ Took s a b (varB n.toNat) ∧ 0 ≤ n ∧ n ≤ most ∧ n ≤ 1000000000 := by
  unfold numR at h
  rcases hr : rvR s a with ⟨m, c, ok⟩
  rw [hr] at h
  dsimp only at h
  split at h
  · rename_i q
    obtain ⟨q1, rfl, q3⟩ := q
    simp only [Prod.mk.injEq, and_true] at h
    obtain ⟨rfl, rfl⟩ := h
    obtain ⟨h1, h2, h3⟩ := rvR_took hr
    exact ⟨q1, h1, h2, q3, h3⟩
  · simp at h
theorem numR_reads {s : ByteArray} {most a b : Int} {n : Nat} (h : Took s a b (varB n)) (hn : n ≤ 1000000000) (hm : (n : Int) ≤ most) : numR s most a false = ((n : Int), b, false) := by
  unfold numR
  rw [rvR_reads h hn, if_pos ⟨rfl, rfl, hm⟩]
theorem txtR_took {s t : ByteArray} {a b : Int} {bad : Bool} (h : txtR s a bad = (t, b, false)) : bad = false ∧ Took s a b (shortB t) ∧ t.size ≤ 20000 := by
  unfold txtR at h
  rcases hr : rsR s a with ⟨m, c, ok⟩
  rw [hr] at h
  dsimp only at h
  split at h
  · rename_i q
    obtain ⟨q1, rfl⟩ := q
    simp only [Prod.mk.injEq, and_true] at h
    obtain ⟨rfl, rfl⟩ := h
    obtain ⟨h1, h2⟩ := rsR_took hr
    exact ⟨q1, h1, h2⟩
  · simp at h
theorem txtR_reads {s t : ByteArray} {a b : Int} (h : Took s a b (shortB t)) (ht : t.size ≤ 20000) : txtR s a false = (t, b, false) := by
  unfold txtR
  rw [rsR_reads h ht, if_pos ⟨rfl, rfl⟩]
theorem Took.byte (s : ByteArray) (a : Int) (h0 : 0 ≤ a) (h1 : a < (s.size : Int)) : Took s a (a + 1) (strOfNums [bt s a]) := by
  obtain ⟨i, rfl⟩ := Int.eq_ofNat_of_zero_le h0
  refine ⟨h0, by omega, by rw [strOfNums_size]; rfl, ?_⟩
  have hb := bt_range s (i : Int)
  rw [bytesOf_strOfNums [bt s (i : Int)] (by intro x hx; rw [List.mem_singleton.1 hx]; exact hb), Int.toNat_natCast, bytesOf_drop s i (by omega), show ((i : Int) + 1).toNat = i + 1 by omega]
  rfl
theorem Took.byte_tells {s : ByteArray} {a b n : Int} (hn : 0 ≤ n ∧ n ≤ 255) (h : Took s a b (strOfNums [n])) : b = a + 1 ∧ a < (s.size : Int) ∧ bt s a = n := by
  obtain ⟨h1, h2, h3, h4⟩ := h
  rw [strOfNums_size] at h3
  have h3' : b = a + 1 := h3
  obtain ⟨i, rfl⟩ := Int.eq_ofNat_of_zero_le h1
  rw [bytesOf_strOfNums [n] (by intro x hx; rw [List.mem_singleton.1 hx]; exact hn), Int.toNat_natCast, bytesOf_drop s i (by omega)] at h4
  exact ⟨h3', by omega, (List.cons.inj h4).1⟩
theorem Took.self (s : ByteArray) : Took s 0 (s.size : Int) s := by
  have := Took.all ⟨#[]⟩ s ⟨#[]⟩
  rw [show (⟨#[]⟩ : ByteArray) ++ s = s from ByteArray.empty_append, show s ++ (⟨#[]⟩ : ByteArray) = s from ByteArray.append_empty] at this
  have z : (⟨#[]⟩ : ByteArray).size = 0 := rfl
  rw [z] at this
  simpa using this
/-! Loops. -/
/-- A loop, by a measure: each round either ends, or leads to a state that answers the same. -/
theorem ev_loop {σ α : Type} (g : Nat → σ → Option α) (F : σ → α) (Inv : σ → Prop) (μ : σ → Nat) (h : ∀ s, Inv s → (∀ s', Inv s' → μ s' < μ s → Ev (fun k => g k s') (F s')) → Ev (fun k => g k s) (F s)) : ∀ (s : σ), Inv s → Ev (fun k => g k s) (F s) := by
  have : ∀ (n : Nat) (s : σ), μ s = n → Inv s → Ev (fun k => g k s) (F s) := by
    intro n
    induction n using Nat.strongRecOn with
    | ind n ih =>
      intro s hs hI
      exact h s hI fun s' h1 h2 => ih (μ s') (by omega) s' rfl h1
  exact fun s hI => this _ s rfl hI
/-- A loop that goes on while p holds of the place. -/
theorem ev_every {α : Type} (g : Nat → Nat → Option α) (p : Nat → Bool) (n : Nat) {r e : α} (h0 : Ev (fun k => g k n) r) (h1 : ∀ i, i < n → p i = true → ∀ res, Ev (fun k => g k (i + 1)) res → Ev (fun k => g k i) res) (h2 : ∀ i, i < n → p i = false → Ev (fun k => g k i) e) : ∀ d i : Nat, i + d = n → Ev (fun k => g k i) (if (List.range' i d).all p = true then r else e) := by
  intro d
  induction d with
  | zero =>
    intro i hi
    have : i = n := by omega
    subst this
    exact h0
  | succ d ih =>
    intro i hi
    rw [List.range'_succ, List.all_cons]
    cases hp : p i with
    | false => exact h2 i (by omega) hp
    | true => exact h1 i (by omega) hp _ (ih (i + 1) (by omega))
theorem ite_ff (b c : Bool) : (if b = true then c else false) = (b && c) := by cases b <;> rfl
theorem bind_eq {α β : Type} {x : Option α} {a : α} {f : α → Option β} (h : x = some a) : x.bind f = f a := by rw [h]; rfl
theorem ite_tf (b : Bool) : (if b = true then true else false) = b := by cases b <;> rfl
theorem all_and (l : List Nat) (p q : Nat → Bool) : (l.all fun i => p i && q i) = (l.all p && l.all q) := by
  induction l with
  | nil => rfl
  | cons x t ih =>
    rw [List.all_cons, List.all_cons, List.all_cons, ih]
    cases p x <;> cases q x <;> cases t.all p <;> cases t.all q <;> rfl
theorem all_congr (l : List Nat) (p q : Nat → Bool) (h : ∀ i ∈ l, p i = q i) : l.all p = l.all q := by
  induction l with
  | nil => rfl
  | cons x t ih => rw [List.all_cons, List.all_cons, h x (by simp), ih fun i hi => h i (by simp [hi])]
theorem range_all_iff (n : Nat) (p : Nat → Bool) : (List.range' 0 n).all p = true ↔ ∀ i, i < n → p i = true := by
  rw [List.all_eq_true]
  constructor
  · intro h i hi; exact h i (by rw [List.mem_range'_1]; omega)
  · intro h i hi; exact h i (by rw [List.mem_range'_1] at hi; omega)
/-- A test of all elements, by their places. -/
theorem any_places {α : Type} (d : α) (p : α → Bool) (l : List α) : (List.range' 0 l.length).all (fun i => !p (rdOf d l (i : Int))) = !(l.any p) := by
  have h : ((List.range' 0 l.length).all (fun i => !p (rdOf d l (i : Int))) = true) ↔ (!(l.any p)) = true := by
    rw [range_all_iff]
    simp only [Bool.not_eq_true', List.any_eq_false]
    constructor
    · intro h x hx
      obtain ⟨i, hi, rfl⟩ := List.getElem_of_mem hx
      have := h i hi
      rw [rdOf_get d l i hi] at this
      rw [this]; decide
    · intro h i hi
      have := h _ (rdOf_mem d l i hi)
      simpa using this
  cases h1 : (List.range' 0 l.length).all (fun i => !p (rdOf d l (i : Int))) <;> cases h2 : !(l.any p) <;> rw [h1, h2] at h <;> simp at h ⊢
theorem not_any_places {α : Type} (d : α) (p : α → Bool) (l : List α) : l.any p = !((List.range' 0 l.length).all (fun i => !p (rdOf d l (i : Int)))) := by
  rw [any_places, Bool.not_not]
theorem take_succ_rdOf {α : Type} (d : α) (l : List α) (i : Nat) (h : i < l.length) : l.take (i + 1) = l.take i ++ [rdOf d l (i : Int)] := by
  rw [rdOf_get d l i h]; exact List.take_succ_eq_append_getElem h
theorem take_succ_rd (l : List Int) (i : Nat) (h : i < l.length) : l.take (i + 1) = l.take i ++ [rd l (i : Int)] := by
  rw [rd_get l i h]; exact List.take_succ_eq_append_getElem h
/-! Nodes. -/
theorem headD_drop_rdOf {α : Type} (d : α) (l : List α) (i : Nat) : (l.drop i).headD d = rdOf d l (i : Int) := by
  unfold rdOf
  rw [Int.toNat_natCast]
  by_cases h : i < l.length
  · rw [List.drop_eq_getElem_cons h]; simp [List.getD, h]
  · rw [List.drop_eq_nil_of_le (by omega)]; simp [List.getD, Nat.le_of_not_lt h]
theorem headD_drop_rd (l : List Int) (i : Nat) : (l.drop i).headD 0 = rd l (i : Int) := headD_drop_rdOf 0 l i
def ascAt (l : List ByteArray) (i : Nat) : Bool := decide (i = 0) || Op.bytesLess (rdOf ByteArray.empty l ((i : Int) - 1)).toList (rdOf ByteArray.empty l (i : Int)).toList
def fitAt (most : Int) (l : List ByteArray) (i : Nat) : Bool := !decide (((rdOf ByteArray.empty l (i : Int)).size : Int) > most)
def kidAt (l : List Int) (i : Nat) : Bool := decide (2 ≤ rd l (i : Int) ∧ rd l (i : Int) ≤ 39) && !((l.take i).any fun x => decide (x = rd l (i : Int)))
def nodeOkR (leaf : Bool) (keys vals : List ByteArray) (kids : List Int) : Bool :=
  decide (1 ≤ (keys.length : Int) ∧ (keys.length : Int) ≤ 4) && (List.range' 0 keys.length).all (ascAt keys) && (List.range' 0 keys.length).all (fitAt 24 keys) &&
  if leaf = true then decide (vals.length = keys.length) && (List.range' 0 vals.length).all (fitAt 24 vals) && decide (kids.length = 0)
  else (List.range' 0 kids.length).all (kidAt kids) && decide (kids.length = keys.length) && decide (vals.length = 0)
theorem nodeOkR_tells {leaf : Bool} {keys vals : List ByteArray} {kids : List Int} (h : nodeOkR leaf keys vals kids = true) : 1 ≤ keys.length ∧ keys.length ≤ 4 ∧ (∀ k ∈ keys, k.size ≤ 24) ∧ (leaf = true → vals.length = keys.length ∧ kids = [] ∧ ∀ v ∈ vals, v.size ≤ 24) ∧ (leaf = false → kids.length = keys.length ∧ vals = [] ∧ ∀ c ∈ kids, 2 ≤ c ∧ c ≤ 39) := by
  have fits : ∀ (l : List ByteArray), (List.range' 0 l.length).all (fitAt 24 l) = true → ∀ k ∈ l, k.size ≤ 24 := by
    intro l h k hk
    obtain ⟨i, hi, rfl⟩ := List.getElem_of_mem hk
    have := (range_all_iff _ _).1 h i hi
    unfold fitAt at this
    rw [rdOf_get _ l i hi] at this
    simp at this
    omega
  unfold nodeOkR at h
  rw [Bool.and_eq_true, Bool.and_eq_true, Bool.and_eq_true, decide_eq_true_eq] at h
  obtain ⟨⟨⟨h1, h2⟩, h3⟩, h4⟩ := h
  refine ⟨by omega, by omega, fits _ h3, fun hl => ?_, fun hl => ?_⟩
  · rw [if_pos hl, Bool.and_eq_true, Bool.and_eq_true, decide_eq_true_eq, decide_eq_true_eq] at h4
    exact ⟨h4.1.1, List.eq_nil_of_length_eq_zero h4.2, fits _ h4.1.2⟩
  · rw [if_neg (by rw [hl]; decide), Bool.and_eq_true, Bool.and_eq_true, decide_eq_true_eq, decide_eq_true_eq] at h4
    refine ⟨h4.1.2, List.eq_nil_of_length_eq_zero h4.2, fun c hc => ?_⟩
    obtain ⟨i, hi, rfl⟩ := List.getElem_of_mem hc
    have := (range_all_iff _ _).1 h4.1.1 i hi
    unfold kidAt at this
    rw [rd_get kids i hi, Bool.and_eq_true, decide_eq_true_eq] at this
    exact this.1
/-- What stands of a node behind how many. -/
def entsL (leaf : Bool) : List ByteArray → List ByteArray → List Int → ByteArray
  | [], _, _ => ⟨#[]⟩
  | k :: ks, vs, cs => (shortB k ++ (if leaf = true then shortB (vs.headD ByteArray.empty) else varB (cs.headD 0).toNat)) ++ entsL leaf ks vs.tail cs.tail
def nodeHead (leaf : Bool) (n : Nat) : ByteArray := (if leaf = true then (⟨#[108]⟩ : ByteArray) else (⟨#[98]⟩ : ByteArray)) ++ varB n
def nodeB (leaf : Bool) (keys vals : List ByteArray) (kids : List Int) : ByteArray := nodeHead leaf keys.length ++ entsL leaf keys vals kids
theorem shortB_size_upto (s : ByteArray) (m : Nat) (h : s.size ≤ m) (hm : m ≤ 1000000) : (shortB s).size ≤ 10 + m := by
  unfold shortB
  rw [ByteArray.size_append]
  have := varB_size_le s.size (by omega)
  omega
theorem entsL_size (leaf : Bool) (keys : List ByteArray) : ∀ (vals : List ByteArray) (kids : List Int), (∀ k ∈ keys, k.size ≤ 24) → (leaf = true → ∀ v ∈ vals, v.size ≤ 24) → (leaf = false → ∀ c ∈ kids, 0 ≤ c ∧ c ≤ 1000000000) → (entsL leaf keys vals kids).size ≤ 68 * keys.length := by
  induction keys with
  | nil => intro vals kids _ _ _; exact Nat.zero_le _
  | cons k ks ih =>
    intro vals kids h1 h2 h3
    unfold entsL
    rw [ByteArray.size_append, ByteArray.size_append, List.length_cons]
    have a1 := shortB_size_upto k 24 (h1 k (by simp)) (by omega)
    have a2 := ih vals.tail kids.tail (fun x hx => h1 x (by simp [hx])) (fun hl x hx => h2 hl x (List.mem_of_mem_tail hx)) (fun hl x hx => h3 hl x (List.mem_of_mem_tail hx))
    have a3 : (if leaf = true then shortB (vals.headD ByteArray.empty) else varB (kids.headD 0).toNat).size ≤ 34 := by
      cases leaf with
      | true =>
        rw [if_pos rfl]
        refine shortB_size_upto _ 24 ?_ (by omega)
        cases vals with
        | nil => exact Nat.zero_le _
        | cons v vs => exact h2 rfl v (by simp)
      | false =>
        rw [if_neg (by decide)]
        have : (kids.headD 0).toNat ≤ 1000000000 := by
          cases kids with
          | nil => exact Nat.zero_le _
          | cons v vs => have := h3 rfl v (by simp); show v.toNat ≤ _; omega
        have := varB_size_le (kids.headD 0).toNat (by omega)
        omega
    omega
theorem nodeB_size {leaf : Bool} {keys vals : List ByteArray} {kids : List Int} (h : nodeOkR leaf keys vals kids = true) : (nodeB leaf keys vals kids).size ≤ 283 := by
  obtain ⟨h1, h2, h3, h4, h5⟩ := nodeOkR_tells h
  have := entsL_size leaf keys vals kids h3 (fun hl => (h4 hl).2.2) (fun hl c hc => by have := (h5 hl).2.2 c hc; omega)
  have hv := varB_size_le keys.length (by omega)
  have hh : (if leaf = true then (⟨#[108]⟩ : ByteArray) else (⟨#[98]⟩ : ByteArray)).size = 1 := by cases leaf <;> rfl
  unfold nodeB nodeHead
  rw [ByteArray.size_append, ByteArray.size_append, hh]
  omega
def nodeTextR (leaf : Bool) (keys vals : List ByteArray) (kids : List Int) : ByteArray × Bool :=
  if nodeOkR leaf keys vals kids = true then (nodeB leaf keys vals kids ++ sealB (nodeB leaf keys vals kids), true) else (⟨#[]⟩, false)
/-- What is read of a node behind how many: so many times a key and a value or a kid. -/
def ndP (s : ByteArray) (leaf stop : Bool) (most : Int) : Nat → Int → Bool → List ByteArray → List ByteArray → List Int → Int × Bool × List ByteArray × List ByteArray × List Int
  | 0, a, bad, K, V, C => (a, bad, K, V, C)
  | d + 1, a, bad, K, V, C =>
    if (stop && bad) = true then (a, bad, K, V, C)
    else if leaf = true then ndP s leaf stop most d (txtR s (txtR s a bad).2.1 (txtR s a bad).2.2).2.1 (txtR s (txtR s a bad).2.1 (txtR s a bad).2.2).2.2 (K ++ [(txtR s a bad).1]) (V ++ [(txtR s (txtR s a bad).2.1 (txtR s a bad).2.2).1]) C
    else ndP s leaf stop most d (numR s most (txtR s a bad).2.1 (txtR s a bad).2.2).2.1 (numR s most (txtR s a bad).2.1 (txtR s a bad).2.2).2.2 (K ++ [(txtR s a bad).1]) V (C ++ [(numR s most (txtR s a bad).2.1 (txtR s a bad).2.2).1])
theorem ndP_bad (s : ByteArray) (leaf stop : Bool) (most : Int) (d : Nat) : ∀ (a : Int) (K V : List ByteArray) (C : List Int), (ndP s leaf stop most d a true K V C).2.1 = true := by
  induction d with
  | zero => intro a K V C; rfl
  | succ d ih =>
    intro a K V C
    unfold ndP
    split
    · rfl
    · rw [txtR_bad]
      dsimp only
      rw [txtR_bad, numR_bad]
      dsimp only
      split
      · exact ih _ _ _ _
      · exact ih _ _ _ _
/-- What was read and is not bad stands in the text so. -/
theorem ndP_took (s : ByteArray) (leaf stop : Bool) (most : Int) (d : Nat) : ∀ (a : Int) (bad : Bool) (K V : List ByteArray) (C : List Int), 0 ≤ a ∧ a ≤ (s.size : Int) → (ndP s leaf stop most d a bad K V C).2.1 = false →
    ∃ (ks vs : List ByteArray) (cs : List Int) (b : Int), ndP s leaf stop most d a bad K V C = (b, false, K ++ ks, V ++ vs, C ++ cs) ∧ bad = false ∧ ks.length = d ∧ Took s a b (entsL leaf ks vs cs) := by
  induction d with
  | zero =>
    intro a bad K V C ha h
    change bad = false at h
    subst h
    exact ⟨[], [], [], a, by simp [ndP], rfl, rfl, Took.nil s a ha⟩
  | succ d ih =>
    intro a bad K V C ha h
    cases bad with
    | true => rw [ndP_bad] at h; cases h
    | false =>
      unfold ndP at h ⊢
      rw [if_neg (by simp)] at h ⊢
      rcases hx : txtR s a false with ⟨k, a1, b1⟩
      rw [hx] at h
      dsimp only at h ⊢
      cases b1 with
      | true =>
        rw [txtR_bad, numR_bad] at h
        dsimp only at h
        split at h
        · rw [ndP_bad] at h; cases h
        · rw [ndP_bad] at h; cases h
      | false =>
        obtain ⟨_, t1, _⟩ := txtR_took hx
        have ha1 : 0 ≤ a1 ∧ a1 ≤ (s.size : Int) := ⟨by have := t1.1; have := t1.2.2.1; omega, t1.2.1⟩
        cases leaf with
        | true =>
          rw [if_pos rfl] at h ⊢
          rcases hy : txtR s a1 false with ⟨v, a2, b2⟩
          rw [hy] at h
          dsimp only at h ⊢
          cases b2 with
          | true => rw [ndP_bad] at h; cases h
          | false =>
            obtain ⟨_, t2, _⟩ := txtR_took hy
            have ha2 : 0 ≤ a2 ∧ a2 ≤ (s.size : Int) := ⟨by have := t2.1; have := t2.2.2.1; omega, t2.2.1⟩
            obtain ⟨ks, vs, cs, b, e, _, hl, ht⟩ := ih a2 false (K ++ [k]) (V ++ [v]) C ha2 h
            refine ⟨k :: ks, v :: vs, cs, b, by rw [e]; simp, rfl, by simp [hl], ?_⟩
            have := (t1.trans t2).trans ht
            cases cs with
            | nil => exact this
            | cons c cs => 
              have e2 : ∀ (ks vs : List ByteArray) (c1 c2 : List Int), entsL true ks vs c1 = entsL true ks vs c2 := by
                intro ks
                induction ks with
                | nil => intro vs c1 c2; rfl
                | cons x xs ihx => intro vs c1 c2; unfold entsL; rw [ihx vs.tail c1.tail c2.tail]; rfl
              rw [e2 ks vs (c :: cs) cs] at this
              exact this
        | false =>
          rw [if_neg (by decide)] at h ⊢
          rcases hy : numR s most a1 false with ⟨v, a2, b2⟩
          rw [hy] at h
          dsimp only at h ⊢
          cases b2 with
          | true => rw [ndP_bad] at h; cases h
          | false =>
            obtain ⟨_, t2, _⟩ := numR_took hy
            have ha2 : 0 ≤ a2 ∧ a2 ≤ (s.size : Int) := ⟨by have := t2.1; have := t2.2.2.1; omega, t2.2.1⟩
            obtain ⟨ks, vs, cs, b, e, _, hl, ht⟩ := ih a2 false (K ++ [k]) V (C ++ [v]) ha2 h
            refine ⟨k :: ks, vs, v :: cs, b, by rw [e]; simp, rfl, by simp [hl], ?_⟩
            have := (t1.trans t2).trans ht
            have e2 : ∀ (ks v1 v2 : List ByteArray) (cs : List Int), entsL false ks v1 cs = entsL false ks v2 cs := by
              intro ks
              induction ks with
              | nil => intro v1 v2 cs; rfl
              | cons x xs ihx => intro v1 v2 cs; unfold entsL; rw [ihx v1.tail v2.tail cs.tail]; rfl
            rw [e2 ks vs vs.tail cs] at this
            exact this
/-- What stands there so is read. -/
theorem ndP_reads (s : ByteArray) (leaf stop : Bool) (most : Int) (hm : 39 ≤ most) (keys : List ByteArray) : ∀ (vals : List ByteArray) (kids : List Int) (a b : Int) (K V : List ByteArray) (C : List Int), (∀ k ∈ keys, k.size ≤ 24) → (leaf = true → vals.length = keys.length ∧ kids = [] ∧ ∀ v ∈ vals, v.size ≤ 24) → (leaf = false → kids.length = keys.length ∧ vals = [] ∧ ∀ c ∈ kids, 2 ≤ c ∧ c ≤ 39) →
    Took s a b (entsL leaf keys vals kids) → ndP s leaf stop most keys.length a false K V C = (b, false, K ++ keys, V ++ vals, C ++ kids) := by
  induction keys with
  | nil =>
    intro vals kids a b K V C _ h2 h3 ht
    have hb : b = a := by have := ht.2.2.1; change b = a + 0 at this; omega
    subst hb
    cases leaf with
    | true =>
      obtain ⟨g1, rfl, _⟩ := h2 rfl
      rw [List.eq_nil_of_length_eq_zero g1]
      simp [ndP]
    | false =>
      obtain ⟨g1, rfl, _⟩ := h3 rfl
      rw [List.eq_nil_of_length_eq_zero g1]
      simp [ndP]
  | cons k ks ih =>
    intro vals kids a b K V C h1 h2 h3 ht
    rw [List.length_cons]
    have hk := h1 k (by simp)
    cases leaf with
    | true =>
      obtain ⟨g1, rfl, g3⟩ := h2 rfl
      obtain ⟨v, vs, rfl⟩ : ∃ v vs, vals = v :: vs := by
        cases vals with
        | nil => simp at g1
        | cons v vs => exact ⟨v, vs, rfl⟩
      have ht' : Took s a b ((shortB k ++ shortB v) ++ entsL true ks vs []) := ht
      obtain ⟨t12, t3⟩ := Took.split ht'
      obtain ⟨t1, t2⟩ := Took.split t12
      have hv := g3 v (by simp)
      unfold ndP
      rw [if_neg (by simp), txtR_reads t1 (by omega)]
      dsimp only
      rw [if_pos rfl, txtR_reads t2 (by omega)]
      dsimp only
      rw [ih vs [] _ _ (K ++ [k]) (V ++ [v]) C (fun x hx => h1 x (by simp [hx])) (fun _ => ⟨by simpa using g1, rfl, fun x hx => g3 x (by simp [hx])⟩) (fun h => by cases h) t3]
      simp
    | false =>
      obtain ⟨g1, rfl, g3⟩ := h3 rfl
      obtain ⟨c, cs, rfl⟩ : ∃ c cs, kids = c :: cs := by
        cases kids with
        | nil => simp at g1
        | cons v vs => exact ⟨v, vs, rfl⟩
      have ht' : Took s a b ((shortB k ++ varB c.toNat) ++ entsL false ks [] cs) := ht
      obtain ⟨t12, t3⟩ := Took.split ht'
      obtain ⟨t1, t2⟩ := Took.split t12
      have hv := g3 c (by simp)
      have hr := numR_reads (most := most) t2 (show c.toNat ≤ 1000000000 by omega) (by omega)
      unfold ndP
      rw [if_neg (by simp), txtR_reads t1 (by omega)]
      dsimp only
      rw [if_neg (by decide), hr]
      dsimp only
      rw [ih [] cs _ _ (K ++ [k]) V (C ++ [(c.toNat : Int)]) (fun x hx => h1 x (by simp [hx])) (fun h => by cases h) (fun _ => ⟨by simpa using g1, rfl, fun x hx => g3 x (by simp [hx])⟩) t3]
      simp
      omega
/-! Numbers in a row; seen pages. -/
def pagesB : List Int → ByteArray
  | [] => ⟨#[]⟩
  | p :: t => varB p.toNat ++ pagesB t
theorem varB_size_int (n : Int) (h : n ≤ 1000000000) : (varB n.toNat).size ≤ 10 := varB_size_le _ (by omega)
theorem pagesB_size (l : List Int) (h : ∀ x ∈ l, x ≤ 1000000000) : (pagesB l).size ≤ 10 * l.length := by
  induction l with
  | nil => exact Nat.zero_le _
  | cons p t ih =>
    unfold pagesB
    rw [ByteArray.size_append, List.length_cons]
    have h1 := varB_size_int p (h p (by simp))
    have h2 := ih (fun x hx => h x (by simp [hx]))
    omega
def pgAt (next : Int) (l : List Int) (k : Nat) : Bool := decide (2 ≤ rd l (k : Int) ∧ rd l (k : Int) ≤ next - 1) && (decide (k = 0) || decide (rd l ((k : Int) - 1) < rd l (k : Int)))
def seenL : List Int → List Int → Bool
  | _, [] => true
  | seen, p :: t => if (seen.any fun x => decide (x = p)) = true then false else seenL (seen ++ [p]) t
/-- So many numbers are read. -/
def pgP (s : ByteArray) (stop : Bool) : Nat → Int → Bool → List Int → Int × Bool × List Int
  | 0, a, bad, P => (a, bad, P)
  | d + 1, a, bad, P => if (stop && bad) = true then (a, bad, P) else pgP s stop d (numR s 1000000000 a bad).2.1 (numR s 1000000000 a bad).2.2 (P ++ [(numR s 1000000000 a bad).1])
theorem pgP_bad (s : ByteArray) (stop : Bool) (d : Nat) : ∀ (a : Int) (P : List Int), (pgP s stop d a true P).2.1 = true := by
  induction d with
  | zero => intro a P; rfl
  | succ d ih =>
    intro a P
    unfold pgP
    split
    · rfl
    · rw [numR_bad]; exact ih _ _
theorem pgP_reads (s : ByteArray) (stop : Bool) (l : List Int) : ∀ (a b : Int) (P : List Int), (∀ x ∈ l, 0 ≤ x ∧ x ≤ 1000000000) → Took s a b (pagesB l) → pgP s stop l.length a false P = (b, false, P ++ l) := by
  induction l with
  | nil =>
    intro a b P _ ht
    have hb : b = a := by have := ht.2.2.1; change b = a + 0 at this; omega
    subst hb
    simp [pgP]
  | cons p t ih =>
    intro a b P h ht
    unfold pagesB at ht
    obtain ⟨t1, t2⟩ := Took.split ht
    have hp := h p (by simp)
    rw [List.length_cons]
    unfold pgP
    rw [if_neg (by simp), numR_reads t1 (by omega) (by omega)]
    dsimp only
    rw [ih _ _ _ (fun x hx => h x (by simp [hx])) t2]
    simp
    omega
theorem pgP_range (s : ByteArray) (stop : Bool) (d : Nat) : ∀ (a : Int) (bad : Bool) (P : List Int), (∀ x ∈ P, 0 ≤ x ∧ x ≤ 1000000000) → 0 ≤ a ∧ a ≤ (s.size : Int) → (pgP s stop d a bad P).2.2.length ≤ P.length + d ∧ (∀ x ∈ (pgP s stop d a bad P).2.2, 0 ≤ x ∧ x ≤ 1000000000) ∧ 0 ≤ (pgP s stop d a bad P).1 ∧ (pgP s stop d a bad P).1 ≤ (s.size : Int) := by
  induction d with
  | zero => intro a bad P h ha; exact ⟨by simp [pgP], h, ha⟩
  | succ d ih =>
    intro a bad P h ha
    unfold pgP
    split
    · exact ⟨by simp, h, ha⟩
    · have hn : 0 ≤ (numR s 1000000000 a bad).1 ∧ (numR s 1000000000 a bad).1 ≤ 1000000000 ∧ 0 ≤ (numR s 1000000000 a bad).2.1 ∧ (numR s 1000000000 a bad).2.1 ≤ (s.size : Int) := by
        rcases hr : numR s 1000000000 a bad with ⟨n, b, c⟩
        cases c with
        | false =>
          obtain ⟨_, t, h1, h2, _⟩ := numR_took hr
          have := t.1; have := t.2.1; have := t.2.2.1
          exact ⟨h1, h2, by dsimp only; omega, by dsimp only; omega⟩
        | true =>
          have e := numR_no (by rw [hr] : (numR s 1000000000 a bad).2.2 = true)
          rw [hr] at e
          cases e
          exact ⟨Int.le_refl 0, by show (0 : Int) ≤ 1000000000; omega, ha⟩
      have := ih (numR s 1000000000 a bad).2.1 (numR s 1000000000 a bad).2.2 (P ++ [(numR s 1000000000 a bad).1]) (by
        intro x hx
        rcases List.mem_append.1 hx with hx | hx
        · exact h x hx
        · rw [List.mem_singleton.1 hx]; exact ⟨hn.1, hn.2.1⟩) hn.2.2
      rw [List.length_append, List.length_singleton] at this
      exact ⟨by omega, this.2⟩
theorem extract_left (x y : ByteArray) : (x ++ y).extract 0 x.size = x := by
  have h := (Took.all ⟨#[]⟩ x y).extract
  have e : (⟨#[]⟩ : ByteArray) ++ x = x := ByteArray.empty_append
  have z : (⟨#[]⟩ : ByteArray).size = 0 := rfl
  rw [e, z] at h
  simpa using h
theorem extract_right (x y : ByteArray) : (x ++ y).extract x.size (x ++ y).size = y := by
  have h := (Took.all x y ⟨#[]⟩).extract
  have e : x ++ y ++ (⟨#[]⟩ : ByteArray) = x ++ y := ByteArray.append_empty
  rw [e] at h
  rw [ByteArray.size_append]
  have e2 : ((x.size : Int) + (y.size : Int)).toNat = x.size + y.size := by omega
  rw [e2, Int.toNat_natCast] at h
  exact h
theorem unsealedR_sealed (x : ByteArray) (h : x.size ≤ 20000) : unsealedR (x ++ sealB x) = (x, true) := by
  have hz := sealB_size x
  have hs : (x ++ sealB x).size = x.size + 4 := by rw [ByteArray.size_append, hz]
  have e1 := extract_left x (sealB x)
  have e2 := extract_right x (sealB x)
  unfold unsealedR
  rw [show (x ++ sealB x).size - 4 = x.size by omega, e1, e2, if_pos ⟨by omega, by omega, rfl⟩]
theorem unsealedR_tells {s x : ByteArray} (h : unsealedR s = (x, true)) : s = x ++ sealB x ∧ x.size ≤ 20000 ∧ s.size = x.size + 4 := by
  unfold unsealedR at h
  split at h
  · rename_i c
    obtain ⟨c1, c2, c3⟩ := c
    simp only [Prod.mk.injEq, and_true] at h
    have h0 := Took.of_extract s 0 ((s.size - 4 : Nat) : Int) (by omega) (by omega) (by omega)
    have h1 := Took.of_extract s ((s.size - 4 : Nat) : Int) (s.size : Int) (by omega) (by omega) (by omega)
    have h2 := (h0.trans h1).whole rfl
    rw [Int.toNat_natCast, Int.toNat_natCast, c3] at h2
    rw [show (0 : Int).toNat = 0 from rfl, h] at h2
    have hz := sealB_size x
    have : s.size = x.size + 4 := by rw [← h2, ByteArray.size_append, hz]
    exact ⟨h2.symm, by omega, this⟩
  · simp at h
theorem unsealedR_no {s x : ByteArray} (h : unsealedR s = (x, false)) : x = ⟨#[]⟩ := by
  unfold unsealedR at h
  split at h
  · simp at h
  · simp only [Prod.mk.injEq, and_true] at h; exact h.symm
theorem sealed_inj {x y : ByteArray} (hx : x.size ≤ 20000) (hy : y.size ≤ 20000) (h : x ++ sealB x = y ++ sealB y) : x = y := by
  have h1 := unsealedR_sealed x hx
  rw [h, unsealedR_sealed y hy] at h1
  exact (Prod.mk.inj h1).1.symm
/-! Nodes read. -/
theorem nodeTextR_tells {leaf : Bool} {keys vals : List ByteArray} {kids : List Int} {t : ByteArray} (h : nodeTextR leaf keys vals kids = (t, true)) : nodeOkR leaf keys vals kids = true ∧ t = nodeB leaf keys vals kids ++ sealB (nodeB leaf keys vals kids) := by
  unfold nodeTextR at h
  split at h
  · simp only [Prod.mk.injEq, and_true] at h; exact ⟨by assumption, h.symm⟩
  · simp at h
/-- How many, then so many; from the place 1 on. -/
def nodeP (s : ByteArray) (leaf stop bad : Bool) (mostN : Int) (cap : Nat) (mostK : Int) : Int × Bool × List ByteArray × List ByteArray × List Int :=
  ndP s leaf stop mostK (min (numR s mostN 1 bad).1.toNat cap) (numR s mostN 1 bad).2.1 (numR s mostN 1 bad).2.2 [] [] []
def nodeByte (leaf : Bool) : Int := if leaf = true then 108 else 98
theorem nodeHead_eq (leaf : Bool) (n : Nat) : nodeHead leaf n = strOfNums [nodeByte leaf] ++ varB n := by cases leaf <;> rfl
theorem nodeB_first (leaf : Bool) (keys vals : List ByteArray) (kids : List Int) : bt (nodeB leaf keys vals kids) 0 = nodeByte leaf ∧ 2 ≤ (nodeB leaf keys vals kids).size := by
  have h := Took.self (nodeB leaf keys vals kids)
  have h' : Took (nodeB leaf keys vals kids) 0 ((nodeB leaf keys vals kids).size : Int) ((strOfNums [nodeByte leaf] ++ varB keys.length) ++ entsL leaf keys vals kids) := by
    rw [← nodeHead_eq]; exact h
  have hb : 0 ≤ nodeByte leaf ∧ nodeByte leaf ≤ 255 := by cases leaf <;> decide
  have t := ((h'.split).1.split)
  obtain ⟨e1, e2, e3⟩ := Took.byte_tells hb t.1
  have hv := varL_length_pos keys.length
  have := t.2.2.1
  have h2 := t.2.2.2.1
  rw [varB_size] at h2
  rw [strOfNums_size] at h2
  have h2' : 0 + (1 : Int) + ((varL keys.length).length : Int) ≤ ((nodeB leaf keys vals kids).size : Int) := by
    have := (h'.split).1.2.1
    rw [ByteArray.size_append, varB_size, strOfNums_size] at this
    have e : ([nodeByte leaf] : List Int).length = 1 := rfl
    rw [e] at this
    omega
  exact ⟨e3, by omega⟩
theorem nodeP_reads {leaf : Bool} {keys vals : List ByteArray} {kids : List Int} (h : nodeOkR leaf keys vals kids = true) (stop : Bool) (mostN : Int) (cap : Nat) (mostK : Int) (h1 : 4 ≤ mostN) (h2 : 4 ≤ cap) (h3 : 39 ≤ mostK) :
    nodeP (nodeB leaf keys vals kids) leaf stop false mostN cap mostK = (((nodeB leaf keys vals kids).size : Int), false, keys, vals, kids) := by
  obtain ⟨g1, g2, g3, g4, g5⟩ := nodeOkR_tells h
  have t0 := Took.self (nodeB leaf keys vals kids)
  have t1 : Took (nodeB leaf keys vals kids) 0 ((nodeB leaf keys vals kids).size : Int) ((strOfNums [nodeByte leaf] ++ varB keys.length) ++ entsL leaf keys vals kids) := by
    rw [← nodeHead_eq]; exact t0
  generalize nodeB leaf keys vals kids = B at t1 ⊢
  obtain ⟨t2, t3⟩ := Took.split t1
  obtain ⟨t4, t5⟩ := Took.split t2
  have hb : 0 ≤ nodeByte leaf ∧ nodeByte leaf ≤ 255 := by cases leaf <;> decide
  obtain ⟨e1, _, _⟩ := Took.byte_tells hb t4
  rw [e1, Int.zero_add] at t5
  have r1 := numR_reads (most := mostN) t5 (by omega) (by omega)
  unfold nodeP
  rw [r1]
  dsimp only
  rw [Int.toNat_natCast, Nat.min_eq_left (by omega), ndP_reads B leaf stop mostK h3 keys vals kids _ _ [] [] [] g3 g4 g5 t3]
  simp
def nodeZero : Bool × List ByteArray × List ByteArray × List Int × Bool := (false, [], [], [], false)
def readNodeR (t : ByteArray) : Bool × List ByteArray × List ByteArray × List Int × Bool :=
  if (unsealedR t).2 = true ∧ 2 ≤ (unsealedR t).1.size then
    (let leaf := decide (bt (unsealedR t).1 0 = 108)
     let p := nodeP (unsealedR t).1 leaf true false 1000000000 10 1000000000
     if p.2.1 = false ∧ nodeTextR leaf p.2.2.1 p.2.2.2.1 p.2.2.2.2 = (t, true) then (leaf, p.2.2.1, p.2.2.2.1, p.2.2.2.2, true) else nodeZero)
  else nodeZero
theorem decide_leaf (leaf : Bool) : decide (nodeByte leaf = 108) = leaf := by cases leaf <;> rfl
theorem readNodeR_text {leaf : Bool} {keys vals : List ByteArray} {kids : List Int} {t : ByteArray} (h : nodeTextR leaf keys vals kids = (t, true)) : readNodeR t = (leaf, keys, vals, kids, true) := by
  obtain ⟨h1, rfl⟩ := nodeTextR_tells h
  have hz := nodeB_size h1
  obtain ⟨f1, f2⟩ := nodeB_first leaf keys vals kids
  unfold readNodeR
  rw [unsealedR_sealed _ (by omega)]
  dsimp only
  rw [if_pos ⟨rfl, f2⟩, f1, decide_leaf, nodeP_reads h1 true 1000000000 10 1000000000 (by omega) (by omega) (by omega)]
  dsimp only
  rw [if_pos ⟨rfl, h⟩]
theorem readNodeR_tells {leaf : Bool} {keys vals : List ByteArray} {kids : List Int} {t : ByteArray} (h : readNodeR t = (leaf, keys, vals, kids, true)) : nodeTextR leaf keys vals kids = (t, true) := by
  unfold readNodeR nodeZero at h
  split at h
  · dsimp only at h
    split at h
    · rename_i c
      cases h
      exact c.2
    · simp at h
  · simp at h
theorem readNodeR_no {leaf : Bool} {keys vals : List ByteArray} {kids : List Int} {t : ByteArray} (h : readNodeR t = (leaf, keys, vals, kids, false)) : readNodeR t = nodeZero := by
  unfold readNodeR at h ⊢
  split at h
  · rename_i c
    rw [if_pos c]
    dsimp only at h ⊢
    split at h
    · simp at h
    · rename_i c2
      rw [if_neg c2]
  · rename_i c
    rw [if_neg c]
/-- The other way to read: nothing is written again. -/
theorem readNodeR_impl (t : ByteArray) : readNodeR t =
    if (unsealedR t).2 = true ∧ (unsealedR t).1.size ≠ 0 then
      (let leaf := decide (bt (unsealedR t).1 0 = 108)
       let p := nodeP (unsealedR t).1 leaf false (!decide (bt (unsealedR t).1 0 = 108) && !decide (bt (unsealedR t).1 0 = 98)) 4 4 40
       if p.2.1 = false ∧ p.1 = ((unsealedR t).1.size : Int) ∧ nodeOkR leaf p.2.2.1 p.2.2.2.1 p.2.2.2.2 = true then (leaf, p.2.2.1, p.2.2.2.1, p.2.2.2.2, true) else nodeZero)
    else nodeZero := by
  rcases hr : readNodeR t with ⟨leaf, keys, vals, kids, ok⟩
  cases ok with
  | true =>
    have h := readNodeR_tells hr
    obtain ⟨h1, rfl⟩ := nodeTextR_tells h
    have hz := nodeB_size h1
    obtain ⟨f1, f2⟩ := nodeB_first leaf keys vals kids
    rw [unsealedR_sealed _ (by omega)]
    dsimp only
    have hbad : (!decide (nodeByte leaf = 108) && !decide (nodeByte leaf = 98)) = false := by cases leaf <;> rfl
    rw [if_pos ⟨rfl, by omega⟩, f1, decide_leaf]
    rw [decide_leaf] at hbad
    rw [hbad, nodeP_reads h1 false 4 4 40 (by omega) (by omega) (by omega)]
    dsimp only
    rw [if_pos ⟨rfl, rfl, h1⟩]
  | false =>
    have hn := readNodeR_no hr
    rw [← hr, hn]
    by_cases c : (unsealedR t).2 = true ∧ (unsealedR t).1.size ≠ 0
    · rw [if_pos c]
      dsimp only
      obtain ⟨u1, u2⟩ := c
      rcases hu : unsealedR t with ⟨B, ub⟩
      rw [hu] at u1 u2
      dsimp only at u1 u2 ⊢
      subst u1
      obtain ⟨ht, hB, _⟩ := unsealedR_tells hu
      generalize hleaf : decide (bt B 0 = 108) = leaf at *
      generalize hbad : (!leaf && !decide (bt B 0 = 98)) = bad
      split
      · rename_i c2
        exfalso
        obtain ⟨c3, c4, c5⟩ := c2
        unfold nodeP at c3 c4 c5
        rcases hk : numR B 4 1 bad with ⟨k, a, b1⟩
        rw [hk] at c3 c4 c5
        dsimp only at c3 c4 c5
        cases b1 with
        | true => rw [ndP_bad] at c3; cases c3
        | false =>
          obtain ⟨hb, t1, k0, k4, _⟩ := numR_took hk
          have ha : 0 ≤ a ∧ a ≤ (B.size : Int) := ⟨by have := t1.1; have := t1.2.2.1; omega, t1.2.1⟩
          obtain ⟨ks, vs, cs, b, e, _, hl, t2⟩ := ndP_took B leaf false 40 _ a false [] [] [] ha c3
          rw [e] at c4 c5
          dsimp only at c4 c5
          rw [List.nil_append, List.nil_append, List.nil_append] at c5
          have hfirst : bt B 0 = nodeByte leaf := by
            rw [hb] at hbad
            cases hl2 : leaf with
            | true => rw [hl2] at hleaf; exact of_decide_eq_true hleaf
            | false =>
              rw [hl2] at hbad
              simp at hbad
              exact hbad
          have t3 := ((Took.byte B 0 (by omega) (by omega)).trans t1).trans t2
          rw [hfirst] at t3
          have hmin : min k.toNat 4 = k.toNat := Nat.min_eq_left (by omega)
          rw [hmin] at hl
          rw [← hl, ← nodeHead_eq] at t3
          have hw : nodeB leaf ks vs cs = B := t3.whole c4
          have : nodeTextR leaf ks vs cs = (t, true) := by unfold nodeTextR; rw [if_pos c5, hw, ← ht]
          rw [readNodeR_text this] at hn
          unfold nodeZero at hn
          simp at hn
      · rfl
    · rw [if_neg c]
/-! A sealed text with one byte turned is not one. -/
theorem bits_xor_u8 (a b : Int) (ha : 0 ≤ a ∧ a < 256) (hb : 0 ≤ b ∧ b < 256) : Go.bits .xor .u8 a b = ((a.toNat ^^^ b.toNat : Nat) : Int) := by
  obtain ⟨x, rfl⟩ := Int.eq_ofNat_of_zero_le ha.1
  obtain ⟨y, rfl⟩ := Int.eq_ofNat_of_zero_le hb.1
  unfold Go.bits
  simp only [BitVec.ofInt_natCast, BitVec.toNat_xor, BitVec.toNat_ofNat, Int.toNat_natCast]
  have e : (2 : Nat) ^ IntKind.u8.bits = 256 := by decide
  rw [e, Nat.mod_eq_of_lt (by omega), Nat.mod_eq_of_lt (by omega), IntKind.wrap_u8]
  have := Nat.xor_lt_two_pow (n := 8) (show x < 2 ^ 8 by omega) (show y < 2 ^ 8 by omega)
  omega
theorem xor_u8_turns (a b : Int) (ha : 0 ≤ a ∧ a < 256) (hb : 0 < b ∧ b < 256) : 0 ≤ Go.bits .xor .u8 a b ∧ Go.bits .xor .u8 a b ≤ 255 ∧ Go.bits .xor .u8 a b ≠ a := by
  rw [bits_xor_u8 a b ha (by omega)]
  have := Nat.xor_lt_two_pow (n := 8) (show a.toNat < 2 ^ 8 by omega) (show b.toNat < 2 ^ 8 by omega)
  refine ⟨by omega, by omega, fun h => ?_⟩
  have h1 : a.toNat ^^^ b.toNat = a.toNat ^^^ 0 := by rw [Nat.xor_zero]; omega
  have := nat_xor_cancel_left _ _ _ h1
  omega
theorem turned_no (x : ByteArray) (hx : x.size ≤ 20000) (i : Nat) (v : Int) (hi : i < x.size + 4) (hv : 0 ≤ v ∧ v ≤ 255) (hne : v ≠ rd (bytesOf (x ++ sealB x)) (i : Int)) : (unsealedR (strOfNums ((bytesOf (x ++ sealB x)).set i v))).2 = false := by
  rcases h : unsealedR (strOfNums ((bytesOf (x ++ sealB x)).set i v)) with ⟨y, ok⟩
  cases ok with
  | false => rfl
  | true =>
    exfalso
    obtain ⟨hs, hy, hz⟩ := unsealedR_tells h
    have hr : ∀ c ∈ (bytesOf (x ++ sealB x)).set i v, 0 ≤ c ∧ c ≤ 255 := by
      intro c hc
      rcases List.mem_or_eq_of_mem_set hc with h1 | h1
      · exact bytesOf_range _ c h1
      · rw [h1]; exact hv
    have lx : (bytesOf x).length = x.size := bytesOf_length x
    have ly : (bytesOf y).length = y.size := bytesOf_length y
    have ls : (bytesOf (sealB x)).length = 4 := by rw [bytesOf_length, sealB_size]
    have hb := congrArg bytesOf hs
    rw [bytesOf_strOfNums _ hr, bytesOf_append, bytesOf_append] at hb
    rw [bytesOf_append] at hne
    have hsz : y.size = x.size := by
      have := congrArg List.length hb
      rw [List.length_set, List.length_append, List.length_append, lx, ly, bytesOf_length, bytesOf_length, sealB_size, sealB_size] at this
      omega
    by_cases c : i < x.size
    · rw [List.set_append_left _ _ (by omega)] at hb
      obtain ⟨h1, h2⟩ := List.append_inj hb (by rw [List.length_set]; omega)
      have h3 := bytesOf_inj h2
      unfold sealB at h3
      have h4 := four_inj _ _ (sumR_range _ x (by omega)) (sumR_range _ y (by omega)) h3
      unfold sumR at h4
      rw [← h1, List.set_eq_take_append_cons_drop, if_pos (by omega)] at h4
      have h5 : bytesOf x = (bytesOf x).take i ++ (bytesOf x)[i]'(by omega) :: (bytesOf x).drop (i + 1) := by
        rw [← List.drop_eq_getElem_cons, List.take_append_drop]
      have hci : (bytesOf x)[i]'(by omega) = rd (bytesOf x ++ bytesOf (sealB x)) (i : Int) := by
        rw [rd_get _ i (by rw [List.length_append]; omega), List.getElem_append_left (by omega)]
      have hcr := bytesOf_range x _ (List.getElem_mem (by omega : i < (bytesOf x).length))
      refine sumL_turned 4294967295 (by omega) ((bytesOf x).take i) ((bytesOf x).drop (i + 1)) ((bytesOf x)[i]'(by omega)) v (fun z hz => bytesOf_range x z (List.mem_of_mem_drop hz)) hcr hv (fun e => hne (by rw [← hci]; exact e.symm)) ?_
      rw [← h5]
      exact h4
    · rw [List.set_append_right _ _ (by omega)] at hb
      obtain ⟨h1, h2⟩ := List.append_inj hb (by omega)
      have h3 : x = y := bytesOf_inj h1
      subst h3
      have h4 : ((bytesOf (sealB x)).set (i - (bytesOf x).length) v)[i - (bytesOf x).length]'(by rw [List.length_set]; omega) = (bytesOf (sealB x))[i - (bytesOf x).length]'(by omega) := by
        simp only [h2]
      rw [List.getElem_set_self] at h4
      apply hne
      rw [rd_get _ i (by rw [List.length_append]; omega), List.getElem_append_right (by omega)]
      exact h4
/-! Keys stand in the order of what they tell. -/
theorem bl_zero (x : List UInt8) : ∀ y : List UInt8, (∀ b ∈ x, b ≠ 0) → (∀ b ∈ y, b ≠ 0) → Op.bytesLess (x ++ [0]) (y ++ [0]) = Op.bytesLess x y := by
  have pos : ∀ b : UInt8, b ≠ 0 → ¬ b < 0 ∧ (0 : UInt8) < b := by
    intro b hb
    have h0 : b.toNat ≠ 0 := fun h => hb (UInt8.toNat_inj.1 h)
    constructor
    · intro h; rw [UInt8.lt_iff_toNat_lt] at h; exact absurd h (Nat.not_lt_zero _)
    · rw [UInt8.lt_iff_toNat_lt]; show 0 < b.toNat; omega
  induction x with
  | nil =>
    intro y _ hy
    cases y with
    | nil => rfl
    | cons b y =>
      have hb := pos b (hy b (by simp))
      show Op.bytesLess (0 :: []) (b :: (y ++ [0])) = true
      rw [bl_cons, decide_eq_true hb.2]
      rfl
  | cons a x ih =>
    intro y hx hy
    have ha := pos a (hx a (by simp))
    cases y with
    | nil =>
      show Op.bytesLess (a :: (x ++ [0])) (0 :: []) = false
      have e : (a == 0) = false := by simp [hx a (by simp)]
      rw [bl_cons, decide_eq_false ha.1, e]
      rfl
    | cons b y =>
      show Op.bytesLess (a :: (x ++ [0])) (b :: (y ++ [0])) = Op.bytesLess (a :: x) (b :: y)
      rw [bl_cons, bl_cons, ih y (fun c hc => hx c (by simp [hc])) (fun c hc => hy c (by simp [hc]))]
theorem noZero_mem {s : ByteArray} (h : noZero s = true) : ∀ b ∈ s.toList, b ≠ 0 := by
  intro b hb e
  subst e
  rw [ByteArray.toList_eq] at hb
  unfold noZero at h
  rw [List.all_eq_true] at h
  have := h (((0 : UInt8).toNat : Nat) : Int) (by unfold bytesOf; exact List.mem_map.2 ⟨0, hb, rfl⟩)
  simp at this
theorem u8_lt (a b : Int) (ha : 0 ≤ a ∧ a < 256) (hb : 0 ≤ b ∧ b < 256) : decide (UInt8.ofNat a.toNat < UInt8.ofNat b.toNat) = decide (a < b) := by
  apply decide_eq_decide.2
  rw [UInt8.lt_iff_toNat_lt, UInt8.toNat_ofNat', UInt8.toNat_ofNat']
  omega
theorem u8_eq (a b : Int) (ha : 0 ≤ a ∧ a < 256) (hb : 0 ≤ b ∧ b < 256) : (UInt8.ofNat a.toNat == UInt8.ofNat b.toNat) = decide (a = b) := by
  rw [Bool.eq_iff_iff, beq_iff_eq, decide_eq_true_eq, ← UInt8.toNat_inj, UInt8.toNat_ofNat', UInt8.toNat_ofNat']
  omega
def threeL (n : Int) : List Int := [n / 65536 % 256, n / 256 % 256, n % 256]
theorem three_less (m n : Int) (hm : 0 ≤ m ∧ m ≤ 999999) (hn : 0 ≤ n ∧ n ≤ 999999) : Op.bytesLess (strOfNums (threeL m)).toList (strOfNums (threeL n)).toList = decide (m < n) := by
  rw [strOfNums_toList, strOfNums_toList]
  unfold threeL
  simp only [List.map_cons, List.map_nil]
  rw [bl_cons, bl_cons, bl_cons, bl_irrefl]
  rw [u8_lt _ _ (by omega) (by omega), u8_lt _ _ (by omega) (by omega), u8_lt _ _ (by omega) (by omega), u8_eq _ _ (by omega) (by omega), u8_eq _ _ (by omega) (by omega), u8_eq _ _ (by omega) (by omega)]
  have parts : ∀ z : Int, 0 ≤ z ∧ z ≤ 999999 → ∃ a b c : Int, z = 65536 * a + 256 * b + c ∧ 0 ≤ a ∧ a < 256 ∧ 0 ≤ b ∧ b < 256 ∧ 0 ≤ c ∧ c < 256 ∧ z / 65536 % 256 = a ∧ z / 256 % 256 = b ∧ z % 256 = c := by
    intro z hz
    have e : z / 65536 = z / 256 / 256 := by omega
    exact ⟨z / 65536, z / 256 % 256, z % 256, by omega, by omega, by omega, by omega, by omega, by omega, by omega, by omega, rfl, rfl⟩
  obtain ⟨a, b, c, e1, e2, e3, e4, e5, e6, e7, e8, e9, e10⟩ := parts m hm
  obtain ⟨a', b', c', f1, f2, f3, f4, f5, f6, f7, f8, f9, f10⟩ := parts n hn
  rw [e8, e9, e10, f8, f9, f10, e1, f1]
  clear e8 e9 e10 f8 f9 f10 e1 f1 hm hn parts
  rw [Bool.eq_iff_iff]
  simp only [Bool.or_eq_true, Bool.and_eq_true, decide_eq_true_eq, Bool.and_false, Bool.false_eq_true, or_false]
  omega
theorem three_same (m n : Int) (hm : 0 ≤ m ∧ m ≤ 999999) (hn : 0 ≤ n ∧ n ≤ 999999) : strOfNums (threeL m) = strOfNums (threeL n) ↔ m = n := by
  constructor
  · intro h
    have h1 := congrArg bytesOf h
    unfold threeL at h1
    rw [bytesOf_strOfNums _ (by intro x hx; simp at hx; omega), bytesOf_strOfNums _ (by intro x hx; simp at hx; omega)] at h1
    simp only [List.cons.injEq, and_true] at h1
    omega
  · intro h; rw [h]
theorem append_byte_inj {s t : ByteArray} {c : ByteArray} (h : s ++ c = t ++ c) : s = t := by
  have h1 := congrArg bytesOf h
  rw [bytesOf_append, bytesOf_append] at h1
  exact bytesOf_inj (List.append_cancel_right h1)
/-- Two values of a kind: the lesser one has the lesser key; the same ones have the same. -/
theorem keys_order (kind n1 n2 : Int) (t1 t2 : ByteArray) (h1 : valueOkR kind n1 t1 = true) (h2 : valueOkR kind n2 t2 = true) :
    ∃ x y, keyR kind n1 t1 = (x, true) ∧ keyR kind n2 t2 = (y, true) ∧ Op.bytesLess x.toList y.toList = (if kind = 2 then Op.bytesLess t1.toList t2.toList else decide (n1 < n2)) ∧ (x = y ↔ n1 = n2 ∧ t1 = t2) := by
  unfold keyR
  rw [if_pos h1, if_pos h2]
  unfold valueOkR at h1 h2
  by_cases c : kind = 1
  · rw [if_pos c] at h1 h2 ⊢
    rw [if_pos c]
    rw [Bool.and_eq_true, decide_eq_true_eq, decide_eq_true_eq] at h1 h2
    have e1 : t1 = ⟨#[]⟩ := bytesOf_inj (by rw [List.eq_nil_of_length_eq_zero (by rw [bytesOf_length]; exact h1.2 : (bytesOf t1).length = 0)]; rfl)
    have e2 : t2 = ⟨#[]⟩ := bytesOf_inj (by rw [List.eq_nil_of_length_eq_zero (by rw [bytesOf_length]; exact h2.2 : (bytesOf t2).length = 0)]; rfl)
    refine ⟨_, _, rfl, rfl, ?_, ?_⟩
    · rw [if_neg (by omega)]; exact three_less n1 n2 h1.1 h2.1
    · rw [show strOfNums [n1 / 65536 % 256, n1 / 256 % 256, n1 % 256] = strOfNums (threeL n1) from rfl, show strOfNums [n2 / 65536 % 256, n2 / 256 % 256, n2 % 256] = strOfNums (threeL n2) from rfl, three_same n1 n2 h1.1 h2.1, e1, e2]
      simp
  · rw [if_neg c] at h1 h2 ⊢
    rw [if_neg c]
    simp only [Bool.and_eq_true, decide_eq_true_eq] at h1 h2
    refine ⟨_, _, rfl, rfl, ?_, ?_⟩
    · rw [if_pos h1.1.1.1, toList_append, toList_append, show (⟨#[0]⟩ : ByteArray).toList = [0] by rw [ByteArray.toList_eq]]
      exact bl_zero _ _ (noZero_mem h1.2) (noZero_mem h2.2)
    · constructor
      · intro h; exact ⟨by rw [h1.1.1.2, h2.1.1.2], append_byte_inj h⟩
      · intro h; rw [h.2]
end Go.Proofs.Ytbjlpmhhcigkdaa
