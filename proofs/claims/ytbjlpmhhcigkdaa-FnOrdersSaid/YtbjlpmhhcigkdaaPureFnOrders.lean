/- The printed form of FnOrders answers true at every input that its bounds let in; no other conditions. -/
import Derived.Test.YtbjlpmhhcigkdaaVFnOrdersx6
import Derived.Test.YtbjlpmhhcigkdaaG
import Derived.Lib.Bytealg
namespace Go.Proofs.Ytbjlpmhhcigkdaa.VFnOrders
set_option linter.unusedVariables false
set_option linter.unusedSimpArgs false
open Go Go.RowKit Go.Proofs.YtbjlpmhhcigkdaaW.PrintWords Go.Proofs.YtbjlpmhhcigkdaaW.PrintLast Go.Proofs.YtbjlpmhhcigkdaaW.PrintMore
theorem w64 {n : Int} (h : -9223372036854775808 ≤ n) (h' : n ≤ 9223372036854775807) : wrap64 n = n := by
  unfold wrap64; omega
theorem ev_some {α : Type} {g : Nat → Option α} {r : α} (h : ∀ k, g k = some r) : Ev g r := ⟨0, fun k _ => h k⟩
theorem ev_succ {α : Type} {g : Nat → Option α} {r : α} (h : ∃ K, ∀ k, K ≤ k → g (k + 1) = some r) : Ev g r := by
  obtain ⟨K, h⟩ := h
  refine ⟨K + 1, fun k hk => ?_⟩
  obtain ⟨m, rfl⟩ : ∃ m, k = m + 1 := ⟨k - 1, by omega⟩
  exact h m (by omega)
/-- One round that goes on. -/
theorem ev_go {α : Type} {g f : Nat → Option α} {r : α} (hf : Ev f r) (h : ∀ k, g (k + 1) = f k) : Ev g r := Ev.step h hf
/-- One round that ends. -/
theorem ev_end {α : Type} {g : Nat → Option α} {r : α} (h : ∀ k, g (k + 1) = some r) : Ev g r := ev_succ ⟨0, fun k _ => h k⟩
/-- One call, then the rest. -/
theorem ev_call {α β : Type} {g : Nat → Option α} {f : Nat → Option β} {c : Nat → β → Option α} {b : β} {r : α} (hf : Ev f b) (hc : Ev (fun k => c k b) r) (h : ∀ k, g k = (f k).bind (c k)) : Ev g r :=
  Ev.congr h (Ev.bind hf hc)
theorem bytesOf_drop (s : ByteArray) (i : Nat) (h : i < s.size) : (bytesOf s).drop i = bt s (i : Int) :: (bytesOf s).drop (i + 1) := by
  have hl : i < (bytesOf s).length := by rw [bytesOf_length]; exact h
  rw [List.drop_eq_getElem_cons hl]
  congr 1
  rw [← rd_bytesOf s (i : Int)]
  unfold rd
  rw [Int.toNat_natCast]
  simp [List.getD, hl]
theorem bytesOf_range (s : ByteArray) : ∀ x ∈ bytesOf s, 0 ≤ x ∧ x ≤ 255 := by
  intro x hx
  unfold bytesOf at hx
  obtain ⟨b, _, rfl⟩ := List.mem_map.1 hx
  have := b.toNat_lt
  omega
theorem strOfNums_toList (xs : List Int) : (strOfNums xs).toList = xs.map fun n => UInt8.ofNat n.toNat := by
  rw [ByteArray.toList_eq, strOfNums_data]
theorem toList_inj {s t : ByteArray} (h : s.toList = t.toList) : s = t := by
  rw [ByteArray.toList_eq, ByteArray.toList_eq] at h
  exact ByteArray.ext (Array.toList_inj.1 h)
theorem strOfNums_bytesOf (s : ByteArray) : strOfNums (bytesOf s) = s := by
  apply ByteArray.ext
  apply Array.toList_inj.1
  rw [strOfNums_data]
  unfold bytesOf
  rw [List.map_map]
  conv => rhs; rw [← List.map_id s.data.toList]
  apply List.map_congr_left
  intro b _
  simp
theorem bytesOf_strOfNums (xs : List Int) (h : ∀ x ∈ xs, 0 ≤ x ∧ x ≤ 255) : bytesOf (strOfNums xs) = xs := by
  unfold bytesOf
  rw [strOfNums_data, List.map_map]
  conv => rhs; rw [← List.map_id xs]
  apply List.map_congr_left
  intro b hb
  have := h b hb
  simp only [Function.comp, UInt8.toNat_ofNat', id]
  omega
theorem bytesOf_extract (s : ByteArray) (a b : Nat) : bytesOf (s.extract a b) = ((bytesOf s).drop a).take (b - a) := by
  unfold bytesOf
  rw [ByteArray.data_extract, Array.toList_extract, List.extract_eq_take_drop, List.map_take, List.map_drop]
theorem bytesOf_append (s t : ByteArray) : bytesOf (s ++ t) = bytesOf s ++ bytesOf t := by
  unfold bytesOf
  rw [ByteArray.data_append, Array.toList_append, List.map_append]
theorem bytesOf_inj {s t : ByteArray} (h : bytesOf s = bytesOf t) : s = t := by
  rw [← strOfNums_bytesOf s, ← strOfNums_bytesOf t, h]
theorem bytesOf_length_drop (s : ByteArray) (i : Nat) : ((bytesOf s).drop i).length = s.size - i := by rw [List.length_drop, bytesOf_length]
def varL (n : Nat) : List Int := if n > 127 then ((n : Int) % 128 + 128) :: varL (n / 128) else [(n : Int)]
termination_by n
decreasing_by omega
theorem varL_big {n : Nat} (h : n > 127) : varL n = ((n : Int) % 128 + 128) :: varL (n / 128) := by rw [varL, if_pos h]
theorem varL_small {n : Nat} (h : ¬ n > 127) : varL n = [(n : Int)] := by rw [varL, if_neg h]
theorem varL_range (n : Nat) : ∀ x ∈ varL n, 0 ≤ x ∧ x ≤ 255 := by
  induction n using Nat.strongRecOn with
  | ind n ih =>
    intro x hx
    by_cases h : n > 127
    · rw [varL_big h] at hx
      rcases List.mem_cons.1 hx with rfl | hx
      · omega
      · exact ih _ (by omega) x hx
    · rw [varL_small h] at hx
      have := List.mem_singleton.1 hx
      omega
theorem varL_length_le (j : Nat) : ∀ n : Nat, n < 128 ^ j → (varL n).length ≤ max j 1 := by
  induction j with
  | zero => intro n hn; simp at hn; subst hn; rw [varL_small (by omega)]; simp
  | succ j ih =>
    intro n hn
    by_cases h : n > 127
    · rw [varL_big h]
      have : n / 128 < 128 ^ j := by rw [Nat.pow_succ] at hn; exact Nat.div_lt_of_lt_mul (by omega)
      have := ih _ this
      cases j with
      | zero => omega
      | succ j => simp only [List.length_cons]; omega
    · rw [varL_small h, List.length_singleton]; omega
def varB (n : Nat) : ByteArray := strOfNums (varL n)
theorem varB_size (n : Nat) : (varB n).size = (varL n).length := strOfNums_size _
theorem varB_size_le (n : Nat) (h : n ≤ 9223372036854775807) : (varB n).size ≤ 10 := by
  rw [varB_size]
  have := varL_length_le 10 n (by omega)
  omega
def shortB (s : ByteArray) : ByteArray := varB s.size ++ s
def decL : Nat → List Int → Option (Int × Nat)
  | 0, _ => none
  | _ + 1, [] => none
  | f + 1, b :: t => if b < 128 then some (b, 1) else (decL f t).map fun p => (b - 128 + 128 * p.1, p.2 + 1)
def rvL (at_ : Int) (L : List Int) : Int × Int × Bool :=
  match decL 5 L with
  | none => (0, 0, false)
  | some p => if p.1 ≤ 1000000000 ∧ varL p.1.toNat = L.take p.2 then (p.1, at_ + p.2, true) else (0, 0, false)
def rvR (s : ByteArray) (a : Int) : Int × Int × Bool :=
  if 0 ≤ a ∧ a ≤ (s.size : Int) then rvL a ((bytesOf s).drop a.toNat) else (0, 0, false)
theorem decL_pos (f : Nat) : ∀ (l : List Int) (m : Int) (u : Nat), (∀ x ∈ l, 0 ≤ x ∧ x ≤ 255) → decL f l = some (m, u) → 0 ≤ m ∧ m < 128 ^ f ∧ 1 ≤ u ∧ u ≤ f ∧ u ≤ l.length := by
  induction f with
  | zero => intro l m u _ h; simp [decL] at h
  | succ f ih =>
    intro l m u hr h
    cases l with
    | nil => simp [decL] at h
    | cons b t =>
      have hb := hr b (by simp)
      simp only [decL] at h
      have hp : (1 : Int) ≤ 128 ^ f := by have := Nat.one_le_two_pow (n := 7 * f); rw [Nat.pow_mul] at this; exact_mod_cast this
      by_cases c : b < 128
      · rw [if_pos c] at h
        simp only [Option.some.injEq, Prod.mk.injEq] at h
        obtain ⟨rfl, rfl⟩ := h
        refine ⟨hb.1, ?_, by omega, by omega, by simp⟩
        rw [Int.pow_succ]; omega
      · rw [if_neg c] at h
        obtain ⟨⟨m', u'⟩, h1, h2⟩ := Option.map_eq_some_iff.1 h
        simp only [Prod.mk.injEq] at h2
        obtain ⟨rfl, rfl⟩ := h2
        obtain ⟨g1, g2, g3, g4, g5⟩ := ih t m' u' (fun x hx => hr x (by simp [hx])) h1
        refine ⟨by omega, ?_, by omega, by omega, by simp only [List.length_cons]; omega⟩
        rw [Int.pow_succ]; omega
theorem decL_varL (f : Nat) : ∀ (n : Nat) (t : List Int), n < 128 ^ f → 0 < f → decL f (varL n ++ t) = some ((n : Int), (varL n).length) := by
  induction f with
  | zero => intro n t _ h; omega
  | succ f ih =>
    intro n t hn _
    by_cases c : n > 127
    · rw [varL_big c, List.cons_append]
      simp only [decL]
      rw [if_neg (by omega)]
      have h1 : n / 128 < 128 ^ f := by rw [Nat.pow_succ] at hn; exact Nat.div_lt_of_lt_mul (by omega)
      cases f with
      | zero => simp at hn; omega
      | succ f =>
        rw [ih (n / 128) t h1 (by omega)]
        simp only [Option.map_some, List.length_cons, Option.some.injEq, Prod.mk.injEq, and_true]
        omega
    · rw [varL_small c]
      simp only [List.cons_append, List.nil_append, decL]
      rw [if_pos (by omega)]
      simp
theorem rvL_good {a : Int} {L : List Int} {n : Int} {u : Nat} (h : decL 5 L = some (n, u)) (h1 : n ≤ 1000000000) (h2 : varL n.toNat = L.take u) : rvL a L = (n, a + u, true) := by
  unfold rvL; rw [h]; simp only; rw [if_pos ⟨h1, h2⟩]
theorem rvL_tells {a : Int} {L : List Int} {n nx : Int} (hr : ∀ x ∈ L, 0 ≤ x ∧ x ≤ 255) (h : rvL a L = (n, nx, true)) : ∃ u : Nat, 0 ≤ n ∧ n ≤ 1000000000 ∧ varL n.toNat = L.take u ∧ nx = a + u ∧ 1 ≤ u ∧ u ≤ L.length ∧ u ≤ 5 := by
  unfold rvL at h
  cases h5 : decL 5 L with
  | none => rw [h5] at h; simp at h
  | some p =>
    obtain ⟨m, u⟩ := p
    rw [h5] at h
    simp only at h
    by_cases c : m ≤ 1000000000 ∧ varL m.toNat = L.take u
    · rw [if_pos c] at h
      simp only [Prod.mk.injEq, and_true] at h
      obtain ⟨rfl, rfl⟩ := h
      obtain ⟨g1, g2, g3, g4, g5⟩ := decL_pos 5 L m u hr h5
      exact ⟨u, g1, c.1, c.2, rfl, g3, g5, g4⟩
    · rw [if_neg c] at h
      simp at h
theorem rvL_reads (a : Int) (n : Nat) (t : List Int) (h : n ≤ 1000000000) : rvL a (varL n ++ t) = ((n : Int), a + (varL n).length, true) :=
  rvL_good (decL_varL 5 n t (by omega) (by omega)) (by omega) (by simp)
theorem rvR_tells (s : ByteArray) (a n nx : Int) (h : rvR s a = (n, nx, true)) : ∃ u : Nat, 0 ≤ a ∧ 0 ≤ n ∧ n ≤ 1000000000 ∧ nx = a + u ∧ 1 ≤ u ∧ u ≤ 5 ∧ nx ≤ (s.size : Int) ∧ varL n.toNat = ((bytesOf s).drop a.toNat).take u := by
  unfold rvR at h
  by_cases c : 0 ≤ a ∧ a ≤ (s.size : Int)
  · rw [if_pos c] at h
    obtain ⟨u, h1, h2, h3, h4, h5, h6, h7⟩ := rvL_tells (fun x hx => bytesOf_range s x (List.mem_of_mem_drop hx)) h
    rw [bytesOf_length_drop] at h6
    exact ⟨u, c.1, h1, h2, h4, h5, h7, by omega, h3⟩
  · rw [if_neg c] at h
    simp at h
def rsR (s : ByteArray) (a : Int) : ByteArray × Int × Bool :=
  if (rvR s a).2.2 = true ∧ (rvR s a).1 ≤ 20000 ∧ (rvR s a).1 ≤ (s.size : Int) - (rvR s a).2.1 then (s.extract (rvR s a).2.1.toNat ((rvR s a).2.1 + (rvR s a).1).toNat, (rvR s a).2.1 + (rvR s a).1, true) else (⟨#[]⟩, 0, false)
section
variable {α β : Type}
theorem drop_rdOf (d : α) (xs : List α) (i : Nat) (h : i < xs.length) : xs.drop i = rdOf d xs (i : Int) :: xs.drop (i + 1) := by
  rw [List.drop_eq_getElem_cons h]
  congr 1
  unfold rdOf
  rw [Int.toNat_natCast]
  simp [List.getD, h]
theorem rdOf_get (d : α) (xs : List α) (i : Nat) (h : i < xs.length) : rdOf d xs (i : Int) = xs[i] := by
  unfold rdOf
  rw [Int.toNat_natCast]
  simp [List.getD, h]
theorem rd_get (xs : List Int) (i : Nat) (h : i < xs.length) : rd xs (i : Int) = xs[i] := by
  unfold rd
  rw [Int.toNat_natCast]
  simp [List.getD, h]
theorem rdOf_mem (d : α) (xs : List α) (i : Nat) (h : i < xs.length) : rdOf d xs (i : Int) ∈ xs := by
  rw [rdOf_get d xs i h]; exact List.getElem_mem h
theorem rd_mem (xs : List Int) (i : Nat) (h : i < xs.length) : rd xs (i : Int) ∈ xs := by
  rw [rd_get xs i h]; exact List.getElem_mem h
theorem rdOf_mid (d : α) (pre t : List α) (x : α) (i : Nat) (h : pre.length = i) : rdOf d (pre ++ x :: t) (i : Int) = x := by
  subst h
  unfold rdOf
  rw [Int.toNat_natCast]
  simp [List.getD]
end
theorem i64_and_range (y m : Int) (h0 : 0 ≤ m) (h1 : m ≤ 9223372036854775807) : 0 ≤ Go.bits .and .i64 y m ∧ Go.bits .and .i64 y m ≤ m := by
  unfold Go.bits
  simp only
  rw [IntKind.wrap_i64, BitVec.toNat_and]
  have h2 : (2 : Nat) ^ IntKind.i64.bits = 18446744073709551616 := by decide
  have h3 : (BitVec.ofInt IntKind.i64.bits m).toNat = m.toNat := by
    rw [BitVec.toNat_ofInt, h2]; omega
  rw [h3]
  have := Nat.and_le_right (n := (BitVec.ofInt IntKind.i64.bits y).toNat) (m := m.toNat)
  omega
theorem bl_cons (a b : UInt8) (x y : List UInt8) : Op.bytesLess (a :: x) (b :: y) = (a < b || (a == b && Op.bytesLess x y)) := rfl
theorem bl_irrefl (x : List UInt8) : Op.bytesLess x x = false := by
  induction x with
  | nil => rfl
  | cons a x ih => rw [bl_cons, ih]; simp
theorem toList_append (s t : ByteArray) : (s ++ t).toList = s.toList ++ t.toList := by
  rw [ByteArray.toList_eq, ByteArray.toList_eq, ByteArray.toList_eq, ByteArray.data_append, Array.toList_append]
/-- Each key ends, with a figure nought behind it, ahead of all later ones. -/
def Asc (l : List ByteArray) : Prop := ∀ i j : Nat, (hij : i < j) → (hj : j < l.length) → Op.bytesLess ((l[i]'(by omega)).toList ++ [48]) (l[j]).toList = true
theorem Asc.nil : Asc [] := fun i j _ hj => by simp at hj
def lettersL (l : List Int) : Bool := l.all fun b => decide (97 ≤ b ∧ b ≤ 122)
def wordR (s : ByteArray) (most : Int) : Bool := lettersL (bytesOf s) && decide (1 ≤ (s.size : Int) ∧ (s.size : Int) ≤ most)
theorem lettersL_cons (b : Int) (t : List Int) : lettersL (b :: t) = (decide (97 ≤ b ∧ b ≤ 122) && lettersL t) := rfl
theorem idxP_step {α : Type} (p : α → Bool) (x : α) (t : List α) (i : Int) : idxP p (x :: t) i = if p x = true then i else idxP p t (i + 1) := rfl
theorem idxP_append {α : Type} (p : α → Bool) (l m : List α) : ∀ i : Int, idxP p (l ++ m) i = if l.any p = true then idxP p l i else idxP p m (i + l.length) := by
  induction l with
  | nil => intro i; simp
  | cons x t ih =>
    intro i
    rw [List.cons_append, idxP_step, idxP_step, List.any_cons]
    by_cases c : p x = true
    · rw [if_pos c, c]; simp
    · rw [if_neg c, ih (i + 1), if_neg c]
      have : p x = false := by simpa using c
      rw [this, Bool.false_or]
      have e : i + 1 + (t.length : Int) = i + ((x :: t).length : Int) := by simp only [List.length_cons]; omega
      rw [e]
theorem idxP_lt {α : Type} (p : α → Bool) (l : List α) : ∀ i : Int, idxP p l i < i + l.length ∨ idxP p l i = -1 := by
  induction l with
  | nil => intro i; exact .inr rfl
  | cons x t ih =>
    intro i
    rw [idxP_step]
    by_cases c : p x = true
    · rw [if_pos c]; simp only [List.length_cons]; omega
    · rw [if_neg c]
      have := ih (i + 1)
      simp only [List.length_cons]
      omega
/-- The first place at which p holds is that of x itself, if and only if p holds of nothing ahead. -/
theorem idxP_own {α : Type} (p : α → Bool) (pre t : List α) (x : α) (hx : p x = true) : idxP p (pre ++ x :: t) 0 = (pre.length : Int) ↔ pre.any p = false := by
  rw [idxP_append]
  by_cases c : pre.any p = true
  · rw [if_pos c, c]
    have := idxP_lt p pre 0
    constructor
    · intro h; omega
    · intro h; cases h
  · rw [if_neg c, idxP_step, if_pos hx]
    have : pre.any p = false := by simpa using c
    rw [this]
    simp
theorem in_dec (x a b : Int) : (if x ≥ a then some (decide (x ≤ b)) else some false) = some (decide (a ≤ x ∧ x ≤ b)) := by
  by_cases c : x ≥ a
  · rw [if_pos c]
    congr 1
    by_cases d : x ≤ b
    · rw [decide_eq_true d, decide_eq_true ⟨c, d⟩]
    · rw [decide_eq_false d, decide_eq_false (fun h => d h.2)]
  · rw [if_neg c, decide_eq_false (fun h => c h.1)]
def noZero (s : ByteArray) : Bool := (bytesOf s).all fun b => decide (b ≠ 0)
def valueOkR (kind num : Int) (text : ByteArray) : Bool :=
  if kind = 1 then decide (0 ≤ num ∧ num ≤ 999999) && decide (text.size = 0) else decide (kind = 2) && decide (num = 0) && decide ((text.size : Int) ≤ 6) && noZero text
def keyR (kind num : Int) (text : ByteArray) : ByteArray × Bool :=
  if valueOkR kind num text = true then (if kind = 1 then (strOfNums [num / 65536 % 256, num / 256 % 256, num % 256], true) else (text ++ (⟨#[0]⟩ : ByteArray), true)) else (⟨#[]⟩, false)
theorem toList_empty_iff (s : ByteArray) : (s.toList == ([] : List UInt8)) = decide (s.size = 0) := by
  rw [ByteArray.toList_eq]
  have : s.data.toList.length = s.size := data_length s
  cases h : s.data.toList with
  | nil => rw [h] at this; simp at this; rw [← this]; rfl
  | cons a t => rw [h] at this; simp at this; rw [decide_eq_false (by omega)]; rfl
theorem indexByte_lo (l : List UInt8) (c : UInt8) : Lib.indexByte l c = -1 ∨ 0 ≤ Lib.indexByte l c := by
  induction l with
  | nil => exact .inl rfl
  | cons b t ih =>
    unfold Lib.indexByte
    split
    · exact .inr (by omega)
    · split
      · exact .inl rfl
      · rename_i h
        simp only [beq_iff_eq] at h
        exact .inr (by omega)
theorem indexByte_zero (l : List UInt8) : decide (0 ≤ Lib.indexByte l 0) = !((l.map fun b => (b.toNat : Int)).all fun b => decide (b ≠ 0)) := by
  induction l with
  | nil => rfl
  | cons b t ih =>
    unfold Lib.indexByte
    rw [List.map_cons, List.all_cons]
    by_cases c : b = 0
    · subst c; rfl
    · have h1 : (b == 0) = false := by simp [c]
      have h2 : ((b.toNat : Int) ≠ 0) := fun h => c (UInt8.toNat_inj.1 (by show b.toNat = 0; omega))
      rw [h1, decide_eq_true h2, Bool.true_and, ← ih]
      simp only [Bool.false_eq_true, if_false]
      have := indexByte_lo t 0
      split
      · rename_i h
        rw [beq_iff_eq] at h
        rw [h]
      · rename_i h
        rw [beq_iff_eq] at h
        rw [decide_eq_true (by omega), decide_eq_true (by omega)]
theorem noZero_index (s : ByteArray) : decide (0 ≤ Lib.indexByte s.data.toList 0) = !noZero s := indexByte_zero _
def Took (s : ByteArray) (a b : Int) (x : ByteArray) : Prop := 0 ≤ a ∧ b ≤ (s.size : Int) ∧ b = a + (x.size : Int) ∧ (bytesOf s).drop a.toNat = bytesOf x ++ (bytesOf s).drop b.toNat
theorem Took.nil (s : ByteArray) (a : Int) (h : 0 ≤ a ∧ a ≤ (s.size : Int)) : Took s a a ⟨#[]⟩ := ⟨h.1, h.2, by show a = a + 0; omega, rfl⟩
theorem Took.trans {s : ByteArray} {a b c : Int} {x y : ByteArray} (h : Took s a b x) (g : Took s b c y) : Took s a c (x ++ y) := by
  obtain ⟨h1, h2, h3, h4⟩ := h
  obtain ⟨g1, g2, g3, g4⟩ := g
  refine ⟨h1, g2, by rw [ByteArray.size_append]; omega, ?_⟩
  rw [h4, g4, bytesOf_append, List.append_assoc]
theorem Took.whole {s : ByteArray} {b : Int} {x : ByteArray} (h : Took s 0 b x) (hb : b = (s.size : Int)) : x = s := by
  obtain ⟨h1, h2, h3, h4⟩ := h
  have e : (bytesOf s).drop b.toNat = [] := List.drop_eq_nil_of_le (by rw [bytesOf_length]; omega)
  rw [e, List.append_nil] at h4
  exact (bytesOf_inj h4).symm
theorem Took.all (s x t : ByteArray) : Took (s ++ x ++ t) (s.size : Int) ((s.size : Int) + (x.size : Int)) x := by
  refine ⟨by omega, by rw [ByteArray.size_append, ByteArray.size_append]; omega, rfl, ?_⟩
  have e1 : (bytesOf s).length = s.size := bytesOf_length s
  have e2 : (bytesOf x).length = x.size := bytesOf_length x
  have e3 : ((s.size : Int) + (x.size : Int)).toNat = s.size + x.size := by omega
  have l1 : ((bytesOf s) ++ (bytesOf x ++ bytesOf t)).drop s.size = bytesOf x ++ bytesOf t := List.drop_left' e1
  have l2 : ((bytesOf s) ++ (bytesOf x ++ bytesOf t)).drop (s.size + x.size) = bytesOf t := by rw [← List.drop_drop, l1]; exact List.drop_left' e2
  rw [bytesOf_append, bytesOf_append, List.append_assoc, Int.toNat_natCast, e3, l1, l2]
theorem Took.extract {s : ByteArray} {a b : Int} {x : ByteArray} (h : Took s a b x) : s.extract a.toNat b.toNat = x := by
  obtain ⟨h1, h2, h3, h4⟩ := h
  apply bytesOf_inj
  rw [bytesOf_extract, h4, show b.toNat - a.toNat = (bytesOf x).length by rw [bytesOf_length]; omega, List.take_left']
  rfl
theorem Took.of_extract (s : ByteArray) (a b : Int) (h0 : 0 ≤ a) (h1 : a ≤ b) (h2 : b ≤ (s.size : Int)) : Took s a b (s.extract a.toNat b.toNat) := by
  have hz : (s.extract a.toNat b.toNat).size = b.toNat - a.toNat := by
    rw [← bytesOf_length, bytesOf_extract, List.length_take, bytesOf_length_drop]; omega
  refine ⟨h0, h2, by rw [hz]; omega, ?_⟩
  have e : (bytesOf s).drop b.toNat = ((bytesOf s).drop a.toNat).drop (b.toNat - a.toNat) := by rw [List.drop_drop]; congr 1; omega
  rw [bytesOf_extract, e, List.take_append_drop]
theorem bytesOf_varB (n : Nat) : bytesOf (varB n) = varL n := bytesOf_strOfNums _ (varL_range n)
theorem rvR_took {s : ByteArray} {a n nx : Int} (h : rvR s a = (n, nx, true)) : Took s a nx (varB n.toNat) ∧ 0 ≤ n ∧ n ≤ 1000000000 := by
  obtain ⟨u, h1, h2, h3, h4, h5, h6, h7, h8⟩ := rvR_tells s a n nx h
  have hl : (((bytesOf s).drop a.toNat).take u).length = u := by rw [List.length_take, bytesOf_length_drop]; omega
  refine ⟨⟨h1, h7, ?_, ?_⟩, h2, h3⟩
  · rw [varB_size, h8, hl]; exact h4
  · rw [bytesOf_varB, h8, h4, show (a + (u : Int)).toNat = a.toNat + u by omega, ← List.drop_drop, List.take_append_drop]
theorem rvR_reads {s : ByteArray} {a b : Int} {n : Nat} (h : Took s a b (varB n)) (hn : n ≤ 1000000000) : rvR s a = ((n : Int), b, true) := by
  obtain ⟨h1, h2, h3, h4⟩ := h
  unfold rvR
  rw [if_pos ⟨h1, by omega⟩, h4, bytesOf_varB, rvL_reads a n _ hn, h3, varB_size]
theorem rsR_took {s t : ByteArray} {a nx : Int} (h : rsR s a = (t, nx, true)) : Took s a nx (shortB t) ∧ t.size ≤ 20000 := by
  unfold rsR at h
  rcases hr : rvR s a with ⟨n, b, ok⟩
  rw [hr] at h
  dsimp only at h
  by_cases c : ok = true ∧ n ≤ 20000 ∧ n ≤ (s.size : Int) - b
  · rw [if_pos c] at h
    obtain ⟨rfl, c2, c3⟩ := c
    obtain ⟨h1, h2, h3⟩ := rvR_took hr
    have hb : 0 ≤ b := by have := h1.1; have := h1.2.2.1; omega
    have ht := Took.of_extract s b (b + n) hb (by omega) (by omega)
    simp only [Prod.mk.injEq, and_true] at h
    obtain ⟨e1, e2⟩ := h
    rw [e1, e2] at ht
    have hz : (t.size : Int) = n := by have := ht.2.2.1; omega
    refine ⟨?_, by omega⟩
    have := h1.trans ht
    unfold shortB
    rwa [show n.toNat = t.size by omega] at this
  · rw [if_neg c] at h
    simp at h
theorem Took.split {s x y : ByteArray} {a c : Int} (h : Took s a c (x ++ y)) : Took s a (a + (x.size : Int)) x ∧ Took s (a + (x.size : Int)) c y := by
  obtain ⟨h1, h2, h3, h4⟩ := h
  rw [ByteArray.size_append] at h3
  rw [bytesOf_append, List.append_assoc] at h4
  have e : (bytesOf s).drop (a + (x.size : Int)).toNat = bytesOf y ++ (bytesOf s).drop c.toNat := by
    rw [show (a + (x.size : Int)).toNat = a.toNat + x.size by omega, ← List.drop_drop, h4, ← bytesOf_length x, List.drop_left']
    rfl
  exact ⟨⟨h1, by omega, rfl, by rw [e]; exact h4⟩, ⟨by omega, h2, by omega, e⟩⟩
theorem rsR_reads {s t : ByteArray} {a b : Int} (h : Took s a b (shortB t)) (ht : t.size ≤ 20000) : rsR s a = (t, b, true) := by
  obtain ⟨g1, g2⟩ := Took.split (x := varB t.size) (y := t) h
  have hr := rvR_reads g1 (by omega)
  unfold rsR
  rw [hr]
  dsimp only
  have hz := g2.2.2.1
  have hb := g2.2.1
  rw [if_pos ⟨rfl, by omega, by omega⟩, ← hz, g2.extract]
/-- A number is read, at most so great; what is bad stays bad. -/
def numR (s : ByteArray) (most at_ : Int) (bad : Bool) : Int × Int × Bool :=
  if bad = false ∧ (rvR s at_).2.2 = true ∧ (rvR s at_).1 ≤ most then ((rvR s at_).1, (rvR s at_).2.1, false) else (0, at_, true)
def txtR (s : ByteArray) (at_ : Int) (bad : Bool) : ByteArray × Int × Bool :=
  if bad = false ∧ (rsR s at_).2.2 = true then ((rsR s at_).1, (rsR s at_).2.1, false) else (⟨#[]⟩, at_, true)
theorem numR_bad (s : ByteArray) (most at_ : Int) : numR s most at_ true = (0, at_, true) := by unfold numR; rw [if_neg (by simp)]
theorem txtR_bad (s : ByteArray) (at_ : Int) : txtR s at_ true = (⟨#[]⟩, at_, true) := by unfold txtR; rw [if_neg (by simp)]
theorem numR_took {s : ByteArray} {most a n b : Int} {bad : Bool} (h : numR s most a bad = (n, b, false)) : bad = false ∧ Took s a b (varB n.toNat) ∧ 0 ≤ n ∧ n ≤ most ∧ n ≤ 1000000000 := by
  unfold numR at h
  rcases hr : rvR s a with ⟨m, c, ok⟩
  rw [hr] at h
  dsimp only at h
  split at h
  · rename_i q
    obtain ⟨q1, rfl, q3⟩ := q
    simp only [Prod.mk.injEq, and_true] at h
    obtain ⟨rfl, rfl⟩ := h
    obtain ⟨h1, h2, h3⟩ := rvR_took hr
    exact ⟨q1, h1, h2, q3, h3⟩
  · simp at h
theorem numR_reads {s : ByteArray} {most a b : Int} {n : Nat} (h : Took s a b (varB n)) (hn : n ≤ 1000000000) (hm : (n : Int) ≤ most) : numR s most a false = ((n : Int), b, false) := by
  unfold numR
  rw [rvR_reads h hn, if_pos ⟨rfl, rfl, hm⟩]
theorem txtR_took {s t : ByteArray} {a b : Int} {bad : Bool} (h : txtR s a bad = (t, b, false)) : bad = false ∧ Took s a b (shortB t) ∧ t.size ≤ 20000 := by
  unfold txtR at h
  rcases hr : rsR s a with ⟨m, c, ok⟩
  rw [hr] at h
  dsimp only at h
  split at h
  · rename_i q
    obtain ⟨q1, rfl⟩ := q
    simp only [Prod.mk.injEq, and_true] at h
    obtain ⟨rfl, rfl⟩ := h
    obtain ⟨h1, h2⟩ := rsR_took hr
    exact ⟨q1, h1, h2⟩
  · simp at h
theorem txtR_reads {s t : ByteArray} {a b : Int} (h : Took s a b (shortB t)) (ht : t.size ≤ 20000) : txtR s a false = (t, b, false) := by
  unfold txtR
  rw [rsR_reads h ht, if_pos ⟨rfl, rfl⟩]
theorem Took.byte (s : ByteArray) (a : Int) (h0 : 0 ≤ a) (h1 : a < (s.size : Int)) : Took s a (a + 1) (strOfNums [bt s a]) := by
  obtain ⟨i, rfl⟩ := Int.eq_ofNat_of_zero_le h0
  refine ⟨h0, by omega, by rw [strOfNums_size]; rfl, ?_⟩
  have hb := bt_range s (i : Int)
  rw [bytesOf_strOfNums [bt s (i : Int)] (by intro x hx; rw [List.mem_singleton.1 hx]; exact hb), Int.toNat_natCast, bytesOf_drop s i (by omega), show ((i : Int) + 1).toNat = i + 1 by omega]
  rfl
theorem Took.byte_tells {s : ByteArray} {a b n : Int} (hn : 0 ≤ n ∧ n ≤ 255) (h : Took s a b (strOfNums [n])) : b = a + 1 ∧ a < (s.size : Int) ∧ bt s a = n := by
  obtain ⟨h1, h2, h3, h4⟩ := h
  rw [strOfNums_size] at h3
  have h3' : b = a + 1 := h3
  obtain ⟨i, rfl⟩ := Int.eq_ofNat_of_zero_le h1
  rw [bytesOf_strOfNums [n] (by intro x hx; rw [List.mem_singleton.1 hx]; exact hn), Int.toNat_natCast, bytesOf_drop s i (by omega)] at h4
  exact ⟨h3', by omega, (List.cons.inj h4).1⟩
theorem Took.self (s : ByteArray) : Took s 0 (s.size : Int) s := by
  have := Took.all ⟨#[]⟩ s ⟨#[]⟩
  rw [show (⟨#[]⟩ : ByteArray) ++ s = s from ByteArray.empty_append, show s ++ (⟨#[]⟩ : ByteArray) = s from ByteArray.append_empty] at this
  have z : (⟨#[]⟩ : ByteArray).size = 0 := rfl
  rw [z] at this
  simpa using this
/-- A loop that goes on while p holds of the place. -/
theorem ev_every {α : Type} (g : Nat → Nat → Option α) (p : Nat → Bool) (n : Nat) {r e : α} (h0 : Ev (fun k => g k n) r) (h1 : ∀ i, i < n → p i = true → ∀ res, Ev (fun k => g k (i + 1)) res → Ev (fun k => g k i) res) (h2 : ∀ i, i < n → p i = false → Ev (fun k => g k i) e) : ∀ d i : Nat, i + d = n → Ev (fun k => g k i) (if (List.range' i d).all p = true then r else e) := by
  intro d
  induction d with
  | zero =>
    intro i hi
    have : i = n := by omega
    subst this
    exact h0
  | succ d ih =>
    intro i hi
    rw [List.range'_succ, List.all_cons]
    cases hp : p i with
    | false => exact h2 i (by omega) hp
    | true => exact h1 i (by omega) hp _ (ih (i + 1) (by omega))
theorem ite_tf (b : Bool) : (if b = true then true else false) = b := by cases b <;> rfl
theorem range_all_iff (n : Nat) (p : Nat → Bool) : (List.range' 0 n).all p = true ↔ ∀ i, i < n → p i = true := by
  rw [List.all_eq_true]
  constructor
  · intro h i hi; exact h i (by rw [List.mem_range'_1]; omega)
  · intro h i hi; exact h i (by rw [List.mem_range'_1] at hi; omega)
theorem shortB_size_upto (s : ByteArray) (m : Nat) (h : s.size ≤ m) (hm : m ≤ 1000000) : (shortB s).size ≤ 10 + m := by
  unfold shortB
  rw [ByteArray.size_append]
  have := varB_size_le s.size (by omega)
  omega
theorem bl_zero (x : List UInt8) : ∀ y : List UInt8, (∀ b ∈ x, b ≠ 0) → (∀ b ∈ y, b ≠ 0) → Op.bytesLess (x ++ [0]) (y ++ [0]) = Op.bytesLess x y := by
  have pos : ∀ b : UInt8, b ≠ 0 → ¬ b < 0 ∧ (0 : UInt8) < b := by
    intro b hb
    have h0 : b.toNat ≠ 0 := fun h => hb (UInt8.toNat_inj.1 h)
    constructor
    · intro h; rw [UInt8.lt_iff_toNat_lt] at h; exact absurd h (Nat.not_lt_zero _)
    · rw [UInt8.lt_iff_toNat_lt]; show 0 < b.toNat; omega
  induction x with
  | nil =>
    intro y _ hy
    cases y with
    | nil => rfl
    | cons b y =>
      have hb := pos b (hy b (by simp))
      show Op.bytesLess (0 :: []) (b :: (y ++ [0])) = true
      rw [bl_cons, decide_eq_true hb.2]
      rfl
  | cons a x ih =>
    intro y hx hy
    have ha := pos a (hx a (by simp))
    cases y with
    | nil =>
      show Op.bytesLess (a :: (x ++ [0])) (0 :: []) = false
      have e : (a == 0) = false := by simp [hx a (by simp)]
      rw [bl_cons, decide_eq_false ha.1, e]
      rfl
    | cons b y =>
      show Op.bytesLess (a :: (x ++ [0])) (b :: (y ++ [0])) = Op.bytesLess (a :: x) (b :: y)
      rw [bl_cons, bl_cons, ih y (fun c hc => hx c (by simp [hc])) (fun c hc => hy c (by simp [hc]))]
theorem noZero_mem {s : ByteArray} (h : noZero s = true) : ∀ b ∈ s.toList, b ≠ 0 := by
  intro b hb e
  subst e
  rw [ByteArray.toList_eq] at hb
  unfold noZero at h
  rw [List.all_eq_true] at h
  have := h (((0 : UInt8).toNat : Nat) : Int) (by unfold bytesOf; exact List.mem_map.2 ⟨0, hb, rfl⟩)
  simp at this
theorem u8_lt (a b : Int) (ha : 0 ≤ a ∧ a < 256) (hb : 0 ≤ b ∧ b < 256) : decide (UInt8.ofNat a.toNat < UInt8.ofNat b.toNat) = decide (a < b) := by
  apply decide_eq_decide.2
  rw [UInt8.lt_iff_toNat_lt, UInt8.toNat_ofNat', UInt8.toNat_ofNat']
  omega
theorem u8_eq (a b : Int) (ha : 0 ≤ a ∧ a < 256) (hb : 0 ≤ b ∧ b < 256) : (UInt8.ofNat a.toNat == UInt8.ofNat b.toNat) = decide (a = b) := by
  rw [Bool.eq_iff_iff, beq_iff_eq, decide_eq_true_eq, ← UInt8.toNat_inj, UInt8.toNat_ofNat', UInt8.toNat_ofNat']
  omega
def threeL (n : Int) : List Int := [n / 65536 % 256, n / 256 % 256, n % 256]
theorem three_less (m n : Int) (hm : 0 ≤ m ∧ m ≤ 999999) (hn : 0 ≤ n ∧ n ≤ 999999) : Op.bytesLess (strOfNums (threeL m)).toList (strOfNums (threeL n)).toList = decide (m < n) := by
  rw [strOfNums_toList, strOfNums_toList]
  unfold threeL
  simp only [List.map_cons, List.map_nil]
  rw [bl_cons, bl_cons, bl_cons, bl_irrefl]
  rw [u8_lt _ _ (by omega) (by omega), u8_lt _ _ (by omega) (by omega), u8_lt _ _ (by omega) (by omega), u8_eq _ _ (by omega) (by omega), u8_eq _ _ (by omega) (by omega), u8_eq _ _ (by omega) (by omega)]
  have parts : ∀ z : Int, 0 ≤ z ∧ z ≤ 999999 → ∃ a b c : Int, z = 65536 * a + 256 * b + c ∧ 0 ≤ a ∧ a < 256 ∧ 0 ≤ b ∧ b < 256 ∧ 0 ≤ c ∧ c < 256 ∧ z / 65536 % 256 = a ∧ z / 256 % 256 = b ∧ z % 256 = c := by
    intro z hz
    have e : z / 65536 = z / 256 / 256 := by omega
    exact ⟨z / 65536, z / 256 % 256, z % 256, by omega, by omega, by omega, by omega, by omega, by omega, by omega, by omega, rfl, rfl⟩
  obtain ⟨a, b, c, e1, e2, e3, e4, e5, e6, e7, e8, e9, e10⟩ := parts m hm
  obtain ⟨a', b', c', f1, f2, f3, f4, f5, f6, f7, f8, f9, f10⟩ := parts n hn
  rw [e8, e9, e10, f8, f9, f10, e1, f1]
  clear e8 e9 e10 f8 f9 f10 e1 f1 hm hn parts
  rw [Bool.eq_iff_iff]
  simp only [Bool.or_eq_true, Bool.and_eq_true, decide_eq_true_eq, Bool.and_false, Bool.false_eq_true, or_false]
  omega
theorem three_same (m n : Int) (hm : 0 ≤ m ∧ m ≤ 999999) (hn : 0 ≤ n ∧ n ≤ 999999) : strOfNums (threeL m) = strOfNums (threeL n) ↔ m = n := by
  constructor
  · intro h
    have h1 := congrArg bytesOf h
    unfold threeL at h1
    rw [bytesOf_strOfNums _ (by intro x hx; simp at hx; omega), bytesOf_strOfNums _ (by intro x hx; simp at hx; omega)] at h1
    simp only [List.cons.injEq, and_true] at h1
    omega
  · intro h; rw [h]
theorem append_byte_inj {s t : ByteArray} {c : ByteArray} (h : s ++ c = t ++ c) : s = t := by
  have h1 := congrArg bytesOf h
  rw [bytesOf_append, bytesOf_append] at h1
  exact bytesOf_inj (List.append_cancel_right h1)
/-- Two values of a kind: the lesser one has the lesser key; the same ones have the same. -/
theorem keys_order (kind n1 n2 : Int) (t1 t2 : ByteArray) (h1 : valueOkR kind n1 t1 = true) (h2 : valueOkR kind n2 t2 = true) :
    ∃ x y, keyR kind n1 t1 = (x, true) ∧ keyR kind n2 t2 = (y, true) ∧ Op.bytesLess x.toList y.toList = (if kind = 2 then Op.bytesLess t1.toList t2.toList else decide (n1 < n2)) ∧ (x = y ↔ n1 = n2 ∧ t1 = t2) := by
  unfold keyR
  rw [if_pos h1, if_pos h2]
  unfold valueOkR at h1 h2
  by_cases c : kind = 1
  · rw [if_pos c] at h1 h2 ⊢
    rw [if_pos c]
    rw [Bool.and_eq_true, decide_eq_true_eq, decide_eq_true_eq] at h1 h2
    have e1 : t1 = ⟨#[]⟩ := bytesOf_inj (by rw [List.eq_nil_of_length_eq_zero (by rw [bytesOf_length]; exact h1.2 : (bytesOf t1).length = 0)]; rfl)
    have e2 : t2 = ⟨#[]⟩ := bytesOf_inj (by rw [List.eq_nil_of_length_eq_zero (by rw [bytesOf_length]; exact h2.2 : (bytesOf t2).length = 0)]; rfl)
    refine ⟨_, _, rfl, rfl, ?_, ?_⟩
    · rw [if_neg (by omega)]; exact three_less n1 n2 h1.1 h2.1
    · rw [show strOfNums [n1 / 65536 % 256, n1 / 256 % 256, n1 % 256] = strOfNums (threeL n1) from rfl, show strOfNums [n2 / 65536 % 256, n2 / 256 % 256, n2 % 256] = strOfNums (threeL n2) from rfl, three_same n1 n2 h1.1 h2.1, e1, e2]
      simp
  · rw [if_neg c] at h1 h2 ⊢
    rw [if_neg c]
    simp only [Bool.and_eq_true, decide_eq_true_eq] at h1 h2
    refine ⟨_, _, rfl, rfl, ?_, ?_⟩
    · rw [if_pos h1.1.1.1, toList_append, toList_append, show (⟨#[0]⟩ : ByteArray).toList = [0] by rw [ByteArray.toList_eq]]
      exact bl_zero _ _ (noZero_mem h1.2) (noZero_mem h2.2)
    · constructor
      · intro h; exact ⟨by rw [h1.1.1.2, h2.1.1.2], append_byte_inj h⟩
      · intro h; rw [h.2]
def faR (l : List S85) (name : ByteArray) : Int := idxP (fun x : S85 => x.f0.toList == name.toList) l 0
/-- A field that is right but for the others. -/
def fieldOkR (x : S85) : Bool := wordR x.f0 4 && decide (1 ≤ x.f1 ∧ x.f1 ≤ 2)
def soL (n : Int) : List S85 → List S85 → Bool
  | _, [] => decide (1 ≤ n ∧ n ≤ 3)
  | pre, x :: t => if fieldOkR x = true then (if pre.any (fun y => y.f0.toList == x.f0.toList) = true then false else soL n (pre ++ [x]) t) else false
def soR (l : List S85) : Bool := soL (l.length : Int) [] l
theorem soL_tells (n : Int) (rest : List S85) : ∀ pre, soL n pre rest = true → 1 ≤ n ∧ n ≤ 3 ∧ ∀ x ∈ rest, fieldOkR x = true := by
  induction rest with
  | nil => intro pre h; unfold soL at h; have := of_decide_eq_true h; exact ⟨this.1, this.2, fun x hx => by cases hx⟩
  | cons x t ih =>
    intro pre h
    unfold soL at h
    split at h
    · rename_i c
      split at h
      · cases h
      · obtain ⟨h1, h2, h3⟩ := ih _ h
        refine ⟨h1, h2, fun y hy => ?_⟩
        rcases List.mem_cons.1 hy with rfl | hy
        · exact c
        · exact h3 y hy
    · cases h
theorem soR_tells (l : List S85) (h : soR l = true) : 1 ≤ l.length ∧ l.length ≤ 3 ∧ ∀ x ∈ l, fieldOkR x = true := by
  obtain ⟨h1, h2, h3⟩ := soL_tells _ l [] h
  exact ⟨by omega, by omega, h3⟩
theorem fieldOkR_tells (x : S85) (h : fieldOkR x = true) : 1 ≤ x.f0.size ∧ x.f0.size ≤ 4 ∧ 1 ≤ x.f1 ∧ x.f1 ≤ 2 := by
  unfold fieldOkR wordR at h
  simp only [Bool.and_eq_true, decide_eq_true_eq] at h
  omega
def schemaB : List S85 → ByteArray
  | [] => ⟨#[]⟩
  | x :: t => (strOfNums [x.f1 % 256] ++ shortB x.f0) ++ schemaB t
def schemaTextR (l : List S85) : ByteArray × Bool := if soR l = true then (schemaB l, true) else (⟨#[]⟩, false)
theorem shortB_size_le (s : ByteArray) (h : s.size ≤ 140737488351232) : (shortB s).size ≤ 10 + s.size := by
  unfold shortB
  rw [ByteArray.size_append]
  have := varB_size_le s.size (by omega)
  omega
/-- A schema is read, at most so many fields. -/
def schP (t : ByteArray) : Nat → Int → List S85 → Option (List S85)
  | 0, a, out => if a < (t.size : Int) then none else some out
  | d + 1, a, out => if a < (t.size : Int) then (if (rsR t (a + 1)).2.2 = true then schP t d (rsR t (a + 1)).2.1 (out ++ [⟨(rsR t (a + 1)).1, bt t a⟩]) else none) else some out
theorem schP_took (t : ByteArray) (d : Nat) : ∀ (a : Int) (out out' : List S85), 0 ≤ a ∧ a ≤ (t.size : Int) → schP t d a out = some out' → ∃ l, out' = out ++ l ∧ Took t a (t.size : Int) (schemaB l) := by
  have stop : ∀ (a : Int) (out out' : List S85), 0 ≤ a ∧ a ≤ (t.size : Int) → ¬ a < (t.size : Int) → some out = some out' → ∃ l, out' = out ++ l ∧ Took t a (t.size : Int) (schemaB l) := by
    intro a out out' ha c h
    have e : a = (t.size : Int) := by omega
    refine ⟨[], by rw [← Option.some.inj h]; simp, ?_⟩
    rw [← e]
    exact Took.nil t a ha
  induction d with
  | zero =>
    intro a out out' ha h
    unfold schP at h
    split at h
    · cases h
    · exact stop a out out' ha (by assumption) h
  | succ d ih =>
    intro a out out' ha h
    unfold schP at h
    split at h
    · rename_i c
      rcases hr : rsR t (a + 1) with ⟨s, b, ok⟩
      rw [hr] at h
      cases ok with
      | false => rw [if_neg (by simp)] at h; cases h
      | true =>
        rw [if_pos rfl] at h
        obtain ⟨g1, g2⟩ := rsR_took hr
        obtain ⟨l, e, g3⟩ := ih b _ out' ⟨by have := g1.1; have := g1.2.2.1; omega, g1.2.1⟩ h
        refine ⟨⟨s, bt t a⟩ :: l, by rw [e]; simp, ?_⟩
        have := ((Took.byte t a ha.1 c).trans g1).trans g3
        unfold schemaB
        have hb := bt_range t a
        rw [show (⟨s, bt t a⟩ : S85).f1 % 256 = bt t a by show bt t a % 256 = bt t a; omega]
        exact this
    · exact stop a out out' ha (by assumption) h
theorem schP_reads (t : ByteArray) (l : List S85) : ∀ (d : Nat) (a : Int) (out : List S85), l.length ≤ d → (∀ x ∈ l, x.f0.size ≤ 4 ∧ 1 ≤ x.f1 ∧ x.f1 ≤ 2) → Took t a (t.size : Int) (schemaB l) → schP t d a out = some (out ++ l) := by
  induction l with
  | nil =>
    intro d a out _ _ ht
    have hb : (t.size : Int) = a := by have := ht.2.2.1; change _ = a + 0 at this; omega
    cases d <;> simp [schP, hb]
  | cons x l ih =>
    intro d a out hd h ht
    unfold schemaB at ht
    obtain ⟨t1, t2⟩ := Took.split ht
    obtain ⟨t3, t4⟩ := Took.split t1
    obtain ⟨h1, h2, h3⟩ := h x (by simp)
    rw [show x.f1 % 256 = x.f1 by omega] at t1 t2 t3 t4
    obtain ⟨e1, e2, e3⟩ := Took.byte_tells ⟨by omega, by omega⟩ t3
    rw [e1] at t4
    obtain ⟨d, rfl⟩ : ∃ m, d = m + 1 := ⟨d - 1, by rw [List.length_cons] at hd; omega⟩
    unfold schP
    rw [if_pos e2, rsR_reads t4 (by omega), if_pos rfl, e3, ih d _ _ (by rw [List.length_cons] at hd; omega) (fun y hy => h y (by simp [hy])) t2]
    simp
/-- The same, where what is bad stays bad. -/
def schS (t : ByteArray) : Nat → Int → Bool → List S85 → Int × Bool × List S85
  | 0, a, bad, out => (a, bad, out)
  | d + 1, a, bad, out => if a < (t.size : Int) ∧ bad = false then schS t d (txtR t (a + 1) false).2.1 (txtR t (a + 1) false).2.2 (out ++ [⟨(txtR t (a + 1) false).1, bt t a⟩]) else (a, bad, out)
theorem schS_reads (t : ByteArray) (l : List S85) : ∀ (d : Nat) (a : Int) (out : List S85), l.length ≤ d → (∀ x ∈ l, x.f0.size ≤ 4 ∧ 1 ≤ x.f1 ∧ x.f1 ≤ 2) → Took t a (t.size : Int) (schemaB l) → schS t d a false out = ((t.size : Int), false, out ++ l) := by
  induction l with
  | nil =>
    intro d a out _ _ ht
    have hb : (t.size : Int) = a := by have := ht.2.2.1; change _ = a + 0 at this; omega
    cases d <;> simp [schS, hb]
  | cons x l ih =>
    intro d a out hd h ht
    unfold schemaB at ht
    obtain ⟨t1, t2⟩ := Took.split ht
    obtain ⟨t3, t4⟩ := Took.split t1
    obtain ⟨h1, h2, h3⟩ := h x (by simp)
    rw [show x.f1 % 256 = x.f1 by omega] at t1 t2 t3 t4
    obtain ⟨e1, e2, e3⟩ := Took.byte_tells ⟨by omega, by omega⟩ t3
    rw [e1] at t4
    obtain ⟨d, rfl⟩ : ∃ m, d = m + 1 := ⟨d - 1, by rw [List.length_cons] at hd; omega⟩
    unfold schS
    rw [if_pos ⟨e2, rfl⟩, txtR_reads t4 (by omega), e3]
    dsimp only
    rw [ih d _ _ (by rw [List.length_cons] at hd; omega) (fun y hy => h y (by simp [hy])) t2]
    simp
theorem schemaTextR_tells {l : List S85} {t : ByteArray} (h : schemaTextR l = (t, true)) : soR l = true ∧ schemaB l = t := by
  unfold schemaTextR at h
  split at h
  · simp only [Prod.mk.injEq, and_true] at h; exact ⟨by assumption, h⟩
  · simp at h
def readSchemaR (t : ByteArray) : List S85 × Bool :=
  if (schS t 4 0 false []).2.1 = false ∧ schemaTextR (schS t 4 0 false []).2.2 = (t, true) then ((schS t 4 0 false []).2.2, true) else ([], false)
theorem soR_small {l : List S85} (h : soR l = true) : ∀ x ∈ l, x.f0.size ≤ 4 ∧ 1 ≤ x.f1 ∧ x.f1 ≤ 2 := by
  obtain ⟨h1, h2, h3⟩ := soR_tells l h
  intro x hx
  have := fieldOkR_tells x (h3 x hx)
  omega
theorem readSchemaR_text {l : List S85} {t : ByteArray} (h : schemaTextR l = (t, true)) : readSchemaR t = (l, true) := by
  obtain ⟨h1, rfl⟩ := schemaTextR_tells h
  obtain ⟨g1, g2, g3⟩ := soR_tells l h1
  have := schS_reads (schemaB l) l 4 0 [] (by omega) (soR_small h1) (Took.self _)
  unfold readSchemaR
  rw [this]
  dsimp only
  rw [List.nil_append, if_pos ⟨rfl, h⟩]
theorem readSchemaR_tells {l : List S85} {t : ByteArray} (h : readSchemaR t = (l, true)) : schemaTextR l = (t, true) := by
  unfold readSchemaR at h
  split at h
  · rename_i c
    simp only [Prod.mk.injEq, and_true] at h
    rw [← h]; exact c.2
  · simp at h
theorem readSchemaR_no {l : List S85} {t : ByteArray} (h : readSchemaR t = (l, false)) : l = [] := by
  unfold readSchemaR at h
  split at h
  · simp at h
  · simp only [Prod.mk.injEq, and_true] at h; exact h.symm
/-- Both ways to read give the same. -/
theorem readSchemaR_impl (t : ByteArray) : readSchemaR t = match schP t 3 0 [] with | none => ([], false) | some out => if soR out = true then (out, true) else ([], false) := by
  rcases hr : readSchemaR t with ⟨l, ok⟩
  cases ok with
  | true =>
    have h := readSchemaR_tells hr
    obtain ⟨h1, rfl⟩ := schemaTextR_tells h
    obtain ⟨g1, g2, g3⟩ := soR_tells l h1
    rw [schP_reads (schemaB l) l 3 0 [] (by omega) (soR_small h1) (Took.self _), List.nil_append]
    dsimp only
    rw [if_pos h1]
  | false =>
    rw [readSchemaR_no hr]
    cases hp : schP t 3 0 [] with
    | none => rfl
    | some out =>
      dsimp only
      by_cases c : soR out = true
      · obtain ⟨l2, e, ht⟩ := schP_took t 3 0 [] out ⟨Int.le_refl _, by omega⟩ hp
        rw [List.nil_append] at e
        subst e
        have hw := ht.whole rfl
        have : schemaTextR out = (t, true) := by unfold schemaTextR; rw [if_pos c, hw]
        rw [readSchemaR_text this] at hr
        simp at hr
      · rw [if_neg c]
def thingAt (F : List S85) (V : List S87) (i : Nat) : Bool := valueOkR (rd_T85 F (i : Int)).f1 (rd_T87 V (i : Int)).f0 (rd_T87 V (i : Int)).f1
def thingOkR (F : List S85) (V : List S87) : Bool := soR F && decide (V.length = F.length) && (List.range' 0 F.length).all (thingAt F V)
def putB (f : S85) (v : S87) : ByteArray := if f.f1 = 1 then varB v.f0.toNat else shortB v.f1
def thingB : List S85 → List S87 → ByteArray
  | [], _ => ⟨#[]⟩
  | _ :: _, [] => ⟨#[]⟩
  | f :: F, v :: V => putB f v ++ thingB F V
def thingTextR (F : List S85) (V : List S87) : ByteArray × Bool := if thingOkR F V = true then (thingB F V, true) else (⟨#[]⟩, false)
/-- A value of a kind, small enough, and as its text tells it. -/
def fits (f : S85) (v : S87) : Prop := (f.f1 = 1 ∧ 0 ≤ v.f0 ∧ v.f0 ≤ 999999 ∧ v.f1 = ⟨#[]⟩) ∨ (f.f1 ≠ 1 ∧ v.f0 = 0 ∧ v.f1.size ≤ 6)
theorem size_zero_eq {s : ByteArray} (h : s.size = 0) : s = ⟨#[]⟩ := by
  apply bytesOf_inj
  have : (bytesOf s).length = 0 := by rw [bytesOf_length]; exact h
  rw [List.eq_nil_of_length_eq_zero this]
  rfl
theorem valueOkR_fits {f : S85} {v : S87} (h : valueOkR f.f1 v.f0 v.f1 = true) : fits f v := by
  unfold valueOkR at h
  by_cases c : f.f1 = 1
  · rw [if_pos c, Bool.and_eq_true, decide_eq_true_eq, decide_eq_true_eq] at h
    exact .inl ⟨c, h.1.1, h.1.2, size_zero_eq h.2⟩
  · rw [if_neg c] at h
    simp only [Bool.and_eq_true, decide_eq_true_eq] at h
    exact .inr ⟨c, h.1.1.2, by omega⟩
theorem thingOkR_tells {F : List S85} {V : List S87} (h : thingOkR F V = true) : soR F = true ∧ V.length = F.length ∧ F.length ≤ 3 ∧ ∀ (i : Nat) (h1 : i < F.length) (h2 : i < V.length), fits F[i] V[i] := by
  unfold thingOkR at h
  rw [Bool.and_eq_true, Bool.and_eq_true, decide_eq_true_eq] at h
  obtain ⟨⟨h1, h2⟩, h3⟩ := h
  refine ⟨h1, h2, (soR_tells F h1).2.1, fun i g1 g2 => ?_⟩
  have := (range_all_iff _ _).1 h3 i g1
  unfold thingAt at this
  rw [show rd_T85 F (i : Int) = F[i] from rdOf_get z85 F i g1, show rd_T87 V (i : Int) = V[i] from rdOf_get z87 V i g2] at this
  exact valueOkR_fits this
/-- A thing is read, field by field; what is bad stays bad. -/
def thP (t : ByteArray) : List S85 → Int → Bool → List S87 → Int × Bool × List S87
  | [], a, bad, V => (a, bad, V)
  | f :: F, a, bad, V =>
    if f.f1 = 1 then thP t F (numR t 1000000000 a bad).2.1 (numR t 1000000000 a bad).2.2 (V ++ [⟨(numR t 1000000000 a bad).1, ⟨#[]⟩⟩])
    else thP t F (txtR t a bad).2.1 (txtR t a bad).2.2 (V ++ [⟨0, (txtR t a bad).1⟩])
theorem thP_bad (t : ByteArray) (F : List S85) : ∀ (a : Int) (V : List S87), (thP t F a true V).2.1 = true := by
  induction F with
  | nil => intro a V; rfl
  | cons f F ih =>
    intro a V
    unfold thP
    split
    · rw [numR_bad]; exact ih _ _
    · rw [txtR_bad]; exact ih _ _
theorem thP_took (t : ByteArray) (F : List S85) : ∀ (a : Int) (bad : Bool) (V : List S87), 0 ≤ a ∧ a ≤ (t.size : Int) → (thP t F a bad V).2.1 = false →
    ∃ (vs : List S87) (b : Int), thP t F a bad V = (b, false, V ++ vs) ∧ bad = false ∧ vs.length = F.length ∧ Took t a b (thingB F vs) := by
  induction F with
  | nil =>
    intro a bad V ha h
    change bad = false at h
    subst h
    exact ⟨[], a, by simp [thP], rfl, rfl, Took.nil t a ha⟩
  | cons f F ih =>
    intro a bad V ha h
    cases bad with
    | true => rw [thP_bad] at h; cases h
    | false =>
      unfold thP at h ⊢
      by_cases c : f.f1 = 1
      · rw [if_pos c] at h ⊢
        rcases hx : numR t 1000000000 a false with ⟨n, a1, b1⟩
        rw [hx] at h
        dsimp only at h ⊢
        cases b1 with
        | true => rw [thP_bad] at h; cases h
        | false =>
          obtain ⟨_, t1, _⟩ := numR_took hx
          obtain ⟨vs, b, e, _, hl, ht⟩ := ih a1 false _ ⟨by have := t1.1; have := t1.2.2.1; omega, t1.2.1⟩ h
          refine ⟨⟨n, ⟨#[]⟩⟩ :: vs, b, by rw [e]; simp, rfl, by simp [hl], ?_⟩
          unfold thingB putB
          rw [if_pos c]
          exact t1.trans ht
      · rw [if_neg c] at h ⊢
        rcases hx : txtR t a false with ⟨s, a1, b1⟩
        rw [hx] at h
        dsimp only at h ⊢
        cases b1 with
        | true => rw [thP_bad] at h; cases h
        | false =>
          obtain ⟨_, t1, _⟩ := txtR_took hx
          obtain ⟨vs, b, e, _, hl, ht⟩ := ih a1 false _ ⟨by have := t1.1; have := t1.2.2.1; omega, t1.2.1⟩ h
          refine ⟨⟨0, s⟩ :: vs, b, by rw [e]; simp, rfl, by simp [hl], ?_⟩
          unfold thingB putB
          rw [if_neg c]
          exact t1.trans ht
theorem thP_reads (t : ByteArray) (F : List S85) : ∀ (vs : List S87) (a b : Int) (V : List S87), vs.length = F.length → (∀ (i : Nat) (h1 : i < F.length) (h2 : i < vs.length), fits F[i] vs[i]) → Took t a b (thingB F vs) → thP t F a false V = (b, false, V ++ vs) := by
  induction F with
  | nil =>
    intro vs a b V hl _ ht
    have hb : b = a := by have := ht.2.2.1; change b = a + 0 at this; omega
    subst hb
    rw [List.eq_nil_of_length_eq_zero hl]
    simp [thP]
  | cons f F ih =>
    intro vs a b V hl hf ht
    obtain ⟨v, vs, rfl⟩ : ∃ v w, vs = v :: w := by
      cases vs with
      | nil => simp at hl
      | cons v w => exact ⟨v, w, rfl⟩
    unfold thingB at ht
    obtain ⟨t1, t2⟩ := Took.split ht
    have h0 := hf 0 (by simp) (by simp)
    have hr := ih vs _ b (V ++ [v]) (by simpa using hl) (fun i h1 h2 => by have := hf (i + 1) (by simp; omega) (by simp; omega); simpa using this) t2
    unfold putB at t1 hr
    unfold thP
    rcases h0 with ⟨c, g1, g2, g3⟩ | ⟨c, g1, g2⟩
    · change f.f1 = 1 at c
      change 0 ≤ v.f0 at g1
      change v.f0 ≤ 999999 at g2
      change v.f1 = _ at g3
      rw [if_pos c] at t1 hr ⊢
      rw [numR_reads t1 (by omega) (by omega)]
      dsimp only
      rw [Int.toNat_of_nonneg g1, ← g3]
      rw [hr]
      simp
    · change f.f1 ≠ 1 at c
      change v.f0 = 0 at g1
      change v.f1.size ≤ 6 at g2
      rw [if_neg c] at t1 hr ⊢
      rw [txtR_reads t1 (by omega)]
      dsimp only
      rw [← g1]
      rw [hr]
      simp
theorem thingTextR_tells {F : List S85} {V : List S87} {t : ByteArray} (h : thingTextR F V = (t, true)) : thingOkR F V = true ∧ thingB F V = t := by
  unfold thingTextR at h
  split at h
  · simp only [Prod.mk.injEq, and_true] at h; exact ⟨by assumption, h⟩
  · simp at h
def readThingR (F : List S85) (t : ByteArray) : List S87 × Bool :=
  if (thP t (F.take 10) 0 false []).2.1 = false ∧ thingTextR F (thP t (F.take 10) 0 false []).2.2 = (t, true) then ((thP t (F.take 10) 0 false []).2.2, true) else ([], false)
theorem readThingR_text {F : List S85} {V : List S87} {t : ByteArray} (h : thingTextR F V = (t, true)) : readThingR F t = (V, true) := by
  obtain ⟨h1, rfl⟩ := thingTextR_tells h
  obtain ⟨g1, g2, g3, g4⟩ := thingOkR_tells h1
  have := thP_reads (thingB F V) F V 0 _ [] g2 g4 (Took.self _)
  unfold readThingR
  rw [List.take_of_length_le (by omega), this]
  dsimp only
  rw [List.nil_append, if_pos ⟨rfl, h⟩]
theorem readThingR_tells {F : List S85} {V : List S87} {t : ByteArray} (h : readThingR F t = (V, true)) : thingTextR F V = (t, true) := by
  unfold readThingR at h
  split at h
  · rename_i c
    simp only [Prod.mk.injEq, and_true] at h
    rw [← h]; exact c.2
  · simp at h
theorem readThingR_no {F : List S85} {V : List S87} {t : ByteArray} (h : readThingR F t = (V, false)) : V = [] := by
  unfold readThingR at h
  split at h
  · simp at h
  · simp only [Prod.mk.injEq, and_true] at h; exact h.symm
theorem readThingR_impl (F : List S85) (t : ByteArray) : readThingR F t = if (thP t F 0 false []).2.1 = false ∧ (thP t F 0 false []).1 = (t.size : Int) ∧ thingOkR F (thP t F 0 false []).2.2 = true then ((thP t F 0 false []).2.2, true) else ([], false) := by
  rcases hr : readThingR F t with ⟨V, ok⟩
  cases ok with
  | true =>
    have h := readThingR_tells hr
    obtain ⟨h1, rfl⟩ := thingTextR_tells h
    obtain ⟨g1, g2, g3, g4⟩ := thingOkR_tells h1
    rw [thP_reads (thingB F V) F V 0 _ [] g2 g4 (Took.self _)]
    dsimp only
    rw [List.nil_append, if_pos ⟨rfl, rfl, h1⟩]
  | false =>
    rw [readThingR_no hr]
    by_cases c : (thP t F 0 false []).2.1 = false ∧ (thP t F 0 false []).1 = (t.size : Int) ∧ thingOkR F (thP t F 0 false []).2.2 = true
    · rw [if_pos c]
      obtain ⟨c1, c2, c3⟩ := c
      obtain ⟨vs, b, e, _, hl, ht⟩ := thP_took t F 0 false [] ⟨Int.le_refl _, by omega⟩ c1
      rw [e] at c2 c3 ⊢
      dsimp only at c2 c3 ⊢
      rw [List.nil_append] at c3 ⊢
      have hw := ht.whole c2
      have : thingTextR F vs = (t, true) := by unfold thingTextR; rw [if_pos c3, hw]
      rw [readThingR_text this] at hr
      simp at hr
    · rw [if_neg c]
theorem putB_size {f : S85} {v : S87} (h : fits f v) : (putB f v).size ≤ 20 := by
  unfold putB
  rcases h with ⟨c, g1, g2, g3⟩ | ⟨c, g1, g2⟩
  · rw [if_pos c]
    have := varB_size_le v.f0.toNat (by omega)
    omega
  · rw [if_neg c]
    have := shortB_size_upto v.f1 6 g2 (by omega)
    omega
theorem thing_step {F : List S85} {V : List S87} (h : thingOkR F V = true) (i : Nat) (hi : i < F.length) : fits (rd_T85 F (i : Int)) (rd_T87 V (i : Int)) ∧ thingB (F.drop i) (V.drop i) = putB (rd_T85 F (i : Int)) (rd_T87 V (i : Int)) ++ thingB (F.drop (i + 1)) (V.drop (i + 1)) := by
  obtain ⟨g1, g2, g3, g4⟩ := thingOkR_tells h
  have e1 : F.drop i = rd_T85 F (i : Int) :: F.drop (i + 1) := drop_rdOf z85 F i hi
  have e2 : V.drop i = rd_T87 V (i : Int) :: V.drop (i + 1) := drop_rdOf z87 V i (by omega)
  refine ⟨?_, by rw [e1, e2]; rfl⟩
  have := g4 i hi (by omega)
  rwa [← show rd_T85 F (i : Int) = F[i] from rdOf_get z85 F i hi, ← show rd_T87 V (i : Int) = V[i]'(by omega) from rdOf_get z87 V i (by omega)] at this
theorem spec_l01New_loop (b : List Int) (hb : b.length ≤ 140737488351232) : ∀ (d i : Nat) (h : Int), i + d = b.length → ∃ h' : Int, Ev (fun k => spec_l01New.l0 k b h (i : Int)) (b, 0, h') := by
  intro d
  induction d with
  | zero =>
    intro i h hi
    exact ⟨h, ev_end fun k => by rw [spec_l01New.l0, if_neg (by omega)]⟩
  | succ d ih =>
    intro i h hi
    by_cases c : i < 4000
    · obtain ⟨h', e⟩ := ih (i + 1) (Go.bits .and .i64 (wrap64 ((wrap64 ((wrap64 (h * 131)) + (wrap64 (rd b (i : Int))))) + 7)) 1073741823) (by omega)
      refine ⟨h', ev_go e fun k => ?_⟩
      rw [spec_l01New.l0, if_pos (by omega), if_pos (by omega), if_pos (by omega), w64 (n := (i : Int) + 1) (by omega) (by omega)]
      rfl
    · exact ⟨h, ev_end fun k => by rw [spec_l01New.l0, if_pos (by omega), if_neg (by omega)]⟩
theorem spec_l01New_draws (b : List Int) (hb : b.length ≤ 140737488351232) : ∃ h : Int, Ev (fun k => spec_l01New.f k b) (b, 0, h) :=
  spec_l01New_loop b hb b.length 0 _ (by omega)
theorem spec_l01Byte_draws (b : List Int) (hb : b.length ≤ 140737488351232) (i h : Int) (hi : 0 ≤ i) : ∃ x i' h' : Int, spec_l01Byte.f b i h = some (x, i', h') ∧ 0 ≤ x ∧ x ≤ 255 ∧ 0 ≤ i' := by
  unfold spec_l01Byte.f
  by_cases c : i < (b.length : Int)
  · rw [if_pos c, if_pos hi, w64 (n := i + 1) (by omega) (by omega)]
    have hr := fun y => i64_and_range y 255 (by omega) (by omega)
    exact ⟨_, _, _, rfl, (hr _).1, (hr _).2, by omega⟩
  · rw [if_neg c]
    have hr := fun y => i64_and_range y 255 (by omega) (by omega)
    exact ⟨_, _, _, rfl, (hr _).1, (hr _).2, hi⟩
theorem spec_l01Below_draws (b : List Int) (hb : b.length ≤ 140737488351232) (i h n : Int) (hi : 0 ≤ i) : ∃ x i' h' : Int, spec_l01Below.f b i h n = some (x, i', h') ∧ (0 < n → 0 ≤ x ∧ x < n) ∧ 0 ≤ i' ∧ 0 ≤ x ∧ (n ≤ 0 → x = 0) := by
  unfold spec_l01Below.f
  by_cases c : n ≤ 0
  · rw [if_pos c]
    exact ⟨0, i, h, rfl, fun hn => by omega, hi, by omega, fun _ => rfl⟩
  · rw [if_neg c]
    obtain ⟨x1, i1, h1, e1, l1, u1, p1⟩ := spec_l01Byte_draws b hb i h hi
    by_cases c2 : n ≤ 256
    · rw [if_pos c2, e1, Option.bind_some, if_neg (by omega)]
      have ht : Int.tmod x1 n = x1 % n := Int.tmod_eq_emod_of_nonneg l1
      have g1 := Int.emod_nonneg x1 (by omega : n ≠ 0)
      have g2 := Int.emod_lt_of_pos x1 (by omega : 0 < n)
      exact ⟨_, _, _, rfl, fun _ => by simp only; rw [ht]; exact ⟨g1, g2⟩, p1, by simp only; rw [ht]; exact g1, fun h => absurd h c⟩
    · rw [if_neg c2, e1, Option.bind_some]
      obtain ⟨x2, i2, h2, e2, l2, u2, p2⟩ := spec_l01Byte_draws b hb i1 h1 p1
      obtain ⟨x3, i3, h3, e3, l3, u3, p3⟩ := spec_l01Byte_draws b hb i2 h2 p2
      obtain ⟨x4, i4, h4, e4, l4, u4, p4⟩ := spec_l01Byte_draws b hb i3 h3 p3
      rw [e2, Option.bind_some, e3, Option.bind_some, e4, Option.bind_some, if_neg (by omega)]
      simp only
      rw [w64 (n := x1 * 16777216) (by omega) (by omega), w64 (n := x2 * 65536) (by omega) (by omega), w64 (n := x1 * 16777216 + _) (by omega) (by omega), w64 (n := x3 * 256) (by omega) (by omega), w64 (n := x1 * 16777216 + x2 * 65536 + _) (by omega) (by omega), w64 (by omega) (by omega)]
      have ht : Int.tmod (x1 * 16777216 + x2 * 65536 + x3 * 256 + x4) n = (x1 * 16777216 + x2 * 65536 + x3 * 256 + x4) % n := Int.tmod_eq_emod_of_nonneg (by omega)
      have g1 := Int.emod_nonneg (x1 * 16777216 + x2 * 65536 + x3 * 256 + x4) (by omega : n ≠ 0)
      have g2 := Int.emod_lt_of_pos (x1 * 16777216 + x2 * 65536 + x3 * 256 + x4) (by omega : 0 < n)
      exact ⟨_, _, _, rfl, fun _ => by rw [ht]; exact ⟨g1, g2⟩, p4, by rw [ht]; exact g1, fun h => absurd h c⟩
def schemaAll : List S85 := [⟨(⟨#[97, 103, 101]⟩ : ByteArray), 1⟩, ⟨(⟨#[110, 97, 109, 101]⟩ : ByteArray), 2⟩, ⟨(⟨#[120]⟩ : ByteArray), 1⟩]
theorem spec_l04Schema_draws (b : List Int) (hb : b.length ≤ 140737488351232) (i h : Int) (hi : 0 ≤ i) : ∃ (n : Nat) (i' h' : Int), spec_l04Schema.f b i h = some (schemaAll.take n, i', h') ∧ 1 ≤ n ∧ n ≤ 3 ∧ 0 ≤ i' := by
  obtain ⟨x, i1, h1, e1, r1, p1, _⟩ := spec_l01Below_draws b hb i h 3 hi
  have rx := r1 (by omega)
  refine ⟨(1 + x).toNat, i1, h1, ?_, by omega, by omega, p1⟩
  unfold spec_l04Schema.f
  have hl : (schemaAll.length : Int) = 3 := rfl
  rw [Option.bind_some, e1, Option.bind_some, w64 (by omega) (by omega), if_pos (by omega)]
  show (if 1 + x ≤ (schemaAll.length : Int) then some (schemaAll.take (1 + x).toNat, i1, h1) else none) = _
  rw [if_pos (by omega)]
theorem schemaAll_small (n : Nat) : ∀ x ∈ schemaAll.take n, x.f0.size ≤ 5 := by
  intro x hx
  have hx := List.mem_of_mem_take hx
  simp only [schemaAll, List.mem_cons, List.not_mem_nil, or_false] at hx
  rcases hx with rfl | rfl | rfl <;> decide
theorem schemaAll_length (n : Nat) (h : 1 ≤ n) (h3 : n ≤ 3) : (schemaAll.take n).length = n := by
  rw [List.length_take]
  have : schemaAll.length = 3 := rfl
  omega
theorem spec_l01PickInt_draws (b : List Int) (hb : b.length ≤ 140737488351232) (i h : Int) (hi : 0 ≤ i) (l : List Int) (hl : 0 < l.length) : ∃ (x i' h' : Int), spec_l01PickInt.f b i h l = some (x, i', h') ∧ x ∈ l ∧ 0 ≤ i' := by
  obtain ⟨x, i', h', e, r, p, _⟩ := spec_l01Below_draws b hb i h (l.length : Int) hi
  have r' := r (by omega)
  unfold spec_l01PickInt.f
  rw [e, Option.bind_some, if_pos r'.1, if_pos r'.2]
  obtain ⟨m, rfl⟩ := Int.eq_ofNat_of_zero_le r'.1
  exact ⟨_, _, _, rfl, rd_mem l m (by have := r'.2; omega), p⟩
theorem spec_l01Pick_draws (b : List Int) (hb : b.length ≤ 140737488351232) (i h : Int) (hi : 0 ≤ i) (l : List ByteArray) (hl : 0 < l.length) : ∃ (x : ByteArray) (i' h' : Int), spec_l01Pick.f b i h l = some (x, i', h') ∧ x ∈ l ∧ 0 ≤ i' := by
  obtain ⟨x, i', h', e, r, p, _⟩ := spec_l01Below_draws b hb i h (l.length : Int) hi
  have r' := r (by omega)
  unfold spec_l01Pick.f
  rw [e, Option.bind_some, if_pos r'.1, if_pos r'.2]
  obtain ⟨m, rfl⟩ := Int.eq_ofNat_of_zero_le r'.1
  exact ⟨_, _, _, rfl, rdOf_mem _ l m (by have := r'.2; omega), p⟩
theorem spec_l04ValueOf_draws (b : List Int) (hb : b.length ≤ 140737488351232) (i h kind : Int) (hi : 0 ≤ i) : ∃ (n : Int) (s : ByteArray) (i' h' : Int), spec_l04ValueOf.f b i h kind = some (n, s, i', h') ∧ s.size ≤ 6 ∧ (kind = 1 ∨ kind = 2 → valueOkR kind n s = true) ∧ 0 ≤ i' := by
  unfold spec_l04ValueOf.f
  by_cases c : kind = 1
  · obtain ⟨x, i1, h1, e1, r1, p1, _⟩ := spec_l01Below_draws b hb i h 50 hi
    obtain ⟨y, i2, h2, e2, m2, p2⟩ := spec_l01PickInt_draws b hb i1 h1 p1 [0, 1, 7, 256, 65535, 999999, x] (by simp)
    have rx := r1 (by omega)
    rw [if_pos c, e1, Option.bind_some]
    dsimp only
    rw [e2, Option.bind_some]
    refine ⟨_, _, _, _, rfl, Nat.zero_le _, fun _ => ?_, p2⟩
    dsimp only
    unfold valueOkR
    have hy : 0 ≤ y ∧ y ≤ 999999 := by
      simp only [List.mem_cons, List.not_mem_nil, or_false] at m2
      omega
    rw [if_pos c, decide_eq_true hy]
    rfl
  · obtain ⟨y, i2, h2, e2, m2, p2⟩ := spec_l01Pick_draws b hb i h hi ([(⟨#[]⟩ : ByteArray), (⟨#[97]⟩ : ByteArray), (⟨#[98]⟩ : ByteArray), (⟨#[97, 110, 110]⟩ : ByteArray), (⟨#[98, 111, 98]⟩ : ByteArray), (⟨#[122, 122, 122, 122, 122, 122]⟩ : ByteArray)]) (by decide)
    rw [if_neg c, e2, Option.bind_some]
    refine ⟨_, _, _, _, rfl, ?_, fun hk => ?_, p2⟩
    · dsimp only
      simp only [List.mem_cons, List.not_mem_nil, or_false] at m2
      rcases m2 with rfl | rfl | rfl | rfl | rfl | rfl <;> decide
    · dsimp only
      have k2 : kind = 2 := by omega
      subst k2
      simp only [List.mem_cons, List.not_mem_nil, or_false] at m2
      rcases m2 with rfl | rfl | rfl | rfl | rfl | rfl <;> decide
def Drew (F : List S85) (V : List S87) (n : Nat) : Prop := V.length = n ∧ (∀ x ∈ V, x.f1.size ≤ 7) ∧ ∀ (i : Nat) (h1 : i < F.length) (h2 : i < V.length), F[i].f1 = 1 ∨ F[i].f1 = 2 → valueOkR F[i].f1 V[i].f0 V[i].f1 = true
theorem spec_l04Thing_loop (b : List Int) (hb : b.length ≤ 140737488351232) (F : List S85) (hF : F.length ≤ 1048576) : ∀ (d j : Nat) (V : List S87) (i h : Int), j + d = F.length → Drew F V j → 0 ≤ i → ∃ (W : List S87) (i' h' : Int), Ev (fun k => spec_l04Thing.l0 k F V (j : Int) b i h) (W, i', h') ∧ Drew F W F.length ∧ 0 ≤ i' := by
  intro d
  induction d with
  | zero =>
    intro j V i h hj hV hi
    refine ⟨V, i, h, ev_end fun k => ?_, by rw [show F.length = j by omega]; exact hV, hi⟩
    rw [spec_l04Thing.l0, if_neg (by omega)]
  | succ d ih =>
    intro j V i h hj hV hi
    obtain ⟨n, s, i1, h1, e1, q1, q2, p1⟩ := spec_l04ValueOf_draws b hb i h (rd_T85 F (j : Int)).f1 hi
    have hl := hV.1
    obtain ⟨W, i', h', e2, g, p⟩ := ih (j + 1) (V ++ [⟨n, s⟩]) i1 h1 (by omega) ⟨by simp [hl], (by
      intro x hx
      rcases List.mem_append.1 hx with hx | hx
      · exact hV.2.1 x hx
      · rw [List.mem_singleton.1 hx]; exact Nat.le_trans q1 (by omega)), (by
      intro q hq1 hq2 hk
      by_cases c : q < V.length
      · rw [List.getElem_append_left c]
        exact hV.2.2 q hq1 c hk
      · have e : q = j := by simp at hq2; omega
        subst e
        have hg : F[q] = rd_T85 F (q : Int) := (rdOf_get z85 F q hq1).symm
        rw [List.getElem_append_right (by omega)]
        have : (([⟨n, s⟩] : List S87)[q - V.length]'(by simp at hq2 ⊢; omega)) = ⟨n, s⟩ := by
          have : q - V.length = 0 := by omega
          simp [this]
        rw [this, hg]
        rw [hg] at hk
        exact q2 hk)⟩ p1
    refine ⟨W, i', h', ev_go e2 fun k => ?_, g, p⟩
    rw [spec_l04Thing.l0, if_pos (by omega), if_pos (by omega), e1, Option.bind_some, if_pos (by omega), w64 (by omega) (by omega)]
    rfl
theorem spec_l04Thing_draws (b : List Int) (hb : b.length ≤ 140737488351232) (F : List S85) (hF : F.length ≤ 1048576) (i h : Int) (hi : 0 ≤ i) : ∃ (W : List S87) (i' h' : Int), Ev (fun k => spec_l04Thing.f k b i h F) (W, i', h') ∧ Drew F W F.length ∧ 0 ≤ i' :=
  spec_l04Thing_loop b hb F hF F.length 0 [] i h (by omega) ⟨rfl, (fun x hx => by cases hx), fun q _ h2 => absurd h2 (by simp)⟩ hi
theorem spec_DrawSchema_draws (b : List Int) (hb : b.length ≤ 140737488351232) : ∃ (n : Nat) (V W : List S87), Ev (fun k => spec_DrawSchema.f k b) (schemaAll.take n, V, W) ∧ 1 ≤ n ∧ n ≤ 3 ∧ Drew (schemaAll.take n) V (schemaAll.take n).length ∧ Drew (schemaAll.take n) W (schemaAll.take n).length := by
  obtain ⟨h, K, e⟩ := spec_l01New_draws b hb
  obtain ⟨n, i1, h1, e1, n1, n3, p1⟩ := spec_l04Schema_draws b hb 0 h (Int.le_refl 0)
  have hl := schemaAll_length n n1 n3
  obtain ⟨V, i2, h2, ⟨K2, e2⟩, g2, p2⟩ := spec_l04Thing_draws b hb (schemaAll.take n) (by omega) i1 h1 p1
  obtain ⟨W, i3, h3, ⟨K3, e3⟩, g3, p3⟩ := spec_l04Thing_draws b hb (schemaAll.take n) (by omega) i2 h2 p2
  refine ⟨n, V, W, ⟨K + K2 + K3, fun k hk => ?_⟩, n1, n3, g2, g3⟩
  dsimp only at e e2 e3 ⊢
  unfold spec_DrawSchema.f
  rw [e k (by omega), Option.bind_some, e1, Option.bind_some]
  dsimp only
  rw [e2 k (by omega), Option.bind_some]
  dsimp only
  rw [e3 k (by omega), Option.bind_some]
theorem impl_in_eq (x a b : Int) : impl_in.f x a b = some (decide (a ≤ x ∧ x ≤ b)) := in_dec x a b
theorem impl_valueOk_eq (kind num : Int) (s : ByteArray) : impl_valueOk.f kind num s = some (valueOkR kind num s) := by
  unfold impl_valueOk.f valueOkR
  by_cases c : kind = 1
  · rw [if_pos c, if_pos c, impl_in_eq, Option.bind_some]
    cases decide (0 ≤ num ∧ num ≤ 999999) with
    | false => rfl
    | true => rw [if_pos rfl, toList_empty_iff]; rfl
  · rw [if_neg c, if_neg c]
    by_cases c1 : kind = 2
    · rw [if_pos c1, decide_eq_true c1]
      by_cases c2 : num = 0
      · rw [if_pos c2, decide_eq_true c2]
        by_cases c3 : (s.size : Int) ≤ 6
        · rw [if_pos c3, decide_eq_true c3]
          unfold strings_Contains.f
          rw [if_pos rfl, Option.bind_some, noZero_index, Bool.not_not]
          rfl
        · rw [if_neg c3, decide_eq_false c3]; rfl
      · rw [if_neg c2, decide_eq_false c2]; rfl
    · rw [if_neg c1, decide_eq_false c1]; rfl
theorem impl_oneByte_eq (n : Int) : impl_oneByte.f n = some (strOfNums [n % 256]) := rfl
theorem one_size (n : Int) : (strOfNums [n]).size = 1 := by rw [strOfNums_size]; rfl
theorem impl_KeyText_eq (kind num : Int) (s : ByteArray) (hs : s.size ≤ 1048576) : impl_KeyText.f kind num s = some (keyR kind num s) := by
  unfold impl_KeyText.f keyR
  rw [impl_valueOk_eq, Option.bind_some]
  cases h : valueOkR kind num s with
  | false => rfl
  | true =>
    rw [if_pos rfl, if_pos rfl]
    by_cases c : kind = 1
    · rw [if_pos c, if_pos c, impl_oneByte_eq, Option.bind_some, impl_oneByte_eq, Option.bind_some, if_pos (by rw [one_size, one_size]; omega), impl_oneByte_eq, Option.bind_some, if_pos (by rw [ByteArray.size_append, one_size, one_size, one_size]; omega)]
      have : strOfNums [num / 65536 % 256] ++ strOfNums [num / 256 % 256] ++ strOfNums [num % 256] = strOfNums [num / 65536 % 256, num / 256 % 256, num % 256] := by
        apply ByteArray.ext
        rw [ByteArray.data_append, ByteArray.data_append]
        rfl
      rw [this]
    · rw [if_neg c, if_neg c, if_pos (by omega)]
theorem spec_DrawKeyText_draws (b : List Int) (hb : b.length ≤ 140737488351232) : ∃ (kind num : Int) (s : ByteArray), Ev (fun k => spec_DrawKeyText.f k b) (kind, num, s) ∧ s.size ≤ 7 := by
  obtain ⟨h, K, e⟩ := spec_l01New_draws b hb
  obtain ⟨x, i1, h1, e1, r1, p1, _⟩ := spec_l01Below_draws b hb 0 h 2 (Int.le_refl 0)
  have rx := r1 (by omega)
  obtain ⟨m, s, i2, h2, e2, q2, _, p2⟩ := spec_l04ValueOf_draws b hb i1 h1 (wrap64 (1 + x)) p1
  obtain ⟨y, i3, h3, e3, r3, p3, _⟩ := spec_l01Below_draws b hb i2 h2 8 p2
  dsimp only at e
  by_cases c0 : y = 0
  · obtain ⟨z, i4, h4, e4, r4, p4, _⟩ := spec_l01Below_draws b hb i3 h3 4 p3
    refine ⟨z, m, s, ⟨K, fun k hk => ?_⟩, by omega⟩
    try dsimp only
    unfold spec_DrawKeyText.f
    rw [e k hk, Option.bind_some, e1, Option.bind_some]
    try dsimp only
    rw [e2, Option.bind_some]
    try dsimp only
    rw [e3, Option.bind_some]
    try dsimp only
    rw [if_pos c0]
    try dsimp only
    rw [e4, Option.bind_some]
  · by_cases c1 : y = 1
    · obtain ⟨z, i4, h4, e4, m4, p4⟩ := spec_l01PickInt_draws b hb i3 h3 p3 ([(-1), 1000000] : List Int) (by simp)
      refine ⟨wrap64 (1 + x), z, s, ⟨K, fun k hk => ?_⟩, by omega⟩
      try dsimp only
      unfold spec_DrawKeyText.f
      rw [e k hk, Option.bind_some, e1, Option.bind_some]
      try dsimp only
      rw [e2, Option.bind_some]
      try dsimp only
      rw [e3, Option.bind_some]
      try dsimp only
      rw [if_neg c0, if_pos c1]
      try dsimp only
      rw [e4, Option.bind_some]
    · by_cases c2 : y = 2
      · obtain ⟨z, i4, h4, e4, m4, p4⟩ := spec_l01Pick_draws b hb i3 h3 p3 ([(⟨#[97, 98, 99, 100, 101, 102, 103]⟩ : ByteArray), (⟨#[0]⟩ : ByteArray)] : List ByteArray) (by decide)
        have hz : z.size ≤ 7 := by
          simp only [List.mem_cons, List.not_mem_nil, or_false] at m4
          rcases m4 with rfl | rfl <;> decide
        refine ⟨wrap64 (1 + x), m, z, ⟨K, fun k hk => ?_⟩, hz⟩
        try dsimp only
        unfold spec_DrawKeyText.f
        rw [e k hk, Option.bind_some, e1, Option.bind_some]
        try dsimp only
        rw [e2, Option.bind_some]
        try dsimp only
        rw [e3, Option.bind_some]
        try dsimp only
        rw [if_neg c0, if_neg c1, if_pos c2]
        try dsimp only
        rw [e4, Option.bind_some]
      · refine ⟨wrap64 (1 + x), m, s, ⟨K, fun k hk => ?_⟩, by omega⟩
        try dsimp only
        unfold spec_DrawKeyText.f
        rw [e k hk, Option.bind_some, e1, Option.bind_some]
        try dsimp only
        rw [e2, Option.bind_some]
        try dsimp only
        rw [e3, Option.bind_some]
        try dsimp only
        rw [if_neg c0, if_neg c1, if_neg c2]
theorem spec_l01In_eq (x a b : Int) : spec_l01In.f x a b = some (decide (a ≤ x ∧ x ≤ b)) := in_dec x a b
theorem spec_l04Value_loop (kind num : Int) (s : ByteArray) (hs : s.size ≤ 9223372036854775807) : ∀ (d i : Nat), i + d = s.size → Ev (fun k => spec_l04Value.l0 k kind (i : Int) num s) (((bytesOf s).drop i).all (fun b => decide (b ≠ 0)) && (decide (kind = 2) && decide (num = 0) && decide ((s.size : Int) ≤ 6))) := by
  intro d
  induction d with
  | zero =>
    intro i hi
    refine ev_end fun k => ?_
    rw [spec_l04Value.l0, if_neg (by omega), List.drop_eq_nil_of_le (by rw [bytesOf_length]; omega)]
    by_cases c1 : kind = 2
    · rw [if_pos c1, decide_eq_true c1]
      by_cases c2 : num = 0
      · rw [if_pos c2, decide_eq_true c2]; rfl
      · rw [if_neg c2, decide_eq_false c2]; rfl
    · rw [if_neg c1, decide_eq_false c1]; rfl
  | succ d ih =>
    intro i hi
    rw [bytesOf_drop s i (by omega), List.all_cons]
    by_cases c : bt s (i : Int) = 0
    · rw [decide_eq_false (fun h => h c)]
      refine ev_end fun k => ?_
      rw [spec_l04Value.l0, if_pos (by omega), if_pos (by omega), if_pos c]
      rfl
    · rw [decide_eq_true c, Bool.true_and]
      refine ev_go (ih (i + 1) (by omega)) fun k => ?_
      rw [spec_l04Value.l0, if_pos (by omega), if_pos (by omega), if_neg c, w64 (by omega) (by omega)]
      rfl
theorem spec_l04Value_fev (kind num : Int) (s : ByteArray) (hs : s.size ≤ 9223372036854775807) : Ev (fun k => spec_l04Value.f k kind num s) (valueOkR kind num s) := by
  unfold valueOkR
  by_cases c : kind = 1
  · rw [if_pos c]
    refine ev_some fun k => ?_
    unfold spec_l04Value.f
    rw [if_pos c, spec_l01In_eq, Option.bind_some]
    cases decide (0 ≤ num ∧ num ≤ 999999) with
    | false => rfl
    | true => rw [if_pos rfl, toList_empty_iff]; rfl
  · rw [if_neg c]
    have h := spec_l04Value_loop kind num s hs s.size 0 (by omega)
    rw [List.drop_zero, Bool.and_comm] at h
    refine Ev.congr (fun k => ?_) h
    unfold spec_l04Value.f
    rw [if_neg c]
    rfl
theorem spec_KeyText_fev (kind num : Int) (s : ByteArray) (hs : s.size ≤ 1048576) : Ev (fun k => spec_KeyText.f k kind num s) (keyR kind num s) := by
  unfold keyR
  refine ev_call (spec_l04Value_fev kind num s (by omega)) (ev_some fun k => ?_) (fun k => rfl)
  cases h : valueOkR kind num s with
  | false => rfl
  | true =>
    rw [if_pos rfl, if_pos rfl]
    by_cases c : kind = 1
    · rw [if_pos c, if_pos c]
      unfold valueOkR at h
      rw [if_pos c, Bool.and_eq_true, decide_eq_true_eq] at h
      obtain ⟨⟨h1, h2⟩, _⟩ := h
      rw [Int.tdiv_eq_ediv_of_nonneg h1, Int.tdiv_eq_ediv_of_nonneg h1, Int.tmod_eq_emod_of_nonneg h1, w64 (n := num / 65536) (by omega) (by omega), w64 (n := num / 256) (by omega) (by omega), Int.tmod_eq_emod_of_nonneg (by omega), Int.emod_emod, Int.emod_emod]
    · rw [if_neg c, if_neg c, if_pos (by omega)]
theorem impl_FieldAt_eq (l : List S85) (name : ByteArray) : impl_FieldAt.f l name = some (faR l name) := rfl
theorem impl_lettersOk_loop (s : ByteArray) (hs : s.size ≤ 9223372036854775807) (most : Int) : ∀ (d i : Nat), i + d = s.size → Ev (fun k => impl_lettersOk.l0 k s most (s.size : Int) (i : Int)) (lettersL ((bytesOf s).drop i) && decide (1 ≤ (s.size : Int) ∧ (s.size : Int) ≤ most)) := by
  intro d
  induction d with
  | zero =>
    intro i hi
    refine ev_end fun k => ?_
    rw [impl_lettersOk.l0, if_neg (by omega), impl_in_eq, Option.bind_some, List.drop_eq_nil_of_le (by rw [bytesOf_length]; omega)]
    rfl
  | succ d ih =>
    intro i hi
    rw [bytesOf_drop s i (by omega), lettersL_cons]
    by_cases c1 : bt s (i : Int) < 97
    · rw [decide_eq_false (by omega)]
      refine ev_end fun k => ?_
      rw [impl_lettersOk.l0, if_pos (by omega), if_pos (by omega), if_pos (by omega), if_pos c1]
      rfl
    · by_cases c2 : bt s (i : Int) > 122
      · rw [decide_eq_false (by omega)]
        refine ev_end fun k => ?_
        rw [impl_lettersOk.l0, if_pos (by omega), if_pos (by omega), if_pos (by omega), if_neg c1, if_pos c2]
        rfl
      · rw [decide_eq_true (by omega), Bool.true_and]
        refine ev_go (ih (i + 1) (by omega)) fun k => ?_
        rw [impl_lettersOk.l0, if_pos (by omega), if_pos (by omega), if_pos (by omega), if_neg c1, if_neg c2, w64 (by omega) (by omega)]
        rfl
theorem impl_lettersOk_fev (s : ByteArray) (hs : s.size ≤ 9223372036854775807) (most : Int) : Ev (fun k => impl_lettersOk.f k s most) (wordR s most) :=
  impl_lettersOk_loop s hs most s.size 0 (by omega)
theorem impl_SchemaOk_loop (l : List S85) (hn : l.length ≤ 1048576) (hs : ∀ x ∈ l, x.f0.size ≤ 9223372036854775807) : ∀ (rest pre : List S85), l = pre ++ rest → Ev (fun k => impl_SchemaOk.l0 k l l (l.length : Int) (pre.length : Int)) (soL (l.length : Int) pre rest) := by
  intro rest
  induction rest with
  | nil =>
    intro pre hl
    have : l.length = pre.length := by rw [hl, List.append_nil]
    refine ev_end fun k => ?_
    rw [impl_SchemaOk.l0, if_neg (by omega), impl_in_eq, Option.bind_some]
    rfl
  | cons x t ih =>
    intro pre hl
    have hlen : l.length = pre.length + 1 + t.length := by rw [hl, List.length_append, List.length_cons]; omega
    have hx : rd_T85 l (pre.length : Int) = x := by rw [hl]; exact rdOf_mid z85 pre t x _ rfl
    have hxs := hs x (by rw [hl]; simp)
    have hn' := ih (pre ++ [x]) (by rw [hl]; simp)
    rw [List.length_append, List.length_singleton, show ((pre.length + 1 : Nat) : Int) = (pre.length : Int) + 1 by omega] at hn'
    have hown := idxP_own (fun y : S85 => y.f0.toList == x.f0.toList) pre t x (beq_iff_eq.2 rfl)
    rw [← hl] at hown
    obtain ⟨K1, e1⟩ := impl_lettersOk_fev x.f0 hxs 4
    obtain ⟨K2, e2⟩ := hn'
    dsimp only at e1 e2
    unfold soL fieldOkR
    refine ev_succ ⟨K1 + K2, fun k hk => ?_⟩
    rw [impl_SchemaOk.l0, if_pos (by omega), if_pos (by omega), if_pos (by omega), hx, e1 _ (by omega), Option.bind_some]
    cases h1 : wordR x.f0 4 with
    | false => rw [if_neg (by decide)]; rfl
    | true =>
      rw [if_pos rfl, impl_in_eq, Option.bind_some]
      by_cases h2 : 1 ≤ x.f1 ∧ x.f1 ≤ 2
      · rw [decide_eq_true h2, if_pos rfl, impl_FieldAt_eq, Option.bind_some]
        simp only [Bool.and_self, if_true]
        unfold faR
        by_cases h3 : pre.any (fun y => y.f0.toList == x.f0.toList) = true
        · rw [if_neg (fun h => by rw [hown.1 h] at h3; cases h3), if_pos h3]
        · rw [if_pos (hown.2 (by simpa using h3)), if_neg h3, w64 (by omega) (by omega)]
          exact e2 k (by omega)
      · rw [decide_eq_false h2, if_neg (by decide)]
        rfl
theorem impl_SchemaOk_fev (l : List S85) (hn : l.length ≤ 1048576) (hs : ∀ x ∈ l, x.f0.size ≤ 9223372036854775807) : Ev (fun k => impl_SchemaOk.f k l) (soR l) :=
  impl_SchemaOk_loop l hn hs l [] rfl
theorem impl_ThingOk_loop (F : List S85) (V : List S87) (hF : F.length ≤ 1048576) (hl : V.length = F.length) : Ev (fun k => impl_ThingOk.l0 k V F (F.length : Int) 0) ((List.range' 0 F.length).all (thingAt F V)) := by
  rw [← ite_tf ((List.range' 0 F.length).all (thingAt F V))]
  refine ev_every (fun k i => impl_ThingOk.l0 k V F (F.length : Int) (i : Int)) (thingAt F V) F.length ?_ ?_ ?_ F.length 0 (by omega)
  · refine ev_end fun k => ?_
    rw [impl_ThingOk.l0, if_neg (by omega)]
  · intro i hi hp res hr
    refine ev_go hr fun k => ?_
    unfold thingAt at hp
    rw [impl_ThingOk.l0, if_pos (by omega), if_pos (by omega), if_pos (by omega), if_pos (by omega), impl_valueOk_eq, Option.bind_some, hp, if_pos rfl, w64 (by omega) (by omega)]
    rfl
  · intro i hi hp
    refine ev_end fun k => ?_
    unfold thingAt at hp
    rw [impl_ThingOk.l0, if_pos (by omega), if_pos (by omega), if_pos (by omega), if_pos (by omega), impl_valueOk_eq, Option.bind_some, hp, if_neg (by decide)]
theorem impl_ThingOk_fev (F : List S85) (V : List S87) (hF : F.length ≤ 1048576) (hs : ∀ x ∈ F, x.f0.size ≤ 9223372036854775807) : Ev (fun k => impl_ThingOk.f k F V) (thingOkR F V) := by
  obtain ⟨K1, e1⟩ := impl_SchemaOk_fev F hF hs
  have bad : ∀ k, impl_ThingOk.j0 (k + 1) F V true = some false := fun k => by rw [impl_ThingOk.j0, if_pos rfl]
  unfold thingOkR
  cases h : soR F with
  | false =>
    rw [h] at e1
    refine ev_succ ⟨K1, fun k hk => ?_⟩
    dsimp only at e1 ⊢
    unfold impl_ThingOk.f
    rw [e1 (k + 1) (by omega), Option.bind_some, if_neg (by decide), bad]
    rfl
  | true =>
    rw [h] at e1
    rw [Bool.true_and]
    by_cases c : V.length = F.length
    · rw [decide_eq_true c, Bool.true_and]
      obtain ⟨K2, e2⟩ := impl_ThingOk_loop F V hF c
      refine ev_succ ⟨K1 + K2, fun k hk => ?_⟩
      dsimp only at e1 e2 ⊢
      unfold impl_ThingOk.f
      rw [e1 (k + 1) (by omega), Option.bind_some, if_pos rfl, c, bne_self_eq_false, impl_ThingOk.j0, if_neg (by decide)]
      exact e2 k (by omega)
    · rw [decide_eq_false c, Bool.false_and]
      have e : ((V.length : Int) != (F.length : Int)) = true := by simp only [bne_iff_ne, ne_eq]; omega
      refine ev_succ ⟨K1, fun k hk => ?_⟩
      dsimp only at e1 ⊢
      unfold impl_ThingOk.f
      rw [e1 (k + 1) (by omega), Option.bind_some, if_pos rfl, e, bad]
end Go.Proofs.Ytbjlpmhhcigkdaa.VFnOrders
namespace Go.Proofs.Ytbjlpmhhcigkdaa.Pure
open Go.Proofs.Ytbjlpmhhcigkdaa.VFnOrders
set_option linter.unusedVariables false
set_option linter.unusedSimpArgs false
open Go Go.RowKit Go.Proofs.YtbjlpmhhcigkdaaW.PrintWords Go.Proofs.YtbjlpmhhcigkdaaW.PrintLast Go.Proofs.YtbjlpmhhcigkdaaW.PrintMore
theorem drew_ok {F : List S85} {V : List S87} (hF : ∀ x ∈ F, x.f1 = 1 ∨ x.f1 = 2) (h : Drew F V F.length) (i : Nat) (hi : i < F.length) : valueOkR (rd_T85 F (i : Int)).f1 (rd_T87 V (i : Int)).f0 (rd_T87 V (i : Int)).f1 = true := by
  have h2 : i < V.length := by rw [h.1]; exact hi
  have e1 : rd_T85 F (i : Int) = F[i] := rdOf_get z85 F i hi
  have e2 : rd_T87 V (i : Int) = V[i] := rdOf_get z87 V i h2
  rw [e1, e2]
  exact h.2.2 i hi h2 (hF _ (List.getElem_mem hi))
theorem drew_small {F : List S85} {V : List S87} (h : Drew F V F.length) (i : Nat) (hi : i < F.length) : (rd_T87 V (i : Int)).f1.size ≤ 1048576 := by
  have := h.2.1 _ (rdOf_mem z87 V i (by rw [h.1]; exact hi))
  have e : (rd_T87 V (i : Int)) = rdOf z87 V i := rfl
  rw [e]; omega
theorem schemaAll_two (n : Nat) : ∀ x ∈ schemaAll.take n, x.f1 = 1 ∨ x.f1 = 2 := by
  intro x hx
  have hx := List.mem_of_mem_take hx
  simp only [schemaAll, List.mem_cons, List.not_mem_nil, or_false] at hx
  rcases hx with rfl | rfl | rfl <;> decide
theorem schemaAll_so (n : Nat) (h1 : 1 ≤ n) (h3 : n ≤ 3) : soR (schemaAll.take n) = true := by
  have f1 : fieldOkR ⟨(⟨#[97, 103, 101]⟩ : ByteArray), 1⟩ = true := by decide
  have f2 : fieldOkR ⟨(⟨#[110, 97, 109, 101]⟩ : ByteArray), 2⟩ = true := by decide
  have f3 : fieldOkR ⟨(⟨#[120]⟩ : ByteArray), 1⟩ = true := by decide
  obtain rfl | rfl | rfl : n = 1 ∨ n = 2 ∨ n = 3 := by omega
  all_goals simp [soR, soL, schemaAll, f1, f2, f3, ByteArray.toList_eq]
theorem schemaAll_age (n : Nat) (h1 : 1 ≤ n) (h3 : n ≤ 3) : faR (schemaAll.take n) (⟨#[97, 103, 101]⟩ : ByteArray) = 0 := by
  obtain rfl | rfl | rfl : n = 1 ∨ n = 2 ∨ n = 3 := by omega
  all_goals simp [faR, idxP, schemaAll]
theorem drew_thing {n : Nat} {V : List S87} (h1 : 1 ≤ n) (h3 : n ≤ 3) (h : Drew (schemaAll.take n) V (schemaAll.take n).length) : thingOkR (schemaAll.take n) V = true := by
  unfold thingOkR
  rw [schemaAll_so n h1 h3, Bool.true_and, decide_eq_true h.1, Bool.true_and, List.all_eq_true]
  intro i hi
  have hi := (List.mem_range'_1.1 hi).2
  exact drew_ok (schemaAll_two n) h i (by omega)
theorem laws_FnOrders_loop (b : List Int) (hb : b.length ≤ 140737488351232) (n : Nat) (h1 : 1 ≤ n) (h3 : n ≤ 3) (V W : List S87) (hV : Drew (schemaAll.take n) V (schemaAll.take n).length) (hW : Drew (schemaAll.take n) W (schemaAll.take n).length) : ∀ (d j : Nat), j + d = (schemaAll.take n).length → Ev (fun k => laws_FnOrders.l0 k b (schemaAll.take n) V W (j : Int)) true := by
  have hl := schemaAll_length n h1 h3
  intro d
  induction d with
  | zero =>
    intro j hj
    obtain ⟨kind, num, s, ⟨K1, e1⟩, hs⟩ := spec_DrawKeyText_draws b hb
    obtain ⟨K2, e2⟩ := spec_KeyText_fev kind num s (by omega)
    obtain ⟨K3, e3⟩ := impl_ThingOk_fev (schemaAll.take n) V (by omega) (fun x hx => by have := schemaAll_small n x hx; omega)
    dsimp only at e1 e2 e3
    refine ⟨K1 + K2 + K3 + 1, fun k hk => ?_⟩
    obtain ⟨k, rfl⟩ : ∃ q, k = q + 1 := ⟨k - 1, by omega⟩
    dsimp only
    rw [laws_FnOrders.l0, if_neg (by omega), e1 k (by omega), Option.bind_some]
    dsimp only
    rw [impl_KeyText_eq _ _ _ (by omega), Option.bind_some, e2 k (by omega), Option.bind_some, if_pos (by simp), if_pos rfl, e3 k (by omega), Option.bind_some, drew_thing h1 h3 hV, if_pos rfl, impl_FieldAt_eq, Option.bind_some, schemaAll_age n h1 h3]
    rfl
  | succ d ih =>
    intro j hj
    have o1 := drew_ok (schemaAll_two n) hV j (by omega)
    have o2 := drew_ok (schemaAll_two n) hW j (by omega)
    obtain ⟨x, y, k1, k2, kl, ke⟩ := keys_order _ _ _ _ _ o1 o2
    refine ev_go (ih (j + 1) (by omega)) fun k => ?_
    have he : (x.toList == y.toList) = ((rd_T87 V (j : Int)).f0 == (rd_T87 W (j : Int)).f0 && ((rd_T87 V (j : Int)).f1.toList == (rd_T87 W (j : Int)).f1.toList)) := by
      rw [Bool.eq_iff_iff, Bool.and_eq_true, beq_iff_eq, beq_iff_eq, beq_iff_eq]
      have inj : ∀ p q : ByteArray, p.toList = q.toList ↔ p = q := fun p q => ⟨fun h => toList_inj h, fun h => by rw [h]⟩
      rw [inj, inj]
      exact ke
    rw [laws_FnOrders.l0, if_pos (by omega), if_pos (by omega), if_pos (by rw [hV.1]; omega), impl_KeyText_eq _ _ _ (drew_small hV j (by omega)), Option.bind_some, if_pos (by rw [hW.1]; omega), impl_KeyText_eq _ _ _ (drew_small hW j (by omega)), Option.bind_some, k1, k2]
    dsimp only
    rw [kl, he, w64 (by omega) (by omega)]
    by_cases c : (rd_T85 (schemaAll.take n) (j : Int)).f1 = 2
    · rw [if_pos c, if_pos rfl, if_pos rfl, if_pos c, if_neg (by simp), if_neg (by simp)]
      rfl
    · rw [if_neg c, if_pos rfl, if_pos rfl, if_neg c, if_neg (by simp), if_neg (by simp)]
      rfl
theorem FnOrders : laws_FnOrders.Pure := by
  intro b _ hb _
  have hb' : b.length ≤ 140737488351232 := by omega
  obtain ⟨n, V, W, ⟨K1, e1⟩, n1, n3, hV, hW⟩ := spec_DrawSchema_draws b hb'
  obtain ⟨K2, e2⟩ := laws_FnOrders_loop b hb' n n1 n3 V W hV hW (schemaAll.take n).length 0 (by omega)
  dsimp only at e1 e2
  refine ⟨K1 + K2, ?_⟩
  unfold laws_FnOrders.f laws_big.f
  rw [Option.bind_some]
  by_cases c : (b.length : Int) > 1048576
  · rw [if_pos (decide_eq_true c)]
  · rw [if_neg (by simp only [decide_eq_true_eq]; exact c), e1 _ (by omega), Option.bind_some]
    exact e2 _ (by omega)
end Go.Proofs.Ytbjlpmhhcigkdaa.Pure
