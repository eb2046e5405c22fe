/- The printed form of FnExactMetaText answers true at every input that its bounds let in; no other conditions. -/
import Derived.Test.YtbjlpmhhcigkdaaVFnExactMetaTextx10
import Derived.Test.YtbjlpmhhcigkdaaZFnExactMetaTextG
import Derived.Lib.Bytealg
namespace Go.Proofs.Ytbjlpmhhcigkdaa.VFnExactMetaText
set_option linter.unusedVariables false
set_option linter.unusedSimpArgs false
open Go Go.RowKit Go.Proofs.YtbjlpmhhcigkdaaW.PrintWords Go.Proofs.YtbjlpmhhcigkdaaW.PrintLast Go.Proofs.YtbjlpmhhcigkdaaW.PrintMore
theorem w64 {n : Int} (h : -9223372036854775808 ≤ n) (h' : n ≤ 9223372036854775807) : wrap64 n = n := by
  unfold wrap64; omega
theorem ev_some {α : Type} {g : Nat → Option α} {r : α} (h : ∀ k, g k = some r) : Ev g r := ⟨0, fun k _ => h k⟩
theorem ev_succ {α : Type} {g : Nat → Option α} {r : α} (h : ∃ K, ∀ k, K ≤ k → g (k + 1) = some r) : Ev g r := by
  obtain ⟨K, h⟩ := h
  refine ⟨K + 1, fun k hk => ?_⟩
  obtain ⟨m, rfl⟩ : ∃ m, k = m + 1 := ⟨k - 1, by omega⟩
  exact h m (by omega)
/-- One round that goes on. -/
theorem ev_go {α : Type} {g f : Nat → Option α} {r : α} (hf : Ev f r) (h : ∀ k, g (k + 1) = f k) : Ev g r := Ev.step h hf
/-- One round that ends. -/
theorem ev_end {α : Type} {g : Nat → Option α} {r : α} (h : ∀ k, g (k + 1) = some r) : Ev g r := ev_succ ⟨0, fun k _ => h k⟩
/-- One call, then the rest. -/
theorem ev_call {α β : Type} {g : Nat → Option α} {f : Nat → Option β} {c : Nat → β → Option α} {b : β} {r : α} (hf : Ev f b) (hc : Ev (fun k => c k b) r) (h : ∀ k, g k = (f k).bind (c k)) : Ev g r :=
  Ev.congr h (Ev.bind hf hc)
theorem bt_lo (s : ByteArray) (i : Int) : 0 ≤ bt s i := (bt_range s i).1
theorem bt_hi (s : ByteArray) (i : Int) : bt s i ≤ 255 := (bt_range s i).2
theorem bytesOf_drop (s : ByteArray) (i : Nat) (h : i < s.size) : (bytesOf s).drop i = bt s (i : Int) :: (bytesOf s).drop (i + 1) := by
  have hl : i < (bytesOf s).length := by rw [bytesOf_length]; exact h
  rw [List.drop_eq_getElem_cons hl]
  congr 1
  rw [← rd_bytesOf s (i : Int)]
  unfold rd
  rw [Int.toNat_natCast]
  simp [List.getD, hl]
theorem strOfNums_bytesOf (s : ByteArray) : strOfNums (bytesOf s) = s := by
  apply ByteArray.ext
  apply Array.toList_inj.1
  rw [strOfNums_data]
  unfold bytesOf
  rw [List.map_map]
  conv => rhs; rw [← List.map_id s.data.toList]
  apply List.map_congr_left
  intro b _
  simp
theorem bytesOf_strOfNums (xs : List Int) (h : ∀ x ∈ xs, 0 ≤ x ∧ x ≤ 255) : bytesOf (strOfNums xs) = xs := by
  unfold bytesOf
  rw [strOfNums_data, List.map_map]
  conv => rhs; rw [← List.map_id xs]
  apply List.map_congr_left
  intro b hb
  have := h b hb
  simp only [Function.comp, UInt8.toNat_ofNat', id]
  omega
theorem bytesOf_extract (s : ByteArray) (a b : Nat) : bytesOf (s.extract a b) = ((bytesOf s).drop a).take (b - a) := by
  unfold bytesOf
  rw [ByteArray.data_extract, Array.toList_extract, List.extract_eq_take_drop, List.map_take, List.map_drop]
theorem bytesOf_append (s t : ByteArray) : bytesOf (s ++ t) = bytesOf s ++ bytesOf t := by
  unfold bytesOf
  rw [ByteArray.data_append, Array.toList_append, List.map_append]
theorem bytesOf_inj {s t : ByteArray} (h : bytesOf s = bytesOf t) : s = t := by
  rw [← strOfNums_bytesOf s, ← strOfNums_bytesOf t, h]
def varL (n : Nat) : List Int := if n > 127 then ((n : Int) % 128 + 128) :: varL (n / 128) else [(n : Int)]
termination_by n
decreasing_by omega
theorem varL_big {n : Nat} (h : n > 127) : varL n = ((n : Int) % 128 + 128) :: varL (n / 128) := by rw [varL, if_pos h]
theorem varL_small {n : Nat} (h : ¬ n > 127) : varL n = [(n : Int)] := by rw [varL, if_neg h]
theorem varL_range (n : Nat) : ∀ x ∈ varL n, 0 ≤ x ∧ x ≤ 255 := by
  induction n using Nat.strongRecOn with
  | ind n ih =>
    intro x hx
    by_cases h : n > 127
    · rw [varL_big h] at hx
      rcases List.mem_cons.1 hx with rfl | hx
      · omega
      · exact ih _ (by omega) x hx
    · rw [varL_small h] at hx
      have := List.mem_singleton.1 hx
      omega
theorem varL_length_le (j : Nat) : ∀ n : Nat, n < 128 ^ j → (varL n).length ≤ max j 1 := by
  induction j with
  | zero => intro n hn; simp at hn; subst hn; rw [varL_small (by omega)]; simp
  | succ j ih =>
    intro n hn
    by_cases h : n > 127
    · rw [varL_big h]
      have : n / 128 < 128 ^ j := by rw [Nat.pow_succ] at hn; exact Nat.div_lt_of_lt_mul (by omega)
      have := ih _ this
      cases j with
      | zero => omega
      | succ j => simp only [List.length_cons]; omega
    · rw [varL_small h, List.length_singleton]; omega
def varB (n : Nat) : ByteArray := strOfNums (varL n)
theorem varB_size (n : Nat) : (varB n).size = (varL n).length := strOfNums_size _
theorem varB_size_le (n : Nat) (h : n ≤ 9223372036854775807) : (varB n).size ≤ 10 := by
  rw [varB_size]
  have := varL_length_le 10 n (by omega)
  omega
theorem i64_and127 (x : Int) (h₀ : 0 ≤ x) (h₁ : x ≤ 9223372036854775807) : Go.bits .and .i64 x 127 = x % 128 :=
  Go.bits_mask .i64 63 (by decide) (fun n a b => by rw [IntKind.wrap_i64]; omega) 7 (by decide) x h₀ (by omega)
theorem i64_or_join (i : Nat) (x y : Int) (hx₀ : 0 ≤ x) (hx : x % 2 ^ i = 0) (hx₁ : x ≤ 9223372036854775807) (hy₀ : 0 ≤ y) (hy : y < 2 ^ i) (hy₁ : y ≤ 9223372036854775807) : Go.bits .or .i64 x y = x + y :=
  Go.bits_join .i64 63 (by decide) (fun n a b => by rw [IntKind.wrap_i64]; omega) i x y hx₀ hx (by omega) hy₀ hy (by omega)
theorem i64_or_comm (x y : Int) : Go.bits .or .i64 x y = Go.bits .or .i64 y x := by
  unfold Go.bits
  simp only [BitVec.or_comm]
theorem i64_or128 (x : Int) (h₀ : 0 ≤ x) (h₁ : x < 128) : Go.bits .or .i64 x 128 = x + 128 := by
  rw [i64_or_comm, i64_or_join 7 128 x (by omega) (by decide) (by omega) h₀ (by omega) (by omega)]
  omega
def decL : Nat → List Int → Option (Int × Nat)
  | 0, _ => none
  | _ + 1, [] => none
  | f + 1, b :: t => if b < 128 then some (b, 1) else (decL f t).map fun p => (b - 128 + 128 * p.1, p.2 + 1)
def rvL (at_ : Int) (L : List Int) : Int × Int × Bool :=
  match decL 5 L with
  | none => (0, 0, false)
  | some p => if p.1 ≤ 1000000000 ∧ varL p.1.toNat = L.take p.2 then (p.1, at_ + p.2, true) else (0, 0, false)
def rvR (s : ByteArray) (a : Int) : Int × Int × Bool :=
  if 0 ≤ a ∧ a ≤ (s.size : Int) then rvL a ((bytesOf s).drop a.toNat) else (0, 0, false)
theorem decL_varL (f : Nat) : ∀ (n : Nat) (t : List Int), n < 128 ^ f → 0 < f → decL f (varL n ++ t) = some ((n : Int), (varL n).length) := by
  induction f with
  | zero => intro n t _ h; omega
  | succ f ih =>
    intro n t hn _
    by_cases c : n > 127
    · rw [varL_big c, List.cons_append]
      simp only [decL]
      rw [if_neg (by omega)]
      have h1 : n / 128 < 128 ^ f := by rw [Nat.pow_succ] at hn; exact Nat.div_lt_of_lt_mul (by omega)
      cases f with
      | zero => simp at hn; omega
      | succ f =>
        rw [ih (n / 128) t h1 (by omega)]
        simp only [Option.map_some, List.length_cons, Option.some.injEq, Prod.mk.injEq, and_true]
        omega
    · rw [varL_small c]
      simp only [List.cons_append, List.nil_append, decL]
      rw [if_pos (by omega)]
      simp
theorem rvL_good {a : Int} {L : List Int} {n : Int} {u : Nat} (h : decL 5 L = some (n, u)) (h1 : n ≤ 1000000000) (h2 : varL n.toNat = L.take u) : rvL a L = (n, a + u, true) := by
  unfold rvL; rw [h]; simp only; rw [if_pos ⟨h1, h2⟩]
theorem rvL_reads (a : Int) (n : Nat) (t : List Int) (h : n ≤ 1000000000) : rvL a (varL n ++ t) = ((n : Int), a + (varL n).length, true) :=
  rvL_good (decL_varL 5 n t (by omega) (by omega)) (by omega) (by simp)
def sumStep (x : Int) : Int := if x % 2 = 1 then Go.bits .xor .u32 (x / 2) 3558460437 else x / 2
def sumSteps : Nat → Int → Int
  | 0, x => x
  | n + 1, x => sumSteps n (sumStep x)
def sumByte (x b : Int) : Int := sumSteps 8 (Go.bits .xor .u32 x b)
def sumL : Int → List Int → Int
  | x, [] => x
  | x, b :: t => sumL (sumByte x b) t
def sumR (x : Int) (s : ByteArray) : Int := sumL x (bytesOf s)
def fourB (n : Int) : ByteArray := strOfNums ([(n / 16777216) % 256, (n / 65536) % 256, (n / 256) % 256, n % 256] : List Int)
def sealB (s : ByteArray) : ByteArray := fourB (sumR 4294967295 s)
theorem bits_u32_range (o : BinOp) (x y : Int) (h : o = .xor) : 0 ≤ Go.bits o .u32 x y ∧ Go.bits o .u32 x y < 4294967296 := by
  subst h
  unfold Go.bits
  simp only
  rw [IntKind.wrap_u32]
  omega
theorem sumStep_range (x : Int) (h : 0 ≤ x ∧ x < 4294967296) : 0 ≤ sumStep x ∧ sumStep x < 4294967296 := by
  unfold sumStep
  split
  · exact bits_u32_range _ _ _ rfl
  · omega
theorem sumSteps_range (n : Nat) : ∀ x : Int, 0 ≤ x ∧ x < 4294967296 → 0 ≤ sumSteps n x ∧ sumSteps n x < 4294967296 := by
  induction n with
  | zero => exact fun x h => h
  | succ n ih => exact fun x h => ih _ (sumStep_range x h)
theorem sumByte_range (x b : Int) : 0 ≤ sumByte x b ∧ sumByte x b < 4294967296 := sumSteps_range 8 _ (bits_u32_range _ _ _ rfl)
theorem u32_and1 (x : Int) (h : 0 ≤ x ∧ x < 4294967296) : Go.bits .and .u32 x 1 = x % 2 :=
  Go.bits_mask .u32 32 (by decide) (fun n a b => by rw [IntKind.wrap_u32]; omega) 1 (by decide) x h.1 (by omega)
theorem fourB_size (n : Int) : (fourB n).size = 4 := by unfold fourB; rw [strOfNums_size]; rfl
theorem sealB_size (s : ByteArray) : (sealB s).size = 4 := fourB_size _
def sealedR (s : ByteArray) : ByteArray × Bool := if (s.size : Int) > 20000 then (⟨#[]⟩, false) else (s ++ sealB s, true)
def unsealedR (s : ByteArray) : ByteArray × Bool :=
  if 4 ≤ s.size ∧ s.size ≤ 20004 ∧ s.extract (s.size - 4) s.size = sealB (s.extract 0 (s.size - 4)) then (s.extract 0 (s.size - 4), true) else (⟨#[]⟩, false)
section
variable {α β : Type}
theorem drop_rdOf (d : α) (xs : List α) (i : Nat) (h : i < xs.length) : xs.drop i = rdOf d xs (i : Int) :: xs.drop (i + 1) := by
  rw [List.drop_eq_getElem_cons h]
  congr 1
  unfold rdOf
  rw [Int.toNat_natCast]
  simp [List.getD, h]
theorem drop_rd (xs : List Int) (i : Nat) (h : i < xs.length) : xs.drop i = rd xs (i : Int) :: xs.drop (i + 1) := by
  rw [List.drop_eq_getElem_cons h]
  congr 1
  unfold rd
  rw [Int.toNat_natCast]
  simp [List.getD, h]
theorem rdOf_get (d : α) (xs : List α) (i : Nat) (h : i < xs.length) : rdOf d xs (i : Int) = xs[i] := by
  unfold rdOf
  rw [Int.toNat_natCast]
  simp [List.getD, h]
theorem rd_get (xs : List Int) (i : Nat) (h : i < xs.length) : rd xs (i : Int) = xs[i] := by
  unfold rd
  rw [Int.toNat_natCast]
  simp [List.getD, h]
theorem rdOf_mem (d : α) (xs : List α) (i : Nat) (h : i < xs.length) : rdOf d xs (i : Int) ∈ xs := by
  rw [rdOf_get d xs i h]; exact List.getElem_mem h
theorem rd_mem (xs : List Int) (i : Nat) (h : i < xs.length) : rd xs (i : Int) ∈ xs := by
  rw [rd_get xs i h]; exact List.getElem_mem h
theorem set_mid (pre t : List α) (x v : α) (i : Nat) (h : pre.length = i) : (pre ++ x :: t).set i v = pre ++ v :: t := by
  subst h
  rw [List.set_append_right _ _ (Nat.le_refl _)]
  simp
/-- What is left of a measure behind a list. -/
def szL (w : α → Int) : List α → Int → Int
  | [], left => left
  | x :: t, left => if left - w x < 0 then -1 else szL w t (left - w x)
def szR (w : α → Int) (l : List α) (left : Int) : Int := if left - (l.length : Int) < 0 then -1 else szL w l (left - (l.length : Int))
def sumW (w : α → Int) : List α → Int
  | [] => 0
  | x :: t => w x + sumW w t
theorem sumW_nonneg (w : α → Int) (l : List α) (h : ∀ x ∈ l, 0 ≤ w x) : 0 ≤ sumW w l := by
  induction l with
  | nil => exact Int.le_refl 0
  | cons x t ih =>
    have h1 := h x (by simp)
    have h2 := ih (fun y hy => h y (by simp [hy]))
    unfold sumW
    omega
theorem sumW_mem (w : α → Int) (l : List α) (h : ∀ x ∈ l, 0 ≤ w x) : ∀ x ∈ l, w x ≤ sumW w l := by
  induction l with
  | nil => intro x hx; cases hx
  | cons y t ih =>
    intro x hx
    have h0 := h y (by simp)
    have h1 := sumW_nonneg w t (fun z hz => h z (by simp [hz]))
    unfold sumW
    rcases List.mem_cons.1 hx with rfl | hx
    · omega
    · have := ih (fun z hz => h z (by simp [hz])) x hx
      omega
theorem szL_tells (w : α → Int) (l : List α) (h : ∀ x ∈ l, 0 ≤ w x) : ∀ left : Int, 0 ≤ szL w l left → szL w l left = left - sumW w l := by
  induction l with
  | nil => intro left _; unfold szL sumW; omega
  | cons x t ih =>
    intro left hl
    unfold szL at hl ⊢
    unfold sumW
    split
    · rename_i hc; rw [if_pos hc] at hl; omega
    · rename_i hc
      rw [if_neg hc] at hl
      rw [ih (fun y hy => h y (by simp [hy])) _ hl]
      omega
theorem szR_tells (w : α → Int) (l : List α) (h : ∀ x ∈ l, 0 ≤ w x) (left : Int) (hl : 0 ≤ szR w l left) : szR w l left = left - (l.length : Int) - sumW w l ∧ 0 ≤ sumW w l := by
  unfold szR at hl ⊢
  have h0 := sumW_nonneg w l h
  split
  · rename_i hc; rw [if_pos hc] at hl; omega
  · rename_i hc
    rw [if_neg hc] at hl
    exact ⟨szL_tells w l h _ hl, h0⟩
end
theorem idxP_step {α : Type} (p : α → Bool) (x : α) (t : List α) (i : Int) : idxP p (x :: t) i = if p x = true then i else idxP p t (i + 1) := rfl
theorem in_dec (x a b : Int) : (if x ≥ a then some (decide (x ≤ b)) else some false) = some (decide (a ≤ x ∧ x ≤ b)) := by
  by_cases c : x ≥ a
  · rw [if_pos c]
    congr 1
    by_cases d : x ≤ b
    · rw [decide_eq_true d, decide_eq_true ⟨c, d⟩]
    · rw [decide_eq_false d, decide_eq_false (fun h => d h.2)]
  · rw [if_neg c, decide_eq_false (fun h => c h.1)]
def Took (s : ByteArray) (a b : Int) (x : ByteArray) : Prop := 0 ≤ a ∧ b ≤ (s.size : Int) ∧ b = a + (x.size : Int) ∧ (bytesOf s).drop a.toNat = bytesOf x ++ (bytesOf s).drop b.toNat
theorem Took.all (s x t : ByteArray) : Took (s ++ x ++ t) (s.size : Int) ((s.size : Int) + (x.size : Int)) x := by
  refine ⟨by omega, by rw [ByteArray.size_append, ByteArray.size_append]; omega, rfl, ?_⟩
  have e1 : (bytesOf s).length = s.size := bytesOf_length s
  have e2 : (bytesOf x).length = x.size := bytesOf_length x
  have e3 : ((s.size : Int) + (x.size : Int)).toNat = s.size + x.size := by omega
  have l1 : ((bytesOf s) ++ (bytesOf x ++ bytesOf t)).drop s.size = bytesOf x ++ bytesOf t := List.drop_left' e1
  have l2 : ((bytesOf s) ++ (bytesOf x ++ bytesOf t)).drop (s.size + x.size) = bytesOf t := by rw [← List.drop_drop, l1]; exact List.drop_left' e2
  rw [bytesOf_append, bytesOf_append, List.append_assoc, Int.toNat_natCast, e3, l1, l2]
theorem Took.extract {s : ByteArray} {a b : Int} {x : ByteArray} (h : Took s a b x) : s.extract a.toNat b.toNat = x := by
  obtain ⟨h1, h2, h3, h4⟩ := h
  apply bytesOf_inj
  rw [bytesOf_extract, h4, show b.toNat - a.toNat = (bytesOf x).length by rw [bytesOf_length]; omega, List.take_left']
  rfl
theorem bytesOf_varB (n : Nat) : bytesOf (varB n) = varL n := bytesOf_strOfNums _ (varL_range n)
theorem rvR_reads {s : ByteArray} {a b : Int} {n : Nat} (h : Took s a b (varB n)) (hn : n ≤ 1000000000) : rvR s a = ((n : Int), b, true) := by
  obtain ⟨h1, h2, h3, h4⟩ := h
  unfold rvR
  rw [if_pos ⟨h1, by omega⟩, h4, bytesOf_varB, rvL_reads a n _ hn, h3, varB_size]
theorem Took.split {s x y : ByteArray} {a c : Int} (h : Took s a c (x ++ y)) : Took s a (a + (x.size : Int)) x ∧ Took s (a + (x.size : Int)) c y := by
  obtain ⟨h1, h2, h3, h4⟩ := h
  rw [ByteArray.size_append] at h3
  rw [bytesOf_append, List.append_assoc] at h4
  have e : (bytesOf s).drop (a + (x.size : Int)).toNat = bytesOf y ++ (bytesOf s).drop c.toNat := by
    rw [show (a + (x.size : Int)).toNat = a.toNat + x.size by omega, ← List.drop_drop, h4, ← bytesOf_length x, List.drop_left']
    rfl
  exact ⟨⟨h1, by omega, rfl, by rw [e]; exact h4⟩, ⟨by omega, h2, by omega, e⟩⟩
/-- A number is read, at most so great; what is bad stays bad. -/
def numR (s : ByteArray) (most at_ : Int) (bad : Bool) : Int × Int × Bool :=
  if bad = false ∧ (rvR s at_).2.2 = true ∧ (rvR s at_).1 ≤ most then ((rvR s at_).1, (rvR s at_).2.1, false) else (0, at_, true)
theorem numR_reads {s : ByteArray} {most a b : Int} {n : Nat} (h : Took s a b (varB n)) (hn : n ≤ 1000000000) (hm : (n : Int) ≤ most) : numR s most a false = ((n : Int), b, false) := by
  unfold numR
  rw [rvR_reads h hn, if_pos ⟨rfl, rfl, hm⟩]
/-- A loop that goes on while p holds of the place. -/
theorem ev_every {α : Type} (g : Nat → Nat → Option α) (p : Nat → Bool) (n : Nat) {r e : α} (h0 : Ev (fun k => g k n) r) (h1 : ∀ i, i < n → p i = true → ∀ res, Ev (fun k => g k (i + 1)) res → Ev (fun k => g k i) res) (h2 : ∀ i, i < n → p i = false → Ev (fun k => g k i) e) : ∀ d i : Nat, i + d = n → Ev (fun k => g k i) (if (List.range' i d).all p = true then r else e) := by
  intro d
  induction d with
  | zero =>
    intro i hi
    have : i = n := by omega
    subst this
    exact h0
  | succ d ih =>
    intro i hi
    rw [List.range'_succ, List.all_cons]
    cases hp : p i with
    | false => exact h2 i (by omega) hp
    | true => exact h1 i (by omega) hp _ (ih (i + 1) (by omega))
theorem ite_tf (b : Bool) : (if b = true then true else false) = b := by cases b <;> rfl
theorem range_all_iff (n : Nat) (p : Nat → Bool) : (List.range' 0 n).all p = true ↔ ∀ i, i < n → p i = true := by
  rw [List.all_eq_true]
  constructor
  · intro h i hi; exact h i (by rw [List.mem_range'_1]; omega)
  · intro h i hi; exact h i (by rw [List.mem_range'_1] at hi; omega)
def pagesB : List Int → ByteArray
  | [] => ⟨#[]⟩
  | p :: t => varB p.toNat ++ pagesB t
theorem varB_size_int (n : Int) (h : n ≤ 1000000000) : (varB n.toNat).size ≤ 10 := varB_size_le _ (by omega)
theorem pagesB_size (l : List Int) (h : ∀ x ∈ l, x ≤ 1000000000) : (pagesB l).size ≤ 10 * l.length := by
  induction l with
  | nil => exact Nat.zero_le _
  | cons p t ih =>
    unfold pagesB
    rw [ByteArray.size_append, List.length_cons]
    have h1 := varB_size_int p (h p (by simp))
    have h2 := ih (fun x hx => h x (by simp [hx]))
    omega
def pgAt (next : Int) (l : List Int) (k : Nat) : Bool := decide (2 ≤ rd l (k : Int) ∧ rd l (k : Int) ≤ next - 1) && (decide (k = 0) || decide (rd l ((k : Int) - 1) < rd l (k : Int)))
def seenL : List Int → List Int → Bool
  | _, [] => true
  | seen, p :: t => if (seen.any fun x => decide (x = p)) = true then false else seenL (seen ++ [p]) t
/-- So many numbers are read. -/
def pgP (s : ByteArray) (stop : Bool) : Nat → Int → Bool → List Int → Int × Bool × List Int
  | 0, a, bad, P => (a, bad, P)
  | d + 1, a, bad, P => if (stop && bad) = true then (a, bad, P) else pgP s stop d (numR s 1000000000 a bad).2.1 (numR s 1000000000 a bad).2.2 (P ++ [(numR s 1000000000 a bad).1])
theorem pgP_reads (s : ByteArray) (stop : Bool) (l : List Int) : ∀ (a b : Int) (P : List Int), (∀ x ∈ l, 0 ≤ x ∧ x ≤ 1000000000) → Took s a b (pagesB l) → pgP s stop l.length a false P = (b, false, P ++ l) := by
  induction l with
  | nil =>
    intro a b P _ ht
    have hb : b = a := by have := ht.2.2.1; change b = a + 0 at this; omega
    subst hb
    simp [pgP]
  | cons p t ih =>
    intro a b P h ht
    unfold pagesB at ht
    obtain ⟨t1, t2⟩ := Took.split ht
    have hp := h p (by simp)
    rw [List.length_cons]
    unfold pgP
    rw [if_neg (by simp), numR_reads t1 (by omega) (by omega)]
    dsimp only
    rw [ih _ _ _ (fun x hx => h x (by simp [hx])) t2]
    simp
    omega
theorem extract_left (x y : ByteArray) : (x ++ y).extract 0 x.size = x := by
  have h := (Took.all ⟨#[]⟩ x y).extract
  have e : (⟨#[]⟩ : ByteArray) ++ x = x := ByteArray.empty_append
  have z : (⟨#[]⟩ : ByteArray).size = 0 := rfl
  rw [e, z] at h
  simpa using h
theorem extract_right (x y : ByteArray) : (x ++ y).extract x.size (x ++ y).size = y := by
  have h := (Took.all x y ⟨#[]⟩).extract
  have e : x ++ y ++ (⟨#[]⟩ : ByteArray) = x ++ y := ByteArray.append_empty
  rw [e] at h
  rw [ByteArray.size_append]
  have e2 : ((x.size : Int) + (y.size : Int)).toNat = x.size + y.size := by omega
  rw [e2, Int.toNat_natCast] at h
  exact h
theorem unsealedR_sealed (x : ByteArray) (h : x.size ≤ 20000) : unsealedR (x ++ sealB x) = (x, true) := by
  have hz := sealB_size x
  have hs : (x ++ sealB x).size = x.size + 4 := by rw [ByteArray.size_append, hz]
  have e1 := extract_left x (sealB x)
  have e2 := extract_right x (sealB x)
  unfold unsealedR
  rw [show (x ++ sealB x).size - 4 = x.size by omega, e1, e2, if_pos ⟨by omega, by omega, rfl⟩]
def freeB (x : S113) : ByteArray := (varB x.f0.toNat ++ varB x.f1.length) ++ pagesB x.f1
def freesB : List S113 → ByteArray
  | [] => ⟨#[]⟩
  | x :: t => freeB x ++ freesB t
def freeOkR (tx next : Int) (x : S113) : Bool := (List.range' 0 x.f1.length).all (pgAt next x.f1) && decide (1 ≤ x.f0 ∧ x.f0 ≤ tx) && decide (1 ≤ (x.f1.length : Int) ∧ (x.f1.length : Int) ≤ 40)
def seenTo (root : Int) (F : List S113) (i : Nat) : List Int := root :: (F.take i).flatMap fun x => x.f1
def freeAt (tx root next : Int) (F : List S113) (i : Nat) : Bool :=
  freeOkR tx next (rd_T113 F (i : Int)) && (decide (i = 0) || decide ((rd_T113 F ((i : Int) - 1)).f0 < (rd_T113 F (i : Int)).f0)) && seenL (seenTo root F i) (rd_T113 F (i : Int)).f1
def metaHeadOk (tx root next : Int) (n : Nat) : Bool := decide (0 ≤ tx ∧ tx ≤ 100000) && decide (2 ≤ next ∧ next ≤ 40) && (decide (root = 0) || decide (2 ≤ root ∧ root ≤ next - 1)) && decide ((n : Int) ≤ 20)
def metaOkR (tx root next : Int) (F : List S113) : Bool := metaHeadOk tx root next F.length && (List.range' 0 F.length).all (freeAt tx root next F)
theorem metaHeadOk_tells {tx root next : Int} {n : Nat} (h : metaHeadOk tx root next n = true) : 0 ≤ tx ∧ tx ≤ 100000 ∧ 2 ≤ next ∧ next ≤ 40 ∧ (root = 0 ∨ 2 ≤ root ∧ root ≤ next - 1) ∧ n ≤ 20 := by
  unfold metaHeadOk at h
  simp only [Bool.and_eq_true, Bool.or_eq_true, decide_eq_true_eq] at h
  omega
theorem metaOkR_tells {tx root next : Int} {F : List S113} (h : metaOkR tx root next F = true) : 0 ≤ tx ∧ tx ≤ 100000 ∧ 2 ≤ next ∧ next ≤ 40 ∧ (root = 0 ∨ 2 ≤ root ∧ root ≤ next - 1) ∧ F.length ≤ 20 ∧ ∀ x ∈ F, 1 ≤ x.f0 ∧ x.f0 ≤ tx ∧ 1 ≤ x.f1.length ∧ x.f1.length ≤ 40 ∧ ∀ p ∈ x.f1, 2 ≤ p ∧ p ≤ next - 1 := by
  unfold metaOkR at h
  rw [Bool.and_eq_true] at h
  obtain ⟨h1, h2, h3, h4, h5, h6⟩ := metaHeadOk_tells h.1
  refine ⟨h1, h2, h3, h4, h5, h6, fun x hx => ?_⟩
  obtain ⟨i, hi, rfl⟩ := List.getElem_of_mem hx
  have := (range_all_iff _ _).1 h.2 i hi
  unfold freeAt at this
  rw [show rd_T113 F (i : Int) = F[i] from rdOf_get z113 F i hi] at this
  unfold freeOkR at this
  simp only [Bool.and_eq_true, decide_eq_true_eq] at this
  obtain ⟨⟨⟨⟨q1, q2⟩, q3⟩, _⟩, _⟩ := this
  refine ⟨q2.1, q2.2, by omega, by omega, fun p hp => ?_⟩
  obtain ⟨j, hj, rfl⟩ := List.getElem_of_mem hp
  have := (range_all_iff _ _).1 q1 j hj
  unfold pgAt at this
  rw [rd_get _ j hj, Bool.and_eq_true, decide_eq_true_eq] at this
  exact this.1
def metaB (tx root next : Int) (F : List S113) : ByteArray := (((varB tx.toNat ++ varB root.toNat) ++ varB next.toNat) ++ varB F.length) ++ freesB F
theorem freesB_size (F : List S113) (h : ∀ x ∈ F, x.f0 ≤ 1000000000 ∧ x.f1.length ≤ 40 ∧ ∀ p ∈ x.f1, p ≤ 1000000000) : (freesB F).size ≤ 420 * F.length := by
  induction F with
  | nil => exact Nat.zero_le _
  | cons x t ih =>
    obtain ⟨h1, h2, h3⟩ := h x (by simp)
    have := ih (fun y hy => h y (by simp [hy]))
    have a1 := varB_size_int x.f0 h1
    have a2 := varB_size_le x.f1.length (by omega)
    have a3 := pagesB_size x.f1 h3
    unfold freesB freeB
    rw [ByteArray.size_append, ByteArray.size_append, ByteArray.size_append, List.length_cons]
    omega
theorem metaB_size {tx root next : Int} {F : List S113} (h : metaOkR tx root next F = true) : (metaB tx root next F).size ≤ 9000 := by
  obtain ⟨h1, h2, h3, h4, h5, h6, h7⟩ := metaOkR_tells h
  have := freesB_size F (fun x hx => by obtain ⟨q1, q2, q3, q4, q5⟩ := h7 x hx; exact ⟨by omega, q4, fun p hp => by have := q5 p hp; omega⟩)
  have a1 := varB_size_int tx (by omega)
  have a2 := varB_size_int root (by omega)
  have a3 := varB_size_int next (by omega)
  have a4 := varB_size_le F.length (by omega)
  unfold metaB
  rw [ByteArray.size_append, ByteArray.size_append, ByteArray.size_append, ByteArray.size_append]
  omega
def metaTextR (tx root next : Int) (F : List S113) : ByteArray × Bool :=
  if metaOkR tx root next F = true then (if ((metaB tx root next F).size : Int) + 4 > 240 then (⟨#[]⟩, false) else (metaB tx root next F ++ sealB (metaB tx root next F), true)) else (⟨#[]⟩, false)
/-- So many Frees are read. -/
def frP (s : ByteArray) (stop : Bool) (most : Int) (cap : Nat) : Nat → Int → Bool → List S113 → Int × Bool × List S113
  | 0, a, bad, F => (a, bad, F)
  | d + 1, a, bad, F =>
    if (stop && bad) = true then (a, bad, F)
    else
      let x := numR s 1000000000 a bad
      let y := numR s most x.2.1 x.2.2
      let z := pgP s stop (min y.1.toNat cap) y.2.1 y.2.2 []
      frP s stop most cap d z.1 z.2.1 (F ++ [⟨x.1, z.2.2⟩])
theorem frP_reads (s : ByteArray) (stop : Bool) (most : Int) (cap : Nat) (hm : 40 ≤ most) (hc : 40 ≤ cap) (F : List S113) : ∀ (a b : Int) (A : List S113), (∀ x ∈ F, 0 ≤ x.f0 ∧ x.f0 ≤ 1000000000 ∧ x.f1.length ≤ 40 ∧ ∀ p ∈ x.f1, 0 ≤ p ∧ p ≤ 1000000000) → Took s a b (freesB F) → frP s stop most cap F.length a false A = (b, false, A ++ F) := by
  induction F with
  | nil =>
    intro a b A _ ht
    have hb : b = a := by have := ht.2.2.1; change b = a + 0 at this; omega
    subst hb
    simp [frP]
  | cons x t ih =>
    intro a b A h ht
    unfold freesB at ht
    obtain ⟨t1, t2⟩ := Took.split ht
    unfold freeB at t1
    obtain ⟨t3, t4⟩ := Took.split t1
    obtain ⟨t5, t6⟩ := Took.split t3
    obtain ⟨h1, h2, h3, h4⟩ := h x (by simp)
    have r1 := numR_reads t5 (show x.f0.toNat ≤ 1000000000 by omega) (show (x.f0.toNat : Int) ≤ 1000000000 by omega)
    have r2 := numR_reads (most := most) t6 (show x.f1.length ≤ 1000000000 by omega) (by omega)
    have r3 := pgP_reads s stop x.f1 _ _ [] h4 t4
    rw [List.length_cons]
    unfold frP
    rw [if_neg (by simp), r1]
    dsimp only
    rw [r2]
    dsimp only
    rw [Int.toNat_natCast, Nat.min_eq_left (by omega), r3]
    dsimp only
    rw [show (varB x.f0.toNat ++ varB x.f1.length ++ pagesB x.f1) = freeB x from rfl, ih _ _ _ (fun y hy => h y (by simp [hy])) t2, Int.toNat_of_nonneg h1]
    simp
/-- The numbers ahead, then how many, then so many Frees. -/
def metaP (s : ByteArray) (stop : Bool) (bad : Bool) (mostF : Int) (capF : Nat) (mostP : Int) (capP : Nat) : Int × Int × Int × Int × Bool × List S113 :=
  let x := numR s 1000000000 0 bad
  let y := numR s 1000000000 x.2.1 x.2.2
  let z := numR s 1000000000 y.2.1 y.2.2
  let n := numR s mostF z.2.1 z.2.2
  let f := frP s stop mostP capP (min n.1.toNat capF) n.2.1 n.2.2 []
  (x.1, y.1, z.1, f.1, f.2.1, f.2.2)
theorem metaP_reads {tx root next : Int} {F : List S113} (h : metaOkR tx root next F = true) (stop : Bool) (mostF : Int) (capF : Nat) (mostP : Int) (capP : Nat) (h1 : 20 ≤ mostF) (h2 : 20 ≤ capF) (h3 : 40 ≤ mostP) (h4 : 40 ≤ capP) :
    metaP (metaB tx root next F) stop false mostF capF mostP capP = (tx, root, next, ((metaB tx root next F).size : Int), false, F) := by
  obtain ⟨g1, g2, g3, g4, g5, g6, g7⟩ := metaOkR_tells h
  have t0 : Took (metaB tx root next F) 0 ((metaB tx root next F).size : Int) (metaB tx root next F) := by
    have := Took.all ⟨#[]⟩ (metaB tx root next F) ⟨#[]⟩
    rw [show (⟨#[]⟩ : ByteArray) ++ metaB tx root next F = metaB tx root next F from ByteArray.empty_append, show metaB tx root next F ++ (⟨#[]⟩ : ByteArray) = metaB tx root next F from ByteArray.append_empty] at this
    have z : (⟨#[]⟩ : ByteArray).size = 0 := rfl
    rw [z] at this
    simpa using this
  generalize hB : metaB tx root next F = B at t0 ⊢
  have t0' : Took B 0 (B.size : Int) (metaB tx root next F) := by rw [hB]; exact t0
  unfold metaB at t0'
  obtain ⟨t1, tF⟩ := Took.split t0'
  obtain ⟨t2, tn⟩ := Took.split t1
  obtain ⟨t3, tz⟩ := Took.split t2
  obtain ⟨tx', ty⟩ := Took.split t3
  have r1 := numR_reads tx' (show tx.toNat ≤ 1000000000 by omega) (show (tx.toNat : Int) ≤ 1000000000 by omega)
  have r2 := numR_reads ty (show root.toNat ≤ 1000000000 by omega) (show (root.toNat : Int) ≤ 1000000000 by omega)
  have r3 := numR_reads tz (show next.toNat ≤ 1000000000 by omega) (show (next.toNat : Int) ≤ 1000000000 by omega)
  have r4 := numR_reads (most := mostF) tn (show F.length ≤ 1000000000 by omega) (by omega)
  have r5 := frP_reads B stop mostP capP h3 h4 F _ _ [] (fun x hx => by obtain ⟨q1, q2, q3, q4, q5⟩ := g7 x hx; exact ⟨by omega, by omega, q4, fun p hp => by have := q5 p hp; omega⟩) tF
  unfold metaP
  dsimp only
  rw [r1]
  dsimp only
  rw [r2]
  dsimp only
  rw [r3]
  dsimp only
  rw [r4]
  dsimp only
  rw [Int.toNat_natCast, Nat.min_eq_left (by omega), r5]
  dsimp only
  rw [Int.toNat_of_nonneg g1, Int.toNat_of_nonneg (by omega), Int.toNat_of_nonneg (by omega), List.nil_append]
/-- The meta that a text is, by what was read of it, and its text again. -/
def metaBack (t : ByteArray) (p : Int × Int × Int × Int × Bool × List S113) : Int × Int × Int × List S113 × Bool :=
  if p.2.2.2.2.1 = false ∧ metaTextR p.1 p.2.1 p.2.2.1 p.2.2.2.2.2 = (t, true) then (p.1, p.2.1, p.2.2.1, p.2.2.2.2.2, true) else (0, 0, 0, [], false)
theorem metaTextR_tells {tx root next : Int} {F : List S113} {t : ByteArray} (h : metaTextR tx root next F = (t, true)) : metaOkR tx root next F = true ∧ (metaB tx root next F).size ≤ 236 ∧ t = metaB tx root next F ++ sealB (metaB tx root next F) := by
  unfold metaTextR at h
  split at h
  · split at h
    · simp at h
    · simp only [Prod.mk.injEq, and_true] at h
      exact ⟨by assumption, by omega, h.symm⟩
  · simp at h
/-- What is read of a text that is one's, is it. -/
theorem metaP_back {tx root next : Int} {F : List S113} {t : ByteArray} (h : metaTextR tx root next F = (t, true)) (stop : Bool) (mostF : Int) (capF : Nat) (mostP : Int) (capP : Nat) (h1 : 20 ≤ mostF) (h2 : 20 ≤ capF) (h3 : 40 ≤ mostP) (h4 : 40 ≤ capP) :
    metaP (unsealedR t).1 stop (!(unsealedR t).2) mostF capF mostP capP = (tx, root, next, ((unsealedR t).1.size : Int), false, F) := by
  obtain ⟨g1, g2, rfl⟩ := metaTextR_tells h
  rw [unsealedR_sealed _ (by omega)]
  exact metaP_reads g1 stop mostF capF mostP capP h1 h2 h3 h4
/-- All ways to read give the same. -/
theorem metaBack_same (t : ByteArray) (s1 s2 : Bool) (m1 m2 n1 n2 : Int) (c1 c2 e1 e2 : Nat) (h1 : 20 ≤ m1) (h2 : 20 ≤ m2) (h3 : 40 ≤ n1) (h4 : 40 ≤ n2) (h5 : 20 ≤ c1) (h6 : 20 ≤ c2) (h7 : 40 ≤ e1) (h8 : 40 ≤ e2) :
    metaBack t (metaP (unsealedR t).1 s1 (!(unsealedR t).2) m1 c1 n1 e1) = metaBack t (metaP (unsealedR t).1 s2 (!(unsealedR t).2) m2 c2 n2 e2) := by
  rcases hp : metaP (unsealedR t).1 s1 (!(unsealedR t).2) m1 c1 n1 e1 with ⟨a1, a2, a3, a4, a5, a6⟩
  rcases hq : metaP (unsealedR t).1 s2 (!(unsealedR t).2) m2 c2 n2 e2 with ⟨b1, b2, b3, b4, b5, b6⟩
  by_cases c : metaTextR a1 a2 a3 a6 = (t, true)
  · have := metaP_back c s2 m2 c2 n2 e2 h2 h6 h4 h8
    have e := metaP_back c s1 m1 c1 n1 e1 h1 h5 h3 h7
    rw [hp] at e
    rw [hq] at this
    cases e
    cases this
    rfl
  · by_cases d : metaTextR b1 b2 b3 b6 = (t, true)
    · have := metaP_back d s2 m2 c2 n2 e2 h2 h6 h4 h8
      have e := metaP_back d s1 m1 c1 n1 e1 h1 h5 h3 h7
      rw [hp] at e
      rw [hq] at this
      cases e
      cases this
      rfl
    · unfold metaBack
      dsimp only
      rw [if_neg (fun h => c h.2), if_neg (fun h => d h.2)]
def readMetaR (t : ByteArray) : Int × Int × Int × List S113 × Bool := metaBack t (metaP (unsealedR t).1 true (!(unsealedR t).2) 1000000000 30 1000000000 50)
theorem readMetaR_text {tx root next : Int} {F : List S113} {t : ByteArray} (h : metaTextR tx root next F = (t, true)) : readMetaR t = (tx, root, next, F, true) := by
  unfold readMetaR
  rw [metaP_back h true 1000000000 30 1000000000 50 (by omega) (by omega) (by omega) (by omega)]
  unfold metaBack
  rw [if_pos ⟨rfl, h⟩]
theorem readMetaR_tells {tx root next : Int} {F : List S113} {t : ByteArray} (h : readMetaR t = (tx, root, next, F, true)) : metaTextR tx root next F = (t, true) := by
  unfold readMetaR metaBack at h
  split at h
  · rename_i c
    cases h
    exact c.2
  · simp at h
theorem seenTo_length (root : Int) (F : List S113) (hs : ∀ x ∈ F, x.f1.length ≤ 1048576) (i : Nat) : (seenTo root F i).length ≤ 1 + 1048576 * i := by
  unfold seenTo
  rw [List.length_cons]
  have h : ∀ (n : Nat) (L : List S113), (∀ x ∈ L, x.f1.length ≤ 1048576) → ((L.take n).flatMap fun x => x.f1).length ≤ 1048576 * n := by
    intro n
    induction n with
    | zero => intro L _; simp
    | succ n ih =>
      intro L hL
      cases L with
      | nil => simp
      | cons x t =>
        have h1 := hL x (by simp)
        have h2 := ih t (fun y hy => hL y (by simp [hy]))
        rw [List.take_succ_cons, List.flatMap_cons, List.length_append]
        omega
  have := h i F hs
  omega
theorem seenTo_step (root : Int) (F : List S113) (i : Nat) (hi : i < F.length) : seenTo root F (i + 1) = seenTo root F i ++ (rd_T113 F (i : Int)).f1 := by
  have e : rd_T113 F (i : Int) = F[i] := rdOf_get z113 F i hi
  unfold seenTo
  rw [e, List.take_succ_eq_append_getElem hi, List.flatMap_append]
  simp
def metaFin (t : ByteArray) : ByteArray × Bool := if (t.size : Int) + 4 > 240 then (⟨#[]⟩, false) else (t ++ sealB t, true)
def FreeFits (F : List S113) : Prop := ∀ x ∈ F, 0 ≤ x.f0 ∧ x.f0 ≤ 1000000000 ∧ x.f1.length ≤ 40 ∧ ∀ p ∈ x.f1, 0 ≤ p ∧ p ≤ 1000000000
theorem metaOkR_fits {tx root next : Int} {F : List S113} (h : metaOkR tx root next F = true) : FreeFits F := by
  obtain ⟨h1, h2, h3, h4, h5, h6, h7⟩ := metaOkR_tells h
  intro x hx
  obtain ⟨q1, q2, q3, q4, q5⟩ := h7 x hx
  exact ⟨by omega, by omega, q4, fun p hp => by have := q5 p hp; omega⟩
theorem laws_szIntS_eq (l : List Int) (hb : l.length ≤ 9223372036854775807) (left : Int) (h0 : 0 ≤ left) (h1 : left ≤ 9223372036854775807) : laws_szIntS.f l left = some (if left - (l.length : Int) < 0 then -1 else left - (l.length : Int)) := by
  unfold laws_szIntS.f
  rw [w64 (by omega) (by omega)]
  split <;> rfl
theorem laws_szFree_eq (a : Int) (l : List Int) (hb : l.length ≤ 9223372036854775807) (left : Int) (h0 : 0 ≤ left) (h1 : left ≤ 9223372036854775807) : laws_szFree.f a l left = some (if left - (l.length : Int) < 0 then -1 else left - (l.length : Int)) := by
  unfold laws_szFree.f
  rw [laws_szIntS_eq l hb left h0 h1, Option.bind_some]
  by_cases c : left - (l.length : Int) < 0
  · rw [if_pos c, if_pos (by decide)]
  · rw [if_neg c, if_neg c]
def wFree (x : S151) : Int := (x.f1.length : Int)
theorem laws_szFreeS_loop (l : List S151) (hb : l.length ≤ 9223372036854775807) (hw : ∀ x ∈ l, 0 ≤ wFree x ∧ wFree x ≤ 9223372036854775807) : ∀ (d i : Nat) (left : Int), i + d = l.length → 0 ≤ left → left ≤ 9223372036854775807 → Ev (fun k => laws_szFreeS.l0 k l left (i : Int)) (szL wFree (l.drop i) left) := by
  intro d
  induction d with
  | zero =>
    intro i left hi h0 h1
    refine ev_end fun k => ?_
    rw [laws_szFreeS.l0, if_neg (by omega), List.drop_eq_nil_of_le (by omega)]
    rfl
  | succ d ih =>
    intro i left hi h0 h1
    have hx := hw _ (rdOf_mem z151 l i (by omega))
    rw [drop_rdOf z151 l i (by omega)]
    unfold szL
    have hu : wFree (rdOf z151 l (i : Int)) = ((rd_T151 l (i : Int)).f1.length : Int) := rfl
    by_cases c : left - wFree (rdOf z151 l (i : Int)) < 0
    · rw [if_pos c]
      refine ev_end fun k => ?_
      rw [hu] at c hx
      rw [laws_szFreeS.l0, if_pos (by omega), if_pos (by omega), laws_szFree_eq _ _ (by omega) _ h0 h1, Option.bind_some, if_pos c, if_pos (by decide)]
    · rw [if_neg c]
      rw [hu] at c hx ⊢
      refine ev_go (ih (i + 1) _ (by omega) (by omega) (by omega)) fun k => ?_
      rw [laws_szFreeS.l0, if_pos (by omega), if_pos (by omega), laws_szFree_eq _ _ (by omega) _ h0 h1, Option.bind_some, if_neg c, if_neg c, w64 (n := (i : Int) + 1) (by omega) (by omega)]
      rfl
theorem laws_szFreeS_fev (l : List S151) (hb : l.length ≤ 9223372036854775807) (hw : ∀ x ∈ l, 0 ≤ wFree x ∧ wFree x ≤ 9223372036854775807) (left : Int) (h0 : 0 ≤ left) (h1 : left ≤ 9223372036854775807) : Ev (fun k => laws_szFreeS.f k l left) (szR wFree l left) := by
  unfold szR
  by_cases c : left - (l.length : Int) < 0
  · rw [if_pos c]
    refine ev_some fun k => ?_
    unfold laws_szFreeS.f
    rw [w64 (by omega) (by omega), if_pos c]
  · rw [if_neg c]
    refine Ev.congr (fun k => ?_) (laws_szFreeS_loop l hb hw l.length 0 (left - (l.length : Int)) (by omega) (by omega) (by omega))
    unfold laws_szFreeS.f
    rw [w64 (by omega) (by omega), if_neg c]
    rfl
def szMetaR (l : List S151) (left : Int) : Int := if szR wFree l left < 0 then -1 else szR wFree l left
theorem laws_szMeta_fev (a b c : Int) (l : List S151) (hl : l.length ≤ 9223372036854775807) (hl' : ∀ x ∈ l, x.f1.length ≤ 9223372036854775807) (left : Int) (h0 : 0 ≤ left) (h1 : left ≤ 9223372036854775807) : Ev (fun k => laws_szMeta.f k a b c l left) (szMetaR l left) := by
  have w2 : ∀ x ∈ l, 0 ≤ wFree x ∧ wFree x ≤ 9223372036854775807 := fun x hx => ⟨Int.natCast_nonneg _, Int.ofNat_le.2 (hl' x hx)⟩
  unfold szMetaR
  refine ev_call (laws_szFreeS_fev l hl w2 left h0 h1) ?_ (fun k => rfl)
  refine ev_some fun k => ?_
  split <;> rfl
theorem szMetaR_tells (l : List S151) (left : Int) (h : 0 ≤ szMetaR l left) : (l.length : Int) + sumW wFree l ≤ left ∧ 0 ≤ sumW wFree l ∧ ∀ x ∈ l, (x.f1.length : Int) ≤ left := by
  unfold szMetaR at h
  by_cases c : szR wFree l left < 0
  · rw [if_pos c] at h; omega
  · rw [if_neg c] at h
    have h1 := szR_tells wFree l (fun x _ => Int.natCast_nonneg _) left h
    refine ⟨by omega, h1.2, fun x hx => ?_⟩
    have := sumW_mem wFree l (fun x _ => Int.natCast_nonneg _) x hx
    have e : wFree x = (x.f1.length : Int) := rfl
    omega
theorem laws_toIntS_loop (l : List Int) (hb : l.length ≤ 1048576) : ∀ (d i : Nat) (pre rest : List Int), i + d = l.length → pre.length = i → rest.length = d → Ev (fun k => laws_toIntS.l0 k l (pre ++ rest) (i : Int)) (pre ++ (l.drop i).map (fun x => x)) := by
  intro d
  induction d with
  | zero =>
    intro i pre rest hi hp hr
    refine ev_end fun k => ?_
    rw [laws_toIntS.l0, if_neg (by omega), List.drop_eq_nil_of_le (by omega), List.eq_nil_of_length_eq_zero hr]
    rfl
  | succ d ih =>
    intro i pre rest hi hp hr
    obtain ⟨x, t, rfl⟩ : ∃ x t, rest = x :: t := by
      cases rest with
      | nil => simp at hr
      | cons x t => exact ⟨x, t, rfl⟩
    rw [drop_rd l i (by omega), List.map_cons]
    have hn := ih (i + 1) (pre ++ [(fun x => x) (rd l (i : Int))]) t (by omega) (by simp; omega) (by simp at hr; omega)
    rw [List.append_assoc, List.singleton_append, List.append_assoc, List.singleton_append] at hn
    refine ev_go hn fun k => ?_
    rw [laws_toIntS.l0, if_pos (by omega), if_pos (by omega), if_pos (by rw [List.length_append, List.length_cons]; rw [List.length_cons] at hr; omega), Int.toNat_natCast, set_mid pre t x _ i hp, w64 (by omega) (by omega)]
    rfl
theorem laws_toIntS_fev (l : List Int) (hb : l.length ≤ 1048576) : Ev (fun k => laws_toIntS.f k l) (l.map (fun x => x)) := by
  have := laws_toIntS_loop l hb l.length 0 [] (List.replicate l.length (0 : Int)) (by omega) rfl (by simp)
  refine Ev.congr (fun k => ?_) this
  unfold laws_toIntS.f
  rw [if_pos (by omega), if_pos (by omega)]
  rfl
theorem laws_toFree_fev (a : Int) (l : List Int) (hb : l.length ≤ 1048576) : Ev (fun k => laws_toFree.f k a l) (a, l) := by
  have h := laws_toIntS_fev l hb
  rw [List.map_id'] at h
  exact ev_call h (ev_some fun k => rfl) (fun _ => rfl)
def convFree (x : S151) : S113 := ⟨x.f0, x.f1⟩
theorem laws_toFreeS_loop (l : List S151) (hb : l.length ≤ 1048576) (hs : ∀ x ∈ l, x.f1.length ≤ 1048576) : ∀ (d i : Nat) (pre rest : List S113), i + d = l.length → pre.length = i → rest.length = d → Ev (fun k => laws_toFreeS.l0 k l (pre ++ rest) (i : Int)) (pre ++ (l.drop i).map convFree) := by
  intro d
  induction d with
  | zero =>
    intro i pre rest hi hp hr
    refine ev_end fun k => ?_
    rw [laws_toFreeS.l0, if_neg (by omega), List.drop_eq_nil_of_le (by omega), List.eq_nil_of_length_eq_zero hr]
    rfl
  | succ d ih =>
    intro i pre rest hi hp hr
    obtain ⟨x, t, rfl⟩ : ∃ x t, rest = x :: t := by
      cases rest with
      | nil => simp at hr
      | cons x t => exact ⟨x, t, rfl⟩
    rw [drop_rdOf z151 l i (by omega), List.map_cons]
    have hn := ih (i + 1) (pre ++ [convFree (rdOf z151 l (i : Int))]) t (by omega) (by simp; omega) (by simp at hr; omega)
    rw [List.append_assoc, List.singleton_append, List.append_assoc, List.singleton_append] at hn
    obtain ⟨K1, e1⟩ := laws_toFree_fev (rd_T151 l (i : Int)).f0 (rd_T151 l (i : Int)).f1 (hs _ (rdOf_mem z151 l i (by omega)))
    obtain ⟨K2, e2⟩ := hn
    dsimp only at e1 e2
    refine ev_succ ⟨K1 + K2, fun k hk => ?_⟩
    rw [laws_toFreeS.l0, if_pos (by omega), if_pos (by omega), e1 k (by omega), Option.bind_some, if_pos (by rw [List.length_append, List.length_cons]; rw [List.length_cons] at hr; omega), Int.toNat_natCast, set_mid pre t x _ i hp, w64 (by omega) (by omega)]
    exact e2 k (by omega)
theorem laws_toFreeS_fev (l : List S151) (hb : l.length ≤ 1048576) (hs : ∀ x ∈ l, x.f1.length ≤ 1048576) : Ev (fun k => laws_toFreeS.f k l) (l.map convFree) := by
  have := laws_toFreeS_loop l hb hs l.length 0 [] (List.replicate l.length z113) (by omega) rfl (by simp)
  refine Ev.congr (fun k => ?_) this
  unfold laws_toFreeS.f
  rw [if_pos (by omega), if_pos (by omega)]
  rfl
theorem laws_toMeta_fev (a b c : Int) (l : List S151) (hb : l.length ≤ 1048576) (hs : ∀ x ∈ l, x.f1.length ≤ 1048576) : Ev (fun k => laws_toMeta.f k a b c l) (a, b, c, l.map convFree) :=
  ev_call (laws_toFreeS_fev l hb hs) (ev_some fun k => rfl) (fun _ => rfl)
theorem laws_eqIntS_loop (a : List Int) (hb : a.length ≤ 9223372036854775807) : ∀ (d i : Nat), i + d = a.length → Ev (fun k => laws_eqIntS.l0 k a a (i : Int)) true := by
  intro d
  induction d with
  | zero =>
    intro i hi
    refine ev_end fun k => ?_
    rw [laws_eqIntS.l0, if_neg (by omega)]
  | succ d ih =>
    intro i hi
    refine ev_go (ih (i + 1) (by omega)) fun k => ?_
    rw [laws_eqIntS.l0, if_pos (by omega), if_pos (by omega), if_pos (by omega), if_pos rfl, w64 (by omega) (by omega)]
    rfl
theorem laws_eqIntS_same (a : List Int) (hb : a.length ≤ 9223372036854775807) : Ev (fun k => laws_eqIntS.f k a a) true := by
  refine Ev.congr (fun k => ?_) (laws_eqIntS_loop a hb a.length 0 (by omega))
  unfold laws_eqIntS.f
  rw [if_pos rfl]
  rfl
theorem laws_eqFree_same (a : Int) (l : List Int) (hl : l.length ≤ 9223372036854775807) : Ev (fun k => laws_eqFree.f k a l a l) true := by
  obtain ⟨K1, e1⟩ := laws_eqIntS_same l hl
  dsimp only at e1
  refine ⟨K1, fun k hk => ?_⟩
  dsimp only
  unfold laws_eqFree.f
  rw [if_pos rfl, e1 k hk, Option.bind_some, if_pos rfl]
theorem laws_eqFreeS_loop (a : List S113) (hb : a.length ≤ 9223372036854775807) (hs : ∀ x ∈ a, x.f1.length ≤ 9223372036854775807) : ∀ (d i : Nat), i + d = a.length → Ev (fun k => laws_eqFreeS.l0 k a a (i : Int)) true := by
  intro d
  induction d with
  | zero =>
    intro i hi
    refine ev_end fun k => ?_
    rw [laws_eqFreeS.l0, if_neg (by omega)]
  | succ d ih =>
    intro i hi
    obtain ⟨K1, e1⟩ := laws_eqFree_same (rd_T113 a (i : Int)).f0 (rd_T113 a (i : Int)).f1 (hs _ (rdOf_mem z113 a i (by omega)))
    obtain ⟨K2, e2⟩ := ih (i + 1) (by omega)
    dsimp only at e1 e2
    refine ev_succ ⟨K1 + K2, fun k hk => ?_⟩
    rw [laws_eqFreeS.l0, if_pos (by omega), if_pos (by omega), if_pos (by omega), e1 k (by omega), Option.bind_some, if_pos rfl, w64 (by omega) (by omega)]
    exact e2 k (by omega)
theorem laws_eqFreeS_same (a : List S113) (hb : a.length ≤ 9223372036854775807) (hs : ∀ x ∈ a, x.f1.length ≤ 9223372036854775807) : Ev (fun k => laws_eqFreeS.f k a a) true := by
  refine Ev.congr (fun k => ?_) (laws_eqFreeS_loop a hb hs a.length 0 (by omega))
  unfold laws_eqFreeS.f
  rw [if_pos rfl]
  rfl
theorem laws_eqMeta_same (a b c : Int) (l : List S113) (hb : l.length ≤ 9223372036854775807) (hs : ∀ x ∈ l, x.f1.length ≤ 9223372036854775807) : Ev (fun k => laws_eqMeta.f k a b c l a b c l) true := by
  obtain ⟨K1, e1⟩ := laws_eqFreeS_same l hb hs
  dsimp only at e1
  refine ⟨K1, fun k hk => ?_⟩
  dsimp only
  unfold laws_eqMeta.f
  rw [if_pos rfl, if_pos rfl, if_pos rfl, e1 k hk, Option.bind_some, if_pos rfl]
theorem spec_l01In_eq (x a b : Int) : spec_l01In.f x a b = some (decide (a ≤ x ∧ x ≤ b)) := in_dec x a b
theorem spec_l06In_loop (l : List Int) (v : Int) (hl : l.length ≤ 1099511627776) : ∀ (d i : Nat), i + d = l.length → Ev (fun k => spec_l06In.l0 k l v (i : Int)) ((l.drop i).any fun x => decide (x = v)) := by
  intro d
  induction d with
  | zero =>
    intro i hi
    refine ev_end fun k => ?_
    rw [spec_l06In.l0, if_neg (by omega), List.drop_eq_nil_of_le (by omega)]
    rfl
  | succ d ih =>
    intro i hi
    rw [drop_rd l i (by omega), List.any_cons]
    by_cases c : rd l (i : Int) = v
    · rw [decide_eq_true c, Bool.true_or]
      refine ev_end fun k => ?_
      rw [spec_l06In.l0, if_pos (by omega), if_pos (by omega), if_pos c]
    · rw [decide_eq_false c, Bool.false_or]
      refine ev_go (ih (i + 1) (by omega)) fun k => ?_
      rw [spec_l06In.l0, if_pos (by omega), if_pos (by omega), if_neg c, w64 (by omega) (by omega)]
      rfl
theorem spec_l06In_fev (l : List Int) (v : Int) (hl : l.length ≤ 1099511627776) : Ev (fun k => spec_l06In.f k l v) (l.any fun x => decide (x = v)) := by
  have := spec_l06In_loop l v hl l.length 0 (by omega)
  rw [List.drop_zero] at this
  exact this
theorem spec_MetaOk_inner (tx root next : Int) (hn : 2 ≤ next ∧ next ≤ 40) (F : List S113) (i x0 : Int) (P : List Int) (hP : P.length ≤ 1048576) (res : Bool) : ∀ (d j : Nat) (seen : List Int), j + d = P.length → seen.length + d ≤ 1099511627776 → (((List.range' j d).all (pgAt next P) && seenL seen (P.drop j)) = true → Ev (fun k => spec_MetaOk.l0 k (seen ++ P.drop j) (wrap64 (i + 1)) tx root next F) res) → Ev (fun k => spec_MetaOk.l1 k seen i (j : Int) tx root next F x0 P) (if ((List.range' j d).all (pgAt next P) && seenL seen (P.drop j)) = true then res else false) := by
  intro d
  induction d with
  | zero =>
    intro j seen hj hs rest
    have h1 : ((List.range' j 0).all (pgAt next P) && seenL seen (P.drop j)) = true := by rw [List.drop_eq_nil_of_le (by omega)]; rfl
    have rest := rest h1
    rw [List.drop_eq_nil_of_le (by omega), List.append_nil] at rest
    rw [if_pos h1]
    refine ev_go rest fun k => ?_
    rw [spec_MetaOk.l1, if_neg (by omega)]
  | succ d ih =>
    intro j seen hj hs rest
    have stop : ∀ k, spec_MetaOk.j4 (k + 1) seen i (j : Int) true tx root next F x0 P = some false := fun k => by rw [spec_MetaOk.j4, if_pos rfl]
    obtain ⟨K1, e1⟩ := spec_l06In_fev seen (rd P (j : Int)) (by omega)
    dsimp only at e1
    rw [List.range'_succ, List.all_cons] at rest ⊢
    rw [drop_rd P j (by omega)] at rest ⊢
    unfold seenL at rest ⊢
    have hw : wrap64 (next - 1) = next - 1 := w64 (by omega) (by omega)
    by_cases c1 : 2 ≤ rd P (j : Int) ∧ rd P (j : Int) ≤ next - 1
    · by_cases c2 : j = 0 ∨ rd P ((j : Int) - 1) < rd P (j : Int)
      · have hp : pgAt next P j = true := by
          unfold pgAt
          rw [decide_eq_true c1, Bool.true_and, Bool.or_eq_true, decide_eq_true_eq, decide_eq_true_eq]
          exact c2
        have top : ∀ k r, spec_MetaOk.j4 k seen i (j : Int) (seen.any fun x => decide (x = rd P (j : Int))) tx root next F x0 P = some r → K1 ≤ k → spec_MetaOk.l1 (k + 1) seen i (j : Int) tx root next F x0 P = some r := by
          intro k r h hk
          rw [spec_MetaOk.l1, if_pos (by omega), if_pos (by omega), spec_l01In_eq, Option.bind_some, hw, decide_eq_true c1, if_pos rfl]
          by_cases c : j = 0
          · rw [if_neg (by omega), e1 k hk, Option.bind_some]; exact h
          · rw [if_pos (by omega), w64 (by omega) (by omega), if_pos (by omega), if_pos (by omega), if_neg (by omega), e1 k hk, Option.bind_some]; exact h
        rw [hp, Bool.true_and] at rest ⊢
        by_cases c : (seen.any fun x => decide (x = rd P (j : Int))) = true
        · rw [if_pos c, Bool.and_false, if_neg (by decide)]
          refine ev_succ ⟨K1 + 1, fun k hk => ?_⟩
          obtain ⟨k, rfl⟩ : ∃ q, k = q + 1 := ⟨k - 1, by omega⟩
          exact top _ _ (by rw [c]; exact stop k) (by omega)
        · rw [if_neg c] at rest ⊢
          obtain ⟨K2, e2⟩ := ih (j + 1) (seen ++ [rd P (j : Int)]) (by omega) (by simp; omega) (fun h => by rw [List.append_assoc, List.singleton_append]; exact rest h)
          dsimp only at e2
          refine ev_succ ⟨K1 + K2 + 1, fun k hk => ?_⟩
          obtain ⟨k, rfl⟩ : ∃ q, k = q + 1 := ⟨k - 1, by omega⟩
          refine top _ _ ?_ (by omega)
          rw [spec_MetaOk.j4, if_neg c, if_pos (by omega), if_pos (by omega), if_pos (by omega), w64 (by omega) (by omega)]
          exact e2 k (by omega)
      · have hp : pgAt next P j = false := by
          unfold pgAt
          rw [decide_eq_true c1, Bool.true_and, Bool.or_eq_false_iff, decide_eq_false_iff_not, decide_eq_false_iff_not]
          omega
        rw [hp, Bool.false_and, Bool.false_and, if_neg (by decide)]
        refine ev_succ ⟨1, fun k hk => ?_⟩
        obtain ⟨k, rfl⟩ : ∃ q, k = q + 1 := ⟨k - 1, by omega⟩
        rw [spec_MetaOk.l1, if_pos (by omega), if_pos (by omega), spec_l01In_eq, Option.bind_some, hw, decide_eq_true c1, if_pos rfl, if_pos (by omega), w64 (by omega) (by omega), if_pos (by omega), if_pos (by omega), if_pos (by omega)]
        exact stop k
    · have hp : pgAt next P j = false := by
        unfold pgAt
        rw [decide_eq_false c1, Bool.false_and]
      rw [hp, Bool.false_and, Bool.false_and, if_neg (by decide)]
      refine ev_succ ⟨1, fun k hk => ?_⟩
      obtain ⟨k, rfl⟩ : ∃ q, k = q + 1 := ⟨k - 1, by omega⟩
      rw [spec_MetaOk.l1, if_pos (by omega), if_pos (by omega), spec_l01In_eq, Option.bind_some, hw, decide_eq_false c1, if_neg (by decide)]
      exact stop k
theorem spec_MetaOk_loop (tx root next : Int) (hnx : 2 ≤ next ∧ next ≤ 40) (F : List S113) (hF : F.length ≤ 20) (hs : ∀ x ∈ F, x.f1.length ≤ 1048576) : Ev (fun k => spec_MetaOk.l0 k [root] 0 tx root next F) ((List.range' 0 F.length).all (freeAt tx root next F)) := by
  rw [← ite_tf ((List.range' 0 F.length).all (freeAt tx root next F))]
  have stop : ∀ (k : Nat) (i : Int) (seen : List Int) (x0 : Int) (P : List Int), spec_MetaOk.j2 (k + 1) seen i true tx root next F x0 P = some false := fun k i seen x0 P => by rw [spec_MetaOk.j2, if_pos rfl]
  have top : ∀ (i : Nat), i < F.length → ∀ (k : Nat) (r : Bool), (1 ≤ (rd_T113 F (i : Int)).f0 ∧ (rd_T113 F (i : Int)).f0 ≤ tx) → (i = 0 ∨ (rd_T113 F ((i : Int) - 1)).f0 < (rd_T113 F (i : Int)).f0) → spec_MetaOk.j2 k (seenTo root F i) (i : Int) (!decide (1 ≤ ((rd_T113 F (i : Int)).f1.length : Int) ∧ ((rd_T113 F (i : Int)).f1.length : Int) ≤ 40)) tx root next F (rd_T113 F (i : Int)).f0 (rd_T113 F (i : Int)).f1 = some r → spec_MetaOk.l0 (k + 1) (seenTo root F i) (i : Int) tx root next F = some r := by
    intro i hi k r c1 c2 h
    rw [spec_MetaOk.l0, if_pos (by omega), if_pos (by omega), spec_l01In_eq, Option.bind_some, decide_eq_true c1, if_pos rfl]
    by_cases c : i = 0
    · rw [if_neg (by omega), spec_l01In_eq, Option.bind_some]; exact h
    · rw [if_pos (by omega), w64 (by omega) (by omega), if_pos (by omega), if_pos (by omega), if_neg (by omega), spec_l01In_eq, Option.bind_some]; exact h
  refine ev_every (fun k i => spec_MetaOk.l0 k (seenTo root F i) (i : Int) tx root next F) (freeAt tx root next F) F.length ?_ ?_ ?_ F.length 0 (by omega)
  · refine ev_end fun k => ?_
    rw [spec_MetaOk.l0, if_neg (by omega)]
  · intro i hi hp res hr
    unfold freeAt freeOkR at hp
    simp only [Bool.and_eq_true, Bool.or_eq_true, decide_eq_true_eq] at hp
    obtain ⟨⟨⟨⟨p1, p2⟩, p3⟩, p4⟩, p5⟩ := hp
    have hl : (rd_T113 F (i : Int)).f1.length ≤ 1048576 := hs _ (rdOf_mem z113 F i hi)
    have hn := seenTo_length root F hs i
    rw [seenTo_step root F i hi] at hr
    have inner := spec_MetaOk_inner tx root next hnx F (i : Int) (rd_T113 F (i : Int)).f0 (rd_T113 F (i : Int)).f1 hl res (rd_T113 F (i : Int)).f1.length 0 (seenTo root F i) (by omega) (by omega) (fun _ => by rw [List.drop_zero, w64 (by omega) (by omega)]; exact hr)
    rw [List.drop_zero, p1, p5, Bool.true_and, if_pos rfl] at inner
    obtain ⟨K2, e2⟩ := inner
    dsimp only at e2
    refine ev_succ ⟨K2 + 1, fun k hk => ?_⟩
    obtain ⟨k, rfl⟩ : ∃ q, k = q + 1 := ⟨k - 1, by omega⟩
    refine top i hi _ _ p2 p4 ?_
    rw [decide_eq_true p3, spec_MetaOk.j2, if_neg (by decide)]
    exact e2 k (by omega)
  · intro i hi hp
    have hl : (rd_T113 F (i : Int)).f1.length ≤ 1048576 := hs _ (rdOf_mem z113 F i hi)
    have hn := seenTo_length root F hs i
    by_cases c1 : 1 ≤ (rd_T113 F (i : Int)).f0 ∧ (rd_T113 F (i : Int)).f0 ≤ tx
    · by_cases c2 : i = 0 ∨ (rd_T113 F ((i : Int) - 1)).f0 < (rd_T113 F (i : Int)).f0
      · by_cases c3 : 1 ≤ ((rd_T113 F (i : Int)).f1.length : Int) ∧ ((rd_T113 F (i : Int)).f1.length : Int) ≤ 40
        · have c2' : (decide (i = 0) || decide ((rd_T113 F ((i : Int) - 1)).f0 < (rd_T113 F (i : Int)).f0)) = true := by rw [Bool.or_eq_true, decide_eq_true_eq, decide_eq_true_eq]; exact c2
          unfold freeAt freeOkR at hp
          rw [c2', decide_eq_true c1, decide_eq_true c3, Bool.and_true, Bool.and_true, Bool.and_true] at hp
          have inner := spec_MetaOk_inner tx root next hnx F (i : Int) (rd_T113 F (i : Int)).f0 (rd_T113 F (i : Int)).f1 hl true (rd_T113 F (i : Int)).f1.length 0 (seenTo root F i) (by omega) (by omega) (fun h => by rw [List.drop_zero, hp] at h; cases h)
          rw [List.drop_zero, hp, if_neg (by decide)] at inner
          obtain ⟨K2, e2⟩ := inner
          dsimp only at e2
          refine ev_succ ⟨K2 + 1, fun k hk => ?_⟩
          obtain ⟨k, rfl⟩ : ∃ q, k = q + 1 := ⟨k - 1, by omega⟩
          refine top i hi _ _ c1 c2 ?_
          rw [decide_eq_true c3, spec_MetaOk.j2, if_neg (by decide)]
          exact e2 k (by omega)
        · refine ev_succ ⟨1, fun k hk => ?_⟩
          obtain ⟨k, rfl⟩ : ∃ q, k = q + 1 := ⟨k - 1, by omega⟩
          refine top i hi _ _ c1 c2 ?_
          rw [decide_eq_false c3]
          exact stop k _ _ _ _
      · refine ev_succ ⟨1, fun k hk => ?_⟩
        obtain ⟨k, rfl⟩ : ∃ q, k = q + 1 := ⟨k - 1, by omega⟩
        rw [spec_MetaOk.l0, if_pos (by omega), if_pos (by omega), spec_l01In_eq, Option.bind_some, decide_eq_true c1, if_pos rfl, if_pos (by omega), w64 (by omega) (by omega), if_pos (by omega), if_pos (by omega), if_pos (by omega)]
        exact stop k _ _ _ _
    · refine ev_succ ⟨1, fun k hk => ?_⟩
      obtain ⟨k, rfl⟩ : ∃ q, k = q + 1 := ⟨k - 1, by omega⟩
      rw [spec_MetaOk.l0, if_pos (by omega), if_pos (by omega), spec_l01In_eq, Option.bind_some, decide_eq_false c1, if_neg (by decide)]
      exact stop k _ _ _ _
theorem spec_MetaOk_fev (tx root next : Int) (F : List S113) (hF : F.length ≤ 1048576) (hs : ∀ x ∈ F, x.f1.length ≤ 1048576) : Ev (fun k => spec_MetaOk.f k tx root next F) (metaOkR tx root next F) := by
  have stop : ∀ k, spec_MetaOk.j0 (k + 1) true tx root next F = some false := fun k => by rw [spec_MetaOk.j0, if_pos rfl]
  have main : (2 ≤ next ∧ next ≤ 40) → Ev (fun k => spec_MetaOk.j0 k (decide ((F.length : Int) > 20)) tx root next F) (decide ((F.length : Int) ≤ 20) && (List.range' 0 F.length).all (freeAt tx root next F)) := by
    intro c2
    by_cases c : (F.length : Int) > 20
    · rw [decide_eq_true c, decide_eq_false (by omega), Bool.false_and]
      exact ev_end stop
    · rw [decide_eq_false c, decide_eq_true (by omega), Bool.true_and]
      refine ev_go (spec_MetaOk_loop tx root next c2 F (by omega) hs) fun k => ?_
      rw [spec_MetaOk.j0, if_neg (by decide)]
  unfold metaOkR metaHeadOk
  by_cases c1 : 0 ≤ tx ∧ tx ≤ 100000
  · rw [decide_eq_true c1, Bool.true_and]
    by_cases c2 : 2 ≤ next ∧ next ≤ 40
    · rw [decide_eq_true c2, Bool.true_and]
      by_cases c3 : root = 0
      · rw [decide_eq_true c3, Bool.true_or, Bool.true_and]
        refine Ev.congr (fun k => ?_) (main c2)
        unfold spec_MetaOk.f
        rw [spec_l01In_eq, Option.bind_some, decide_eq_true c1, if_pos rfl, spec_l01In_eq, Option.bind_some, decide_eq_true c2, if_pos rfl, if_pos c3]
      · rw [decide_eq_false c3, Bool.false_or]
        by_cases c4 : 2 ≤ root ∧ root ≤ next - 1
        · rw [decide_eq_true c4, Bool.true_and]
          refine Ev.congr (fun k => ?_) (main c2)
          unfold spec_MetaOk.f
          rw [spec_l01In_eq, Option.bind_some, decide_eq_true c1, if_pos rfl, spec_l01In_eq, Option.bind_some, decide_eq_true c2, if_pos rfl, if_neg c3, spec_l01In_eq, Option.bind_some, w64 (by omega) (by omega), decide_eq_true c4, if_pos rfl]
        · rw [decide_eq_false c4, Bool.false_and, Bool.false_and]
          refine ev_end fun k => ?_
          unfold spec_MetaOk.f
          rw [spec_l01In_eq, Option.bind_some, decide_eq_true c1, if_pos rfl, spec_l01In_eq, Option.bind_some, decide_eq_true c2, if_pos rfl, if_neg c3, spec_l01In_eq, Option.bind_some, w64 (by omega) (by omega), decide_eq_false c4, if_neg (by decide), stop]
    · rw [decide_eq_false c2, Bool.false_and, Bool.false_and, Bool.false_and]
      refine ev_end fun k => ?_
      unfold spec_MetaOk.f
      rw [spec_l01In_eq, Option.bind_some, decide_eq_true c1, if_pos rfl, spec_l01In_eq, Option.bind_some, decide_eq_false c2, if_neg (by decide), stop]
  · rw [decide_eq_false c1, Bool.false_and, Bool.false_and, Bool.false_and, Bool.false_and]
    refine ev_end fun k => ?_
    unfold spec_MetaOk.f
    rw [spec_l01In_eq, Option.bind_some, decide_eq_false c1, if_neg (by decide), stop]
theorem spec_l01Var_ev : ∀ (n : Nat) (acc : List Int), n ≤ 9223372036854775807 → acc.length + n ≤ 140737488355327 → Ev (fun k => spec_l01Var.l0 k (n : Int) acc) (strOfNums (acc ++ varL n)) := by
  intro n
  induction n using Nat.strongRecOn with
  | ind n ih =>
    intro acc hn hl
    by_cases h : n > 127
    · refine ev_go (f := fun k => spec_l01Var.l0 k ((n / 128 : Nat) : Int) (acc ++ [(n : Int) % 128 + 128])) ?_ ?_
      · have := ih (n / 128) (by omega) (acc ++ [(n : Int) % 128 + 128]) (by omega) (by rw [List.length_append, List.length_singleton]; omega)
        rw [List.append_assoc, List.singleton_append, ← varL_big h] at this
        exact this
      · intro k
        have e1 : wrap64 (Int.tdiv (n : Int) 128) = ((n / 128 : Nat) : Int) := by rw [Int.tdiv_eq_ediv_of_nonneg (by omega), w64 (by omega) (by omega)]; omega
        have e2 : (wrap64 (Int.tmod (n : Int) 128 + 128)) % 256 = (n : Int) % 128 + 128 := by rw [Int.tmod_eq_emod_of_nonneg (by omega), w64 (by omega) (by omega)]; omega
        rw [spec_l01Var.l0, if_pos (by omega), if_pos (by omega), e1, e2]
    · refine ev_end fun k => ?_
      rw [spec_l01Var.l0, if_neg (by omega), if_pos (by omega), varL_small h]
      rw [show (n : Int) % 256 = (n : Int) by omega]
theorem spec_l01Var_fev (n : Int) (h0 : 0 ≤ n) (h : n ≤ 140737488355327) : Ev (fun k => spec_l01Var.f k n) (varB n.toNat) := by
  have := spec_l01Var_ev n.toNat [] (by omega) (by simp; omega)
  rw [Int.toNat_of_nonneg h0, List.nil_append] at this
  exact this
theorem spec_SumMore_steps (s : ByteArray) (i : Int) (r : Int) : ∀ (d : Nat) (x : Int) (j : Int), j + d = 8 → 0 ≤ j → 0 ≤ x ∧ x < 4294967296 → Ev (fun k => spec_SumMore.l0 k (sumSteps d x) s (wrap64 (i + 1))) r → Ev (fun k => spec_SumMore.l1 k x s i j) r := by
  intro d
  induction d with
  | zero =>
    intro x j hj h0 hx h
    refine ev_go h fun k => ?_
    rw [spec_SumMore.l1, if_neg (by omega)]
    rfl
  | succ d ih =>
    intro x j hj h0 hx h
    refine ev_go (ih (sumStep x) (j + 1) (by omega) (by omega) (sumStep_range x hx) h) fun k => ?_
    rw [spec_SumMore.l1, if_pos (by omega), Int.tmod_eq_emod_of_nonneg hx.1, Int.tdiv_eq_ediv_of_nonneg hx.1, w64 (n := j + 1) (by omega) (by omega), show x / 2 % 4294967296 = x / 2 by omega]
    unfold sumStep
    by_cases c : x % 2 = 1
    · rw [if_pos c, if_pos c]
    · rw [if_neg c, if_neg c]
theorem spec_SumMore_loop (s : ByteArray) (hs : s.size ≤ 140737488351232) : ∀ (d : Nat) (x : Int) (i : Nat), i + d = s.size → 0 ≤ x ∧ x < 4294967296 → Ev (fun k => spec_SumMore.l0 k x s (i : Int)) (sumL x ((bytesOf s).drop i)) := by
  intro d
  induction d with
  | zero =>
    intro x i hi hx
    refine ev_end fun k => ?_
    rw [spec_SumMore.l0, if_neg (by omega), List.drop_eq_nil_of_le (by rw [bytesOf_length]; omega)]
    rfl
  | succ d ih =>
    intro x i hi hx
    have hb := bt_lo s i
    have hb' := bt_hi s i
    rw [bytesOf_drop s i (by omega)]
    have hn := ih (sumByte x (bt s i)) (i + 1) (by omega) (sumByte_range _ _)
    refine ev_go (spec_SumMore_steps s i _ 8 (Go.bits .xor .u32 x (bt s i)) 0 (by omega) (by omega) (bits_u32_range _ _ _ rfl) ?_) fun k => ?_
    · rw [w64 (by omega) (by omega)]
      exact hn
    · rw [spec_SumMore.l0, if_pos (by omega), if_pos (by omega), show bt s i % 4294967296 = bt s i by omega]
theorem spec_SumMore_fev (x : Int) (hx : 0 ≤ x ∧ x < 4294967296) (s : ByteArray) (hs : s.size ≤ 140737488351232) : Ev (fun k => spec_SumMore.f k x s) (sumR x s) :=
  spec_SumMore_loop s hs s.size x 0 (by omega) hx
theorem spec_SumOf_fev (s : ByteArray) (hs : s.size ≤ 140737488351232) : Ev (fun k => spec_SumOf.f k s) (sumR 4294967295 s) :=
  ev_call (spec_SumMore_fev 4294967295 (by omega) s hs) (Ev.now _) fun _ => rfl
theorem spec_Sealed_fev (s : ByteArray) (hs : s.size ≤ 140737488351232) : Ev (fun k => spec_Sealed.f k s) (sealedR s) := by
  unfold sealedR
  by_cases c : (s.size : Int) > 20000
  · rw [if_pos c]
    exact ev_some fun k => by unfold spec_Sealed.f; rw [if_pos c]
  · rw [if_neg c]
    refine ev_call (spec_SumOf_fev s hs) (c := fun k t => (spec_l02Four.f t).bind fun t106 => (if s.size + t106.size ≤ 9223372036854775807 then (some (s ++ t106, true)) else (none))) (ev_some fun k => ?_) fun k => by unfold spec_Sealed.f; rw [if_neg c]
    unfold spec_l02Four.f
    rw [Option.bind_some]
    have h4 : (sealB s).size = 4 := sealB_size s
    unfold sealB fourB at h4
    rw [if_pos (by omega)]
    rfl
theorem spec_MetaText_inner (tx root next : Int) (F : List S113) (i : Int) (hi0 : 0 ≤ i) (hi1 : i < (F.length : Int)) (P : List Int) (hPF : (rd_T113 F i).f1 = P) (hP : P.length ≤ 40) (hp : ∀ p ∈ P, 0 ≤ p ∧ p ≤ 1000000000) (r : ByteArray × Bool) : ∀ (d j : Nat) (acc : ByteArray), j + d = P.length → acc.size + 10 * d ≤ 1000000000 → Ev (fun k => spec_MetaText.l0 k (acc ++ pagesB (P.drop j)) (wrap64 (i + 1)) tx root next F) r → Ev (fun k => spec_MetaText.l1 k acc i (j : Int) tx root next F) r := by
  intro d
  induction d with
  | zero =>
    intro j acc hj ha rest
    rw [List.drop_eq_nil_of_le (by omega)] at rest
    have e : acc ++ pagesB [] = acc := ByteArray.append_empty
    rw [e] at rest
    refine ev_go rest fun k => ?_
    rw [spec_MetaText.l1, hPF, if_pos hi0, if_pos hi1, if_neg (by omega)]
  | succ d ih =>
    intro j acc hj ha rest
    have hm := hp _ (rd_mem P j (by omega))
    have hz := varB_size_int (rd P (j : Int)) hm.2
    obtain ⟨K1, e1⟩ := spec_l01Var_fev (rd P (j : Int)) hm.1 (by omega)
    rw [drop_rd P j (by omega), pagesB, ← ByteArray.append_assoc] at rest
    obtain ⟨K2, e2⟩ := ih (j + 1) (acc ++ varB (rd P (j : Int)).toNat) (by omega) (by rw [ByteArray.size_append]; omega) rest
    dsimp only at e1 e2
    refine ev_succ ⟨K1 + K2, fun k hk => ?_⟩
    rw [spec_MetaText.l1, hPF, if_pos hi0, if_pos hi1, if_pos (by omega), if_pos (by omega), e1 k (by omega), Option.bind_some, if_pos (by omega), w64 (by omega) (by omega)]
    exact e2 k (by omega)
theorem spec_MetaText_loop (tx root next : Int) (F : List S113) (hF : F.length ≤ 1000) (hf : FreeFits F) : ∀ (d i : Nat) (acc : ByteArray), i + d = F.length → acc.size + 420 * d ≤ 1000000 → Ev (fun k => spec_MetaText.l0 k acc (i : Int) tx root next F) (metaFin (acc ++ freesB (F.drop i))) := by
  intro d
  induction d with
  | zero =>
    intro i acc hi ha
    rw [List.drop_eq_nil_of_le (by omega)]
    have e : acc ++ freesB ([] : List S113) = acc := ByteArray.append_empty
    rw [e]
    obtain ⟨K1, e1⟩ := spec_Sealed_fev acc (by omega)
    dsimp only at e1
    have hz := sealB_size acc
    refine ev_succ ⟨K1, fun k hk => ?_⟩
    rw [spec_MetaText.l0, if_neg (by omega), e1 k hk, Option.bind_some]
    unfold metaFin sealedR
    by_cases c0 : (acc.size : Int) > 20000
    · rw [if_pos c0, if_neg (by decide), if_pos (by omega)]
    · rw [if_neg c0, if_pos rfl]
      dsimp only
      by_cases c : (acc.size : Int) + 4 > 240
      · rw [if_pos (by rw [ByteArray.size_append]; omega), if_pos c]
      · rw [if_neg (by rw [ByteArray.size_append]; omega), if_neg c]
  | succ d ih =>
    intro i acc hi ha
    obtain ⟨q1, q2, q3, q4⟩ : 0 ≤ (rd_T113 F (i : Int)).f0 ∧ (rd_T113 F (i : Int)).f0 ≤ 1000000000 ∧ (rd_T113 F (i : Int)).f1.length ≤ 40 ∧ ∀ p ∈ (rd_T113 F (i : Int)).f1, 0 ≤ p ∧ p ≤ 1000000000 := hf _ (rdOf_mem z113 F i (by omega))
    have z1 := varB_size_int _ q2
    have z2 := varB_size_le (rd_T113 F (i : Int)).f1.length (by omega)
    have z3 := pagesB_size _ (fun p hp => (q4 p hp).2)
    obtain ⟨K1, e1⟩ := spec_l01Var_fev (rd_T113 F (i : Int)).f0 q1 (by omega)
    obtain ⟨K2, e2⟩ := spec_l01Var_fev ((rd_T113 F (i : Int)).f1.length : Int) (by omega) (by omega)
    rw [Int.toNat_natCast] at e2
    have hr := ih (i + 1) (acc ++ freeB (rd_T113 F (i : Int))) (by omega) (by unfold freeB; rw [ByteArray.size_append, ByteArray.size_append, ByteArray.size_append]; omega)
    have hd : F.drop i = rd_T113 F (i : Int) :: F.drop (i + 1) := drop_rdOf z113 F i (by omega)
    rw [hd, freesB, ← ByteArray.append_assoc]
    obtain ⟨K3, e3⟩ := spec_MetaText_inner tx root next F (i : Int) (by omega) (by omega) (rd_T113 F (i : Int)).f1 rfl q3 q4 _ (rd_T113 F (i : Int)).f1.length 0 ((acc ++ varB (rd_T113 F (i : Int)).f0.toNat) ++ varB (rd_T113 F (i : Int)).f1.length) (by omega) (by rw [ByteArray.size_append, ByteArray.size_append]; omega) (by
      have e : ((acc ++ varB (rd_T113 F (i : Int)).f0.toNat) ++ varB (rd_T113 F (i : Int)).f1.length) ++ pagesB (rd_T113 F (i : Int)).f1 = acc ++ freeB (rd_T113 F (i : Int)) := by
        unfold freeB
        simp only [ByteArray.append_assoc]
      rw [List.drop_zero, e, w64 (by omega) (by omega)]
      exact hr)
    dsimp only at e1 e2 e3
    refine ev_succ ⟨K1 + K2 + K3, fun k hk => ?_⟩
    rw [spec_MetaText.l0, if_pos (by omega), if_pos (by omega), e1 k (by omega), Option.bind_some, if_pos (by omega), e2 k (by omega), Option.bind_some, if_pos (by rw [ByteArray.size_append]; omega)]
    exact e3 k (by omega)
theorem spec_MetaText_fev (tx root next : Int) (F : List S113) (hF : F.length ≤ 1048576) (hs : ∀ x ∈ F, x.f1.length ≤ 1048576) : Ev (fun k => spec_MetaText.f k tx root next F) (metaTextR tx root next F) := by
  obtain ⟨K1, e1⟩ := spec_MetaOk_fev tx root next F hF hs
  dsimp only at e1
  unfold metaTextR
  cases h : metaOkR tx root next F with
  | false =>
    refine ⟨K1, fun k hk => ?_⟩
    dsimp only
    unfold spec_MetaText.f
    rw [e1 k hk, Option.bind_some, h, if_neg (by decide), if_neg (by decide)]
  | true =>
    obtain ⟨h1, h2, h3, h4, h5, h6, h7⟩ := metaOkR_tells h
    have a1 := varB_size_int tx (by omega)
    have a2 := varB_size_int root (by omega)
    have a3 := varB_size_int next (by omega)
    have a4 := varB_size_le F.length (by omega)
    obtain ⟨K2, e2⟩ := spec_l01Var_fev tx h1 (by omega)
    obtain ⟨K3, e3⟩ := spec_l01Var_fev root (by omega) (by omega)
    obtain ⟨K4, e4⟩ := spec_l01Var_fev next (by omega) (by omega)
    obtain ⟨K5, e5⟩ := spec_l01Var_fev (F.length : Int) (by omega) (by omega)
    rw [Int.toNat_natCast] at e5
    obtain ⟨K6, e6⟩ := spec_MetaText_loop tx root next F (by omega) (metaOkR_fits h) F.length 0 (((varB tx.toNat ++ varB root.toNat) ++ varB next.toNat) ++ varB F.length) (by omega) (by rw [ByteArray.size_append, ByteArray.size_append, ByteArray.size_append]; omega)
    dsimp only at e2 e3 e4 e5 e6
    refine ⟨K1 + K2 + K3 + K4 + K5 + K6, fun k hk => ?_⟩
    dsimp only
    unfold spec_MetaText.f
    rw [e1 k (by omega), Option.bind_some, h, if_pos rfl, if_pos rfl, e2 k (by omega), Option.bind_some, e3 k (by omega), Option.bind_some, if_pos (by omega), e4 k (by omega), Option.bind_some, if_pos (by rw [ByteArray.size_append]; omega), e5 k (by omega), Option.bind_some, if_pos (by rw [ByteArray.size_append, ByteArray.size_append]; omega)]
    exact e6 k (by omega)
theorem impl_in_eq (x a b : Int) : impl_in.f x a b = some (decide (a ≤ x ∧ x ≤ b)) := in_dec x a b
theorem slices_Index_int_int_loop (l : List Int) (v : Int) (hl : l.length ≤ 9223372036854775806) : ∀ d i : Nat, i + d = l.length → Ev (fun k => slices_Index_int_int.l0 k l v (l.length : Int) (i : Int)) (idxP (fun x => decide (x = v)) (l.drop i) (i : Int)) := by
  intro d
  induction d with
  | zero =>
    intro i hi
    refine ev_end fun k => ?_
    rw [slices_Index_int_int.l0, if_neg (by omega), List.drop_eq_nil_of_le (by omega)]
    rfl
  | succ d ih =>
    intro i hi
    rw [drop_rd l i (by omega), idxP_step]
    by_cases c : rd l (i : Int) = v
    · rw [if_pos (decide_eq_true c)]
      refine ev_end fun k => ?_
      rw [slices_Index_int_int.l0, if_pos (by omega), if_pos (by omega), if_pos (by omega), if_pos c.symm]
    · rw [decide_eq_false c, if_neg (by decide)]
      refine ev_go (ih (i + 1) (by omega)) fun k => ?_
      rw [slices_Index_int_int.l0, if_pos (by omega), if_pos (by omega), if_pos (by omega), if_neg (fun h => c h.symm), w64 (by omega) (by omega)]
      rfl
theorem slices_Contains_int_int_fev (l : List Int) (v : Int) (hl : l.length ≤ 9223372036854775806) : Ev (fun k => slices_Contains_int_int.f k l v) (l.any fun x => decide (x = v)) := by
  rw [← idxP_any]
  have h := slices_Index_int_int_loop l v hl l.length 0 (by omega)
  rw [List.drop_zero] at h
  exact ev_call h (c := fun _ t => some (decide (t ≥ 0))) (Ev.now _) fun k => rfl
theorem impl_freeOk_fev (x0 : Int) (l : List Int) (tx root next : Int) (F : List S113) (hl : l.length ≤ 1048576) : Ev (fun k => impl_freeOk.f k x0 l tx root next F) ((List.range' 0 l.length).all (pgAt next l) && decide (1 ≤ x0 ∧ x0 ≤ tx) && decide (1 ≤ (l.length : Int) ∧ (l.length : Int) ≤ 40)) := by
  have h := ev_every (fun k i => impl_freeOk.l0 k l (l.length : Int) (i : Int) x0 l tx root next F) (pgAt next l) l.length (r := decide (1 ≤ x0 ∧ x0 ≤ tx) && decide (1 ≤ (l.length : Int) ∧ (l.length : Int) ≤ 40)) (e := false) ?_ ?_ ?_ l.length 0 (by omega)
  · refine Ev.congr (g := fun k => impl_freeOk.l0 k l (l.length : Int) ((0 : Nat) : Int) x0 l tx root next F) (fun k => rfl) ?_
    have e : ((List.range' 0 l.length).all (pgAt next l) && decide (1 ≤ x0 ∧ x0 ≤ tx) && decide (1 ≤ (l.length : Int) ∧ (l.length : Int) ≤ 40)) = (if (List.range' 0 l.length).all (pgAt next l) = true then (decide (1 ≤ x0 ∧ x0 ≤ tx) && decide (1 ≤ (l.length : Int) ∧ (l.length : Int) ≤ 40)) else false) := by
      cases (List.range' 0 l.length).all (pgAt next l) <;> rfl
    rw [e]
    exact h
  · refine ev_end fun k => ?_
    rw [impl_freeOk.l0, if_neg (by omega), impl_in_eq, Option.bind_some]
    by_cases c : 1 ≤ x0 ∧ x0 ≤ tx
    · rw [decide_eq_true c, if_pos rfl, impl_in_eq, Option.bind_some, Bool.true_and]
    · rw [decide_eq_false c, if_neg (by decide), Bool.false_and]
  · intro i hi hp res hr
    unfold pgAt at hp
    rw [Bool.and_eq_true, decide_eq_true_eq, Bool.or_eq_true, decide_eq_true_eq, decide_eq_true_eq] at hp
    obtain ⟨K, e⟩ := hr
    dsimp only at e
    refine ev_succ ⟨K + 1, fun k hk => ?_⟩
    obtain ⟨k, rfl⟩ : ∃ q, k = q + 1 := ⟨k - 1, by omega⟩
    have step : impl_freeOk.j1 (k + 1) l (l.length : Int) (i : Int) false x0 l tx root next F = some res := by
      rw [impl_freeOk.j1, if_neg (by decide), w64 (by omega) (by omega)]
      exact e k (by omega)
    rw [impl_freeOk.l0, if_pos (by omega), if_pos (by omega), if_pos (by omega), if_neg (by omega), if_neg (by omega)]
    by_cases c : i = 0
    · rw [if_neg (by omega)]; exact step
    · rw [if_pos (by omega), w64 (by omega) (by omega), if_pos (by omega), if_pos (by omega), decide_eq_false (by omega)]; exact step
  · intro i hi hp
    unfold pgAt at hp
    refine ev_succ ⟨1, fun k hk => ?_⟩
    obtain ⟨k, rfl⟩ : ∃ q, k = q + 1 := ⟨k - 1, by omega⟩
    have stop : impl_freeOk.j1 (k + 1) l (l.length : Int) (i : Int) true x0 l tx root next F = some false := by
      rw [impl_freeOk.j1, if_pos rfl]
    rw [impl_freeOk.l0, if_pos (by omega), if_pos (by omega), if_pos (by omega)]
    by_cases c1 : rd l (i : Int) < 2
    · rw [if_pos c1]; exact stop
    · rw [if_neg c1]
      by_cases c2 : rd l (i : Int) ≥ next
      · rw [if_pos c2]; exact stop
      · rw [if_neg c2]
        rw [decide_eq_true (show 2 ≤ rd l (i : Int) ∧ rd l (i : Int) ≤ next - 1 by omega), Bool.true_and, Bool.or_eq_false_iff, decide_eq_false_iff_not, decide_eq_false_iff_not] at hp
        rw [if_pos (by omega), w64 (by omega) (by omega), if_pos (by omega), if_pos (by omega), decide_eq_true (by omega)]; exact stop
theorem impl_MetaOk_inner (tx root next : Int) (F : List S113) (n i : Int) (P : List Int) (hP : P.length ≤ 1048576) (res : Bool) : ∀ (d j : Nat) (seen : List Int), j + d = P.length → seen.length + d ≤ 1099511627776 → Ev (fun k => impl_MetaOk.l0 k (seen ++ P.drop j) F n (wrap64 (i + 1)) tx root next F) res → Ev (fun k => impl_MetaOk.l1 k seen F n i P (P.length : Int) (j : Int) tx root next F) (if seenL seen (P.drop j) = true then res else false) := by
  intro d
  induction d with
  | zero =>
    intro j seen hj hs rest
    rw [List.drop_eq_nil_of_le (by omega), List.append_nil] at rest
    rw [List.drop_eq_nil_of_le (by omega), if_pos (by rfl)]
    refine ev_go rest fun k => ?_
    rw [impl_MetaOk.l1, if_neg (by omega)]
  | succ d ih =>
    intro j seen hj hs rest
    obtain ⟨K1, e1⟩ := slices_Contains_int_int_fev seen (rd P (j : Int)) (by omega)
    dsimp only at e1
    rw [drop_rd P j (by omega)] at rest ⊢
    unfold seenL
    by_cases c : (seen.any fun x => decide (x = rd P (j : Int))) = true
    · rw [if_pos c, if_neg (by decide)]
      refine ev_succ ⟨K1, fun k hk => ?_⟩
      rw [impl_MetaOk.l1, if_pos (by omega), if_pos (by omega), if_pos (by omega), e1 k hk, Option.bind_some, if_pos c]
    · rw [if_neg c]
      obtain ⟨K2, e2⟩ := ih (j + 1) (seen ++ [rd P (j : Int)]) (by omega) (by simp; omega) (by rw [List.append_assoc, List.singleton_append]; exact rest)
      dsimp only at e2
      refine ev_succ ⟨K1 + K2, fun k hk => ?_⟩
      rw [impl_MetaOk.l1, if_pos (by omega), if_pos (by omega), if_pos (by omega), e1 k (by omega), Option.bind_some, if_neg c, if_pos (by omega), w64 (by omega) (by omega)]
      exact e2 k (by omega)
theorem impl_MetaOk_loop (tx root next : Int) (F : List S113) (hF : F.length ≤ 20) (hs : ∀ x ∈ F, x.f1.length ≤ 1048576) : Ev (fun k => impl_MetaOk.l0 k [root] F (F.length : Int) 0 tx root next F) ((List.range' 0 F.length).all (freeAt tx root next F)) := by
  rw [← ite_tf ((List.range' 0 F.length).all (freeAt tx root next F))]
  refine ev_every (fun k i => impl_MetaOk.l0 k (seenTo root F i) F (F.length : Int) (i : Int) tx root next F) (freeAt tx root next F) F.length ?_ ?_ ?_ F.length 0 (by omega)
  · refine ev_end fun k => ?_
    rw [impl_MetaOk.l0, if_neg (by omega)]
  · intro i hi hp res hr
    unfold freeAt at hp
    rw [Bool.and_eq_true, Bool.and_eq_true, Bool.or_eq_true, decide_eq_true_eq, decide_eq_true_eq] at hp
    obtain ⟨⟨p1, p2⟩, p3⟩ := hp
    have hl := hs _ (rdOf_mem z113 F i hi)
    have hl : (rd_T113 F (i : Int)).f1.length ≤ 1048576 := hl
    have hn := seenTo_length root F hs i
    rw [seenTo_step root F i hi] at hr
    have inner := impl_MetaOk_inner tx root next F (F.length : Int) (i : Int) (rd_T113 F (i : Int)).f1 hl res (rd_T113 F (i : Int)).f1.length 0 (seenTo root F i) (by omega) (by omega) (by rw [List.drop_zero, w64 (by omega) (by omega)]; exact hr)
    rw [List.drop_zero, if_pos p3] at inner
    obtain ⟨K1, e1⟩ := impl_freeOk_fev (rd_T113 F (i : Int)).f0 (rd_T113 F (i : Int)).f1 tx root next F hl
    unfold freeOkR at p1
    rw [p1] at e1
    obtain ⟨K2, e2⟩ := inner
    dsimp only at e1 e2
    refine ev_succ ⟨K1 + K2 + 1, fun k hk => ?_⟩
    obtain ⟨k, rfl⟩ : ∃ q, k = q + 1 := ⟨k - 1, by omega⟩
    have step : impl_MetaOk.j2 (k + 1) (seenTo root F i) F (F.length : Int) (i : Int) false tx root next F (rd_T113 F (i : Int)).f0 (rd_T113 F (i : Int)).f1 = some res := by
      rw [impl_MetaOk.j2, if_neg (by decide)]
      exact e2 k (by omega)
    rw [impl_MetaOk.l0, if_pos (by omega), if_pos (by omega), if_pos (by omega), e1 _ (by omega), Option.bind_some, if_pos rfl]
    by_cases c : i = 0
    · rw [if_neg (by omega)]; exact step
    · rw [if_pos (by omega), w64 (by omega) (by omega), if_pos (by omega), if_pos (by omega), decide_eq_false (by omega)]; exact step
  · intro i hi hp
    have hl : (rd_T113 F (i : Int)).f1.length ≤ 1048576 := hs _ (rdOf_mem z113 F i hi)
    have hn := seenTo_length root F hs i
    obtain ⟨K1, e1⟩ := impl_freeOk_fev (rd_T113 F (i : Int)).f0 (rd_T113 F (i : Int)).f1 tx root next F hl
    have e1 : ∀ k, K1 ≤ k → impl_freeOk.f k (rd_T113 F (i : Int)).f0 (rd_T113 F (i : Int)).f1 tx root next F = some (freeOkR tx next (rd_T113 F (i : Int))) := e1
    have stop : ∀ k, impl_MetaOk.j2 (k + 1) (seenTo root F i) F (F.length : Int) (i : Int) true tx root next F (rd_T113 F (i : Int)).f0 (rd_T113 F (i : Int)).f1 = some false := fun k => by rw [impl_MetaOk.j2, if_pos rfl]
    unfold freeAt at hp
    cases c1 : freeOkR tx next (rd_T113 F (i : Int)) with
    | false =>
      refine ev_succ ⟨K1 + 1, fun k hk => ?_⟩
      obtain ⟨k, rfl⟩ : ∃ q, k = q + 1 := ⟨k - 1, by omega⟩
      rw [impl_MetaOk.l0, if_pos (by omega), if_pos (by omega), if_pos (by omega), e1 _ (by omega), Option.bind_some, c1, if_neg (by decide)]
      exact stop k
    | true =>
      rw [c1, Bool.true_and] at hp
      by_cases c2 : i = 0 ∨ (rd_T113 F ((i : Int) - 1)).f0 < (rd_T113 F (i : Int)).f0
      · have c2' : (decide (i = 0) || decide ((rd_T113 F ((i : Int) - 1)).f0 < (rd_T113 F (i : Int)).f0)) = true := by rw [Bool.or_eq_true, decide_eq_true_eq, decide_eq_true_eq]; exact c2
        rw [c2', Bool.true_and] at hp
        have inner : ∀ d j (seen : List Int), j + d = (rd_T113 F (i : Int)).f1.length → seen.length + d ≤ 1099511627776 → seenL seen ((rd_T113 F (i : Int)).f1.drop j) = false → Ev (fun k => impl_MetaOk.l1 k seen F (F.length : Int) (i : Int) (rd_T113 F (i : Int)).f1 ((rd_T113 F (i : Int)).f1.length : Int) (j : Int) tx root next F) false := by
          intro d
          induction d with
          | zero =>
            intro j seen hj hs2 h
            rw [List.drop_eq_nil_of_le (by omega)] at h
            cases h
          | succ d ih =>
            intro j seen hj hs2 h
            obtain ⟨K3, e3⟩ := slices_Contains_int_int_fev seen (rd (rd_T113 F (i : Int)).f1 (j : Int)) (by omega)
            dsimp only at e3
            rw [drop_rd _ j (by omega)] at h
            unfold seenL at h
            by_cases c : (seen.any fun x => decide (x = rd (rd_T113 F (i : Int)).f1 (j : Int))) = true
            · refine ev_succ ⟨K3, fun k hk => ?_⟩
              rw [impl_MetaOk.l1, if_pos (by omega), if_pos (by omega), if_pos (by omega), e3 k hk, Option.bind_some, if_pos c]
            · rw [if_neg c] at h
              obtain ⟨K4, e4⟩ := ih (j + 1) (seen ++ [rd (rd_T113 F (i : Int)).f1 (j : Int)]) (by omega) (by simp; omega) h
              dsimp only at e4
              refine ev_succ ⟨K3 + K4, fun k hk => ?_⟩
              rw [impl_MetaOk.l1, if_pos (by omega), if_pos (by omega), if_pos (by omega), e3 k (by omega), Option.bind_some, if_neg c, if_pos (by omega), w64 (by omega) (by omega)]
              exact e4 k (by omega)
        obtain ⟨K2, e2⟩ := inner (rd_T113 F (i : Int)).f1.length 0 (seenTo root F i) (by omega) (by omega) (by rw [List.drop_zero]; exact hp)
        dsimp only at e2
        refine ev_succ ⟨K1 + K2 + 1, fun k hk => ?_⟩
        obtain ⟨k, rfl⟩ : ∃ q, k = q + 1 := ⟨k - 1, by omega⟩
        have step : impl_MetaOk.j2 (k + 1) (seenTo root F i) F (F.length : Int) (i : Int) false tx root next F (rd_T113 F (i : Int)).f0 (rd_T113 F (i : Int)).f1 = some false := by
          rw [impl_MetaOk.j2, if_neg (by decide)]
          exact e2 k (by omega)
        rw [impl_MetaOk.l0, if_pos (by omega), if_pos (by omega), if_pos (by omega), e1 _ (by omega), Option.bind_some, c1, if_pos rfl]
        by_cases c : i = 0
        · rw [if_neg (by omega)]; exact step
        · rw [if_pos (by omega), w64 (by omega) (by omega), if_pos (by omega), if_pos (by omega), decide_eq_false (by omega)]; exact step
      · refine ev_succ ⟨K1 + 1, fun k hk => ?_⟩
        obtain ⟨k, rfl⟩ : ∃ q, k = q + 1 := ⟨k - 1, by omega⟩
        rw [impl_MetaOk.l0, if_pos (by omega), if_pos (by omega), if_pos (by omega), e1 _ (by omega), Option.bind_some, c1, if_pos rfl, if_pos (by omega), w64 (by omega) (by omega), if_pos (by omega), if_pos (by omega), decide_eq_true (by omega)]
        exact stop k
theorem impl_MetaOk_fev (tx root next : Int) (F : List S113) (hF : F.length ≤ 1048576) (hs : ∀ x ∈ F, x.f1.length ≤ 1048576) : Ev (fun k => impl_MetaOk.f k tx root next F) (metaOkR tx root next F) := by
  have stop : ∀ k, impl_MetaOk.j0 (k + 1) true tx root next F = some false := fun k => by rw [impl_MetaOk.j0, if_pos rfl]
  have main : Ev (fun k => impl_MetaOk.j0 k (decide ((F.length : Int) > 20)) tx root next F) (decide ((F.length : Int) ≤ 20) && (List.range' 0 F.length).all (freeAt tx root next F)) := by
    by_cases c : (F.length : Int) > 20
    · rw [decide_eq_true c, decide_eq_false (by omega), Bool.false_and]
      exact ev_end stop
    · rw [decide_eq_false c, decide_eq_true (by omega), Bool.true_and]
      refine ev_go (impl_MetaOk_loop tx root next F (by omega) hs) fun k => ?_
      rw [impl_MetaOk.j0, if_neg (by decide)]
  unfold metaOkR metaHeadOk
  by_cases c1 : 0 ≤ tx ∧ tx ≤ 100000
  · rw [decide_eq_true c1, Bool.true_and]
    by_cases c2 : 2 ≤ next ∧ next ≤ 40
    · rw [decide_eq_true c2, Bool.true_and]
      by_cases c3 : root = 0
      · rw [decide_eq_true c3, Bool.true_or, Bool.true_and]
        refine Ev.congr (fun k => ?_) main
        unfold impl_MetaOk.f
        rw [impl_in_eq, Option.bind_some, decide_eq_true c1, if_pos rfl, impl_in_eq, Option.bind_some, decide_eq_true c2, if_pos rfl, if_pos c3]
      · rw [decide_eq_false c3, Bool.false_or]
        by_cases c4 : 2 ≤ root ∧ root ≤ next - 1
        · rw [decide_eq_true c4, Bool.true_and]
          refine Ev.congr (fun k => ?_) main
          unfold impl_MetaOk.f
          rw [impl_in_eq, Option.bind_some, decide_eq_true c1, if_pos rfl, impl_in_eq, Option.bind_some, decide_eq_true c2, if_pos rfl, if_neg c3, impl_in_eq, Option.bind_some, w64 (by omega) (by omega), decide_eq_true c4, if_pos rfl]
        · rw [decide_eq_false c4, Bool.false_and, Bool.false_and]
          refine ev_end fun k => ?_
          unfold impl_MetaOk.f
          rw [impl_in_eq, Option.bind_some, decide_eq_true c1, if_pos rfl, impl_in_eq, Option.bind_some, decide_eq_true c2, if_pos rfl, if_neg c3, impl_in_eq, Option.bind_some, w64 (by omega) (by omega), decide_eq_false c4, if_neg (by decide), stop]
    · rw [decide_eq_false c2, Bool.false_and, Bool.false_and, Bool.false_and]
      refine ev_end fun k => ?_
      unfold impl_MetaOk.f
      rw [impl_in_eq, Option.bind_some, decide_eq_true c1, if_pos rfl, impl_in_eq, Option.bind_some, decide_eq_false c2, if_neg (by decide), stop]
  · rw [decide_eq_false c1, Bool.false_and, Bool.false_and, Bool.false_and, Bool.false_and]
    refine ev_end fun k => ?_
    unfold impl_MetaOk.f
    rw [impl_in_eq, Option.bind_some, decide_eq_false c1, if_neg (by decide), stop]
theorem impl_varText_ev : ∀ (n : Nat) (acc : List Int), n ≤ 9223372036854775807 → acc.length + n ≤ 140737488355327 → Ev (fun k => impl_varText.l0 k (n : Int) acc) (strOfNums (acc ++ varL n)) := by
  intro n
  induction n using Nat.strongRecOn with
  | ind n ih =>
    intro acc hn hl
    by_cases h : n > 127
    · refine ev_go (f := fun k => impl_varText.l0 k ((n / 128 : Nat) : Int) (acc ++ [(n : Int) % 128 + 128])) ?_ ?_
      · have := ih (n / 128) (by omega) (acc ++ [(n : Int) % 128 + 128]) (by omega) (by rw [List.length_append, List.length_singleton]; omega)
        rw [List.append_assoc, List.singleton_append, ← varL_big h] at this
        exact this
      · intro k
        have e1 : (n : Int) / 128 = ((n / 128 : Nat) : Int) := by omega
        have e2 : (Go.bits .or .i64 (Go.bits .and .i64 (n : Int) 127) 128) % 256 = (n : Int) % 128 + 128 := by rw [i64_and127 _ (by omega) (by omega), i64_or128 _ (by omega) (by omega)]; omega
        rw [impl_varText.l0, if_pos (by omega), if_pos (by omega), e1, e2]
    · refine ev_end fun k => ?_
      rw [impl_varText.l0, if_neg (by omega), if_pos (by omega), varL_small h]
      rw [show (n : Int) % 256 = (n : Int) by omega]
theorem impl_varText_fev (n : Int) (h0 : 0 ≤ n) (h : n ≤ 140737488355327) : Ev (fun k => impl_varText.f k n) (varB n.toNat) := by
  have := impl_varText_ev n.toNat [] (by omega) (by simp; omega)
  rw [Int.toNat_of_nonneg h0, List.nil_append] at this
  exact this
theorem impl_SumMore_steps (s : ByteArray) (i : Int) (r : Int) : ∀ (d : Nat) (x : Int) (j : Int), j + d = 8 → 0 ≤ j → 0 ≤ x ∧ x < 4294967296 → Ev (fun k => impl_SumMore.l0 k (sumSteps d x) s (s.size : Int) (wrap64 (i + 1))) r → Ev (fun k => impl_SumMore.l1 k x s (s.size : Int) i j) r := by
  intro d
  induction d with
  | zero =>
    intro x j hj h0 hx h
    refine ev_go h fun k => ?_
    rw [impl_SumMore.l1, if_neg (by omega)]
    rfl
  | succ d ih =>
    intro x j hj h0 hx h
    refine ev_go (ih (sumStep x) (j + 1) (by omega) (by omega) (sumStep_range x hx) h) fun k => ?_
    rw [impl_SumMore.l1, if_pos (by omega), u32_and1 x hx, w64 (n := j + 1) (by omega) (by omega)]
    unfold sumStep
    by_cases c : x % 2 = 1
    · rw [if_pos c, if_pos c]
    · rw [if_neg c, if_neg c]
theorem impl_SumMore_loop (s : ByteArray) (hs : s.size ≤ 140737488351232) : ∀ (d : Nat) (x : Int) (i : Nat), i + d = s.size → 0 ≤ x ∧ x < 4294967296 → Ev (fun k => impl_SumMore.l0 k x s (s.size : Int) (i : Int)) (sumL x ((bytesOf s).drop i)) := by
  intro d
  induction d with
  | zero =>
    intro x i hi hx
    refine ev_end fun k => ?_
    rw [impl_SumMore.l0, if_neg (by omega), List.drop_eq_nil_of_le (by rw [bytesOf_length]; omega)]
    rfl
  | succ d ih =>
    intro x i hi hx
    have hb := bt_lo s i
    have hb' := bt_hi s i
    rw [bytesOf_drop s i (by omega)]
    have hn := ih (sumByte x (bt s i)) (i + 1) (by omega) (sumByte_range _ _)
    refine ev_go (impl_SumMore_steps s i _ 8 (Go.bits .xor .u32 x (bt s i)) 0 (by omega) (by omega) (bits_u32_range _ _ _ rfl) ?_) fun k => ?_
    · rw [w64 (by omega) (by omega)]
      exact hn
    · rw [impl_SumMore.l0, if_pos (by omega), if_pos (by omega), if_pos (by omega), show bt s i % 4294967296 = bt s i by omega]
theorem impl_SumMore_fev (x : Int) (hx : 0 ≤ x ∧ x < 4294967296) (s : ByteArray) (hs : s.size ≤ 140737488351232) : Ev (fun k => impl_SumMore.f k x s) (sumR x s) :=
  impl_SumMore_loop s hs s.size x 0 (by omega) hx
theorem impl_SumOf_fev (s : ByteArray) (hs : s.size ≤ 140737488351232) : Ev (fun k => impl_SumOf.f k s) (sumR 4294967295 s) :=
  ev_call (impl_SumMore_fev 4294967295 (by omega) s hs) (Ev.now _) fun _ => rfl
theorem impl_seal_fev (s : ByteArray) (hs : s.size ≤ 140737488351232) : Ev (fun k => impl_seal.f k s) (sealB s) :=
  ev_call (impl_SumOf_fev s hs) (Ev.now _) fun _ => rfl
theorem impl_MetaText_inner (F : List S113) (n i : Int) (P : List Int) (hP : P.length ≤ 40) (hp : ∀ p ∈ P, 0 ≤ p ∧ p ≤ 1000000000) (r : ByteArray × Bool) : ∀ (d j : Nat) (acc : ByteArray), j + d = P.length → acc.size + 10 * d ≤ 1000000000 → Ev (fun k => impl_MetaText.l0 k (acc ++ pagesB (P.drop j)) F n (wrap64 (i + 1))) r → Ev (fun k => impl_MetaText.l1 k acc F n i P (P.length : Int) (j : Int)) r := by
  intro d
  induction d with
  | zero =>
    intro j acc hj ha rest
    rw [List.drop_eq_nil_of_le (by omega)] at rest
    have e : acc ++ pagesB [] = acc := ByteArray.append_empty
    rw [e] at rest
    refine ev_go rest fun k => ?_
    rw [impl_MetaText.l1, if_neg (by omega)]
  | succ d ih =>
    intro j acc hj ha rest
    have hm := hp _ (rd_mem P j (by omega))
    have hz := varB_size_int (rd P (j : Int)) hm.2
    obtain ⟨K1, e1⟩ := impl_varText_fev (rd P (j : Int)) hm.1 (by omega)
    rw [drop_rd P j (by omega), pagesB, ← ByteArray.append_assoc] at rest
    obtain ⟨K2, e2⟩ := ih (j + 1) (acc ++ varB (rd P (j : Int)).toNat) (by omega) (by rw [ByteArray.size_append]; omega) rest
    dsimp only at e1 e2
    refine ev_succ ⟨K1 + K2, fun k hk => ?_⟩
    rw [impl_MetaText.l1, if_pos (by omega), if_pos (by omega), if_pos (by omega), e1 k (by omega), Option.bind_some, if_pos (by omega), w64 (by omega) (by omega)]
    exact e2 k (by omega)
theorem impl_MetaText_loop (F : List S113) (hF : F.length ≤ 1000) (hf : FreeFits F) : ∀ (d i : Nat) (acc : ByteArray), i + d = F.length → acc.size + 420 * d ≤ 1000000 → Ev (fun k => impl_MetaText.l0 k acc F (F.length : Int) (i : Int)) (metaFin (acc ++ freesB (F.drop i))) := by
  intro d
  induction d with
  | zero =>
    intro i acc hi ha
    rw [List.drop_eq_nil_of_le (by omega)]
    have e : acc ++ freesB ([] : List S113) = acc := ByteArray.append_empty
    rw [e]
    obtain ⟨K1, e1⟩ := impl_seal_fev acc (by omega)
    dsimp only at e1
    have hz := sealB_size acc
    refine ev_succ ⟨K1, fun k hk => ?_⟩
    rw [impl_MetaText.l0, if_neg (by omega), e1 k hk, Option.bind_some, if_pos (by omega)]
    unfold metaFin
    by_cases c : (acc.size : Int) + 4 > 240
    · rw [if_pos (by rw [ByteArray.size_append]; omega), if_pos c]
    · rw [if_neg (by rw [ByteArray.size_append]; omega), if_neg c]
  | succ d ih =>
    intro i acc hi ha
    obtain ⟨q1, q2, q3, q4⟩ : 0 ≤ (rd_T113 F (i : Int)).f0 ∧ (rd_T113 F (i : Int)).f0 ≤ 1000000000 ∧ (rd_T113 F (i : Int)).f1.length ≤ 40 ∧ ∀ p ∈ (rd_T113 F (i : Int)).f1, 0 ≤ p ∧ p ≤ 1000000000 := hf _ (rdOf_mem z113 F i (by omega))
    have z1 := varB_size_int _ q2
    have z2 := varB_size_le (rd_T113 F (i : Int)).f1.length (by omega)
    have z3 := pagesB_size _ (fun p hp => (q4 p hp).2)
    obtain ⟨K1, e1⟩ := impl_varText_fev (rd_T113 F (i : Int)).f0 q1 (by omega)
    obtain ⟨K2, e2⟩ := impl_varText_fev ((rd_T113 F (i : Int)).f1.length : Int) (by omega) (by omega)
    rw [Int.toNat_natCast] at e2
    have hr := ih (i + 1) (acc ++ freeB (rd_T113 F (i : Int))) (by omega) (by unfold freeB; rw [ByteArray.size_append, ByteArray.size_append, ByteArray.size_append]; omega)
    have hd : F.drop i = rd_T113 F (i : Int) :: F.drop (i + 1) := drop_rdOf z113 F i (by omega)
    rw [hd, freesB, ← ByteArray.append_assoc]
    obtain ⟨K3, e3⟩ := impl_MetaText_inner F (F.length : Int) (i : Int) (rd_T113 F (i : Int)).f1 q3 q4 _ (rd_T113 F (i : Int)).f1.length 0 (acc ++ (varB (rd_T113 F (i : Int)).f0.toNat ++ varB (rd_T113 F (i : Int)).f1.length)) (by omega) (by rw [ByteArray.size_append, ByteArray.size_append]; omega) (by
      rw [List.drop_zero, ByteArray.append_assoc, w64 (by omega) (by omega)]
      exact hr)
    dsimp only at e1 e2 e3
    refine ev_succ ⟨K1 + K2 + K3, fun k hk => ?_⟩
    rw [impl_MetaText.l0, if_pos (by omega), if_pos (by omega), if_pos (by omega), e1 k (by omega), Option.bind_some, e2 k (by omega), Option.bind_some, if_pos (by omega), if_pos (by rw [ByteArray.size_append]; omega)]
    exact e3 k (by omega)
theorem impl_MetaText_fev (tx root next : Int) (F : List S113) (hF : F.length ≤ 1048576) (hs : ∀ x ∈ F, x.f1.length ≤ 1048576) : Ev (fun k => impl_MetaText.f k tx root next F) (metaTextR tx root next F) := by
  obtain ⟨K1, e1⟩ := impl_MetaOk_fev tx root next F hF hs
  dsimp only at e1
  unfold metaTextR
  cases h : metaOkR tx root next F with
  | false =>
    refine ⟨K1, fun k hk => ?_⟩
    dsimp only
    unfold impl_MetaText.f
    rw [e1 k hk, Option.bind_some, h, if_neg (by decide), if_neg (by decide)]
  | true =>
    obtain ⟨h1, h2, h3, h4, h5, h6, h7⟩ := metaOkR_tells h
    have a1 := varB_size_int tx (by omega)
    have a2 := varB_size_int root (by omega)
    have a3 := varB_size_int next (by omega)
    have a4 := varB_size_le F.length (by omega)
    obtain ⟨K2, e2⟩ := impl_varText_fev tx h1 (by omega)
    obtain ⟨K3, e3⟩ := impl_varText_fev root (by omega) (by omega)
    obtain ⟨K4, e4⟩ := impl_varText_fev next (by omega) (by omega)
    obtain ⟨K5, e5⟩ := impl_varText_fev (F.length : Int) (by omega) (by omega)
    rw [Int.toNat_natCast] at e5
    obtain ⟨K6, e6⟩ := impl_MetaText_loop F (by omega) (metaOkR_fits h) F.length 0 (((varB tx.toNat ++ varB root.toNat) ++ varB next.toNat) ++ varB F.length) (by omega) (by rw [ByteArray.size_append, ByteArray.size_append, ByteArray.size_append]; omega)
    dsimp only at e2 e3 e4 e5 e6
    refine ⟨K1 + K2 + K3 + K4 + K5 + K6, fun k hk => ?_⟩
    dsimp only
    unfold impl_MetaText.f
    rw [e1 k (by omega), Option.bind_some, h, if_pos rfl, if_pos rfl, e2 k (by omega), Option.bind_some, e3 k (by omega), Option.bind_some, if_pos (by omega), e4 k (by omega), Option.bind_some, if_pos (by rw [ByteArray.size_append]; omega), e5 k (by omega), Option.bind_some, if_pos (by rw [ByteArray.size_append, ByteArray.size_append]; omega)]
    exact e6 k (by omega)
end Go.Proofs.Ytbjlpmhhcigkdaa.VFnExactMetaText
namespace Go.Proofs.Ytbjlpmhhcigkdaa.Pure
open Go.Proofs.Ytbjlpmhhcigkdaa.VFnExactMetaText
set_option linter.unusedVariables false
set_option linter.unusedSimpArgs false
open Go Go.RowKit Go.Proofs.YtbjlpmhhcigkdaaW.PrintWords Go.Proofs.YtbjlpmhhcigkdaaW.PrintLast Go.Proofs.YtbjlpmhhcigkdaaW.PrintMore
theorem FnExactMetaText (tx root next : Int) (frees : List S151) (_ : (Lit.int .i64 tx).wf = true) (_ : (Lit.int .i64 root).wf = true) (_ : (Lit.int .i64 next).wf = true) (h1 : frees.length ≤ 9223372036854775807) (h2 : ∀ x ∈ frees, (Lit.int .i64 x.f0).wf = true ∧ x.f1.length ≤ 9223372036854775807 ∧ ∀ y ∈ x.f1, (Lit.int .i64 y).wf = true) : ∃ k, laws_FnExactMetaText.f k tx root next frees = some true := by
  obtain ⟨K1, e1⟩ := laws_szMeta_fev tx root next frees h1 (fun x hx => (h2 x hx).2.1) 1048576 (by omega) (by omega)
  dsimp only at e1
  by_cases c : szMetaR frees 1048576 < 0
  · refine ⟨K1, ?_⟩
    unfold laws_FnExactMetaText.f
    rw [e1 _ (Nat.le_refl _), Option.bind_some, if_pos c]
  · have ht := szMetaR_tells frees 1048576 (by omega)
    have hin : ∀ x ∈ frees, x.f1.length ≤ 1048576 := fun x hx => by have := ht.2.2 x hx; omega
    obtain ⟨K2, e2⟩ := laws_toMeta_fev tx root next frees (by omega) hin
    have hm : (frees.map convFree).length = frees.length := by simp
    have hs : ∀ x ∈ frees.map convFree, x.f1.length ≤ 1048576 := by
      intro x hx
      obtain ⟨y, hy, rfl⟩ := List.mem_map.1 hx
      exact hin y hy
    generalize frees.map convFree = F at hm hs e2
    obtain ⟨K3, e3⟩ := spec_MetaText_fev tx root next F (by omega) hs
    obtain ⟨K4, e4⟩ := impl_MetaText_fev tx root next F (by omega) hs
    obtain ⟨K5, e5⟩ := laws_eqMeta_same tx root next F (by omega) (fun x hx => by have := hs x hx; omega)
    dsimp only at e2 e3 e4 e5
    refine ⟨K1 + K2 + K3 + K4 + K5 + 1, ?_⟩
    unfold laws_FnExactMetaText.f
    rw [e1 _ (by omega), Option.bind_some, if_neg c, e2 _ (by omega), Option.bind_some, e3 _ (by omega), Option.bind_some, Option.bind_some, e4 _ (by omega), Option.bind_some, if_pos rfl, bne_self_eq_false, laws_FnExactMetaText.j0, if_neg (by decide), e2 _ (by omega), Option.bind_some, e5 _ (by omega), Option.bind_some, if_pos rfl]
end Go.Proofs.Ytbjlpmhhcigkdaa.Pure
