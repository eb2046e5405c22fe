/- The printed form of FnExactNodeText answers true at every input that its bounds let in; no other conditions. -/
import Derived.Test.YtkobbccjjglfmaaVFnExactNodeTextx7
import Derived.Test.YtkobbccjjglfmaaG
import Derived.Lib.Bytealg
namespace Go.Proofs.Ytkobbccjjglfmaa.VFnExactNodeText
set_option linter.unusedVariables false
set_option linter.unusedSimpArgs false
open Go Go.RowKit Go.Proofs.YtkobbccjjglfmaaW.PrintWords Go.Proofs.YtkobbccjjglfmaaW.PrintLast Go.Proofs.YtkobbccjjglfmaaW.PrintMore
theorem w64 {n : Int} (h : -9223372036854775808 ≤ n) (h' : n ≤ 9223372036854775807) : wrap64 n = n := by
  unfold wrap64; omega
theorem ev_some {α : Type} {g : Nat → Option α} {r : α} (h : ∀ k, g k = some r) : Ev g r := ⟨0, fun k _ => h k⟩
theorem ev_succ {α : Type} {g : Nat → Option α} {r : α} (h : ∃ K, ∀ k, K ≤ k → g (k + 1) = some r) : Ev g r := by
  obtain ⟨K, h⟩ := h
  refine ⟨K + 1, fun k hk => ?_⟩
  obtain ⟨m, rfl⟩ : ∃ m, k = m + 1 := ⟨k - 1, by omega⟩
  exact h m (by omega)
/-- One round that goes on. -/
theorem ev_go {α : Type} {g f : Nat → Option α} {r : α} (hf : Ev f r) (h : ∀ k, g (k + 1) = f k) : Ev g r := Ev.step h hf
/-- One round that ends. -/
theorem ev_end {α : Type} {g : Nat → Option α} {r : α} (h : ∀ k, g (k + 1) = some r) : Ev g r := ev_succ ⟨0, fun k _ => h k⟩
/-- One call, then the rest. -/
theorem ev_call {α β : Type} {g : Nat → Option α} {f : Nat → Option β} {c : Nat → β → Option α} {b : β} {r : α} (hf : Ev f b) (hc : Ev (fun k => c k b) r) (h : ∀ k, g k = (f k).bind (c k)) : Ev g r :=
  Ev.congr h (Ev.bind hf hc)
theorem bt_lo (s : ByteArray) (i : Int) : 0 ≤ bt s i := (bt_range s i).1
theorem bt_hi (s : ByteArray) (i : Int) : bt s i ≤ 255 := (bt_range s i).2
theorem bytesOf_drop (s : ByteArray) (i : Nat) (h : i < s.size) : (bytesOf s).drop i = bt s (i : Int) :: (bytesOf s).drop (i + 1) := by
  have hl : i < (bytesOf s).length := by rw [bytesOf_length]; exact h
  rw [List.drop_eq_getElem_cons hl]
  congr 1
  rw [← rd_bytesOf s (i : Int)]
  unfold rd
  rw [Int.toNat_natCast]
  simp [List.getD, hl]
theorem bytesOf_append (s t : ByteArray) : bytesOf (s ++ t) = bytesOf s ++ bytesOf t := by
  unfold bytesOf
  rw [ByteArray.data_append, Array.toList_append, List.map_append]
def varL (n : Nat) : List Int := if n > 127 then ((n : Int) % 128 + 128) :: varL (n / 128) else [(n : Int)]
termination_by n
decreasing_by omega
theorem varL_big {n : Nat} (h : n > 127) : varL n = ((n : Int) % 128 + 128) :: varL (n / 128) := by rw [varL, if_pos h]
theorem varL_small {n : Nat} (h : ¬ n > 127) : varL n = [(n : Int)] := by rw [varL, if_neg h]
theorem varL_length_le (j : Nat) : ∀ n : Nat, n < 128 ^ j → (varL n).length ≤ max j 1 := by
  induction j with
  | zero => intro n hn; simp at hn; subst hn; rw [varL_small (by omega)]; simp
  | succ j ih =>
    intro n hn
    by_cases h : n > 127
    · rw [varL_big h]
      have : n / 128 < 128 ^ j := by rw [Nat.pow_succ] at hn; exact Nat.div_lt_of_lt_mul (by omega)
      have := ih _ this
      cases j with
      | zero => omega
      | succ j => simp only [List.length_cons]; omega
    · rw [varL_small h, List.length_singleton]; omega
def varB (n : Nat) : ByteArray := strOfNums (varL n)
theorem varB_size (n : Nat) : (varB n).size = (varL n).length := strOfNums_size _
theorem varB_size_le (n : Nat) (h : n ≤ 9223372036854775807) : (varB n).size ≤ 10 := by
  rw [varB_size]
  have := varL_length_le 10 n (by omega)
  omega
theorem i64_and127 (x : Int) (h₀ : 0 ≤ x) (h₁ : x ≤ 9223372036854775807) : Go.bits .and .i64 x 127 = x % 128 :=
  Go.bits_mask .i64 63 (by decide) (fun n a b => by rw [IntKind.wrap_i64]; omega) 7 (by decide) x h₀ (by omega)
theorem i64_or_join (i : Nat) (x y : Int) (hx₀ : 0 ≤ x) (hx : x % 2 ^ i = 0) (hx₁ : x ≤ 9223372036854775807) (hy₀ : 0 ≤ y) (hy : y < 2 ^ i) (hy₁ : y ≤ 9223372036854775807) : Go.bits .or .i64 x y = x + y :=
  Go.bits_join .i64 63 (by decide) (fun n a b => by rw [IntKind.wrap_i64]; omega) i x y hx₀ hx (by omega) hy₀ hy (by omega)
theorem i64_or_comm (x y : Int) : Go.bits .or .i64 x y = Go.bits .or .i64 y x := by
  unfold Go.bits
  simp only [BitVec.or_comm]
theorem i64_or128 (x : Int) (h₀ : 0 ≤ x) (h₁ : x < 128) : Go.bits .or .i64 x 128 = x + 128 := by
  rw [i64_or_comm, i64_or_join 7 128 x (by omega) (by decide) (by omega) h₀ (by omega) (by omega)]
  omega
def shortB (s : ByteArray) : ByteArray := varB s.size ++ s
def sumStep (x : Int) : Int := if x % 2 = 1 then Go.bits .xor .u32 (x / 2) 3558460437 else x / 2
def sumSteps : Nat → Int → Int
  | 0, x => x
  | n + 1, x => sumSteps n (sumStep x)
def sumByte (x b : Int) : Int := sumSteps 8 (Go.bits .xor .u32 x b)
def sumL : Int → List Int → Int
  | x, [] => x
  | x, b :: t => sumL (sumByte x b) t
def sumR (x : Int) (s : ByteArray) : Int := sumL x (bytesOf s)
def fourB (n : Int) : ByteArray := strOfNums ([(n / 16777216) % 256, (n / 65536) % 256, (n / 256) % 256, n % 256] : List Int)
def sealB (s : ByteArray) : ByteArray := fourB (sumR 4294967295 s)
theorem bits_u32_range (o : BinOp) (x y : Int) (h : o = .xor) : 0 ≤ Go.bits o .u32 x y ∧ Go.bits o .u32 x y < 4294967296 := by
  subst h
  unfold Go.bits
  simp only
  rw [IntKind.wrap_u32]
  omega
theorem sumStep_range (x : Int) (h : 0 ≤ x ∧ x < 4294967296) : 0 ≤ sumStep x ∧ sumStep x < 4294967296 := by
  unfold sumStep
  split
  · exact bits_u32_range _ _ _ rfl
  · omega
theorem sumSteps_range (n : Nat) : ∀ x : Int, 0 ≤ x ∧ x < 4294967296 → 0 ≤ sumSteps n x ∧ sumSteps n x < 4294967296 := by
  induction n with
  | zero => exact fun x h => h
  | succ n ih => exact fun x h => ih _ (sumStep_range x h)
theorem sumByte_range (x b : Int) : 0 ≤ sumByte x b ∧ sumByte x b < 4294967296 := sumSteps_range 8 _ (bits_u32_range _ _ _ rfl)
theorem u32_and1 (x : Int) (h : 0 ≤ x ∧ x < 4294967296) : Go.bits .and .u32 x 1 = x % 2 :=
  Go.bits_mask .u32 32 (by decide) (fun n a b => by rw [IntKind.wrap_u32]; omega) 1 (by decide) x h.1 (by omega)
theorem fourB_size (n : Int) : (fourB n).size = 4 := by unfold fourB; rw [strOfNums_size]; rfl
theorem sealB_size (s : ByteArray) : (sealB s).size = 4 := fourB_size _
def sealedR (s : ByteArray) : ByteArray × Bool := if (s.size : Int) > 20000 then (⟨#[]⟩, false) else (s ++ sealB s, true)
section
variable {α β : Type}
theorem drop_rdOf (d : α) (xs : List α) (i : Nat) (h : i < xs.length) : xs.drop i = rdOf d xs (i : Int) :: xs.drop (i + 1) := by
  rw [List.drop_eq_getElem_cons h]
  congr 1
  unfold rdOf
  rw [Int.toNat_natCast]
  simp [List.getD, h]
theorem drop_rd (xs : List Int) (i : Nat) (h : i < xs.length) : xs.drop i = rd xs (i : Int) :: xs.drop (i + 1) := by
  rw [List.drop_eq_getElem_cons h]
  congr 1
  unfold rd
  rw [Int.toNat_natCast]
  simp [List.getD, h]
theorem rdOf_get (d : α) (xs : List α) (i : Nat) (h : i < xs.length) : rdOf d xs (i : Int) = xs[i] := by
  unfold rdOf
  rw [Int.toNat_natCast]
  simp [List.getD, h]
theorem rd_get (xs : List Int) (i : Nat) (h : i < xs.length) : rd xs (i : Int) = xs[i] := by
  unfold rd
  rw [Int.toNat_natCast]
  simp [List.getD, h]
theorem rdOf_mem (d : α) (xs : List α) (i : Nat) (h : i < xs.length) : rdOf d xs (i : Int) ∈ xs := by
  rw [rdOf_get d xs i h]; exact List.getElem_mem h
theorem rd_mem (xs : List Int) (i : Nat) (h : i < xs.length) : rd xs (i : Int) ∈ xs := by
  rw [rd_get xs i h]; exact List.getElem_mem h
theorem set_mid (pre t : List α) (x v : α) (i : Nat) (h : pre.length = i) : (pre ++ x :: t).set i v = pre ++ v :: t := by
  subst h
  rw [List.set_append_right _ _ (Nat.le_refl _)]
  simp
/-- What is left of a measure behind a list. -/
def szL (w : α → Int) : List α → Int → Int
  | [], left => left
  | x :: t, left => if left - w x < 0 then -1 else szL w t (left - w x)
def szR (w : α → Int) (l : List α) (left : Int) : Int := if left - (l.length : Int) < 0 then -1 else szL w l (left - (l.length : Int))
def sumW (w : α → Int) : List α → Int
  | [] => 0
  | x :: t => w x + sumW w t
theorem sumW_nonneg (w : α → Int) (l : List α) (h : ∀ x ∈ l, 0 ≤ w x) : 0 ≤ sumW w l := by
  induction l with
  | nil => exact Int.le_refl 0
  | cons x t ih =>
    have h1 := h x (by simp)
    have h2 := ih (fun y hy => h y (by simp [hy]))
    unfold sumW
    omega
theorem szL_tells (w : α → Int) (l : List α) (h : ∀ x ∈ l, 0 ≤ w x) : ∀ left : Int, 0 ≤ szL w l left → szL w l left = left - sumW w l := by
  induction l with
  | nil => intro left _; unfold szL sumW; omega
  | cons x t ih =>
    intro left hl
    unfold szL at hl ⊢
    unfold sumW
    split
    · rename_i hc; rw [if_pos hc] at hl; omega
    · rename_i hc
      rw [if_neg hc] at hl
      rw [ih (fun y hy => h y (by simp [hy])) _ hl]
      omega
theorem szR_tells (w : α → Int) (l : List α) (h : ∀ x ∈ l, 0 ≤ w x) (left : Int) (hl : 0 ≤ szR w l left) : szR w l left = left - (l.length : Int) - sumW w l ∧ 0 ≤ sumW w l := by
  unfold szR at hl ⊢
  have h0 := sumW_nonneg w l h
  split
  · rename_i hc; rw [if_pos hc] at hl; omega
  · rename_i hc
    rw [if_neg hc] at hl
    exact ⟨szL_tells w l h _ hl, h0⟩
theorem szR_le (w : α → Int) (l : List α) (h : ∀ x ∈ l, 0 ≤ w x) (left : Int) (h0 : 0 ≤ szR w l left) : szR w l left ≤ left := by
  have := szR_tells w l h left h0
  omega
end
def bwt (s : ByteArray) : Int := (s.size : Int)
theorem bwt_nonneg (s : ByteArray) : 0 ≤ bwt s := by unfold bwt; omega
theorem idxP_step {α : Type} (p : α → Bool) (x : α) (t : List α) (i : Int) : idxP p (x :: t) i = if p x = true then i else idxP p t (i + 1) := rfl
theorem in_dec (x a b : Int) : (if x ≥ a then some (decide (x ≤ b)) else some false) = some (decide (a ≤ x ∧ x ≤ b)) := by
  by_cases c : x ≥ a
  · rw [if_pos c]
    congr 1
    by_cases d : x ≤ b
    · rw [decide_eq_true d, decide_eq_true ⟨c, d⟩]
    · rw [decide_eq_false d, decide_eq_false (fun h => d h.2)]
  · rw [if_neg c, decide_eq_false (fun h => c h.1)]
def Took (s : ByteArray) (a b : Int) (x : ByteArray) : Prop := 0 ≤ a ∧ b ≤ (s.size : Int) ∧ b = a + (x.size : Int) ∧ (bytesOf s).drop a.toNat = bytesOf x ++ (bytesOf s).drop b.toNat
theorem Took.all (s x t : ByteArray) : Took (s ++ x ++ t) (s.size : Int) ((s.size : Int) + (x.size : Int)) x := by
  refine ⟨by omega, by rw [ByteArray.size_append, ByteArray.size_append]; omega, rfl, ?_⟩
  have e1 : (bytesOf s).length = s.size := bytesOf_length s
  have e2 : (bytesOf x).length = x.size := bytesOf_length x
  have e3 : ((s.size : Int) + (x.size : Int)).toNat = s.size + x.size := by omega
  have l1 : ((bytesOf s) ++ (bytesOf x ++ bytesOf t)).drop s.size = bytesOf x ++ bytesOf t := List.drop_left' e1
  have l2 : ((bytesOf s) ++ (bytesOf x ++ bytesOf t)).drop (s.size + x.size) = bytesOf t := by rw [← List.drop_drop, l1]; exact List.drop_left' e2
  rw [bytesOf_append, bytesOf_append, List.append_assoc, Int.toNat_natCast, e3, l1, l2]
/-- A loop that goes on while p holds of the place. -/
theorem ev_every {α : Type} (g : Nat → Nat → Option α) (p : Nat → Bool) (n : Nat) {r e : α} (h0 : Ev (fun k => g k n) r) (h1 : ∀ i, i < n → p i = true → ∀ res, Ev (fun k => g k (i + 1)) res → Ev (fun k => g k i) res) (h2 : ∀ i, i < n → p i = false → Ev (fun k => g k i) e) : ∀ d i : Nat, i + d = n → Ev (fun k => g k i) (if (List.range' i d).all p = true then r else e) := by
  intro d
  induction d with
  | zero =>
    intro i hi
    have : i = n := by omega
    subst this
    exact h0
  | succ d ih =>
    intro i hi
    rw [List.range'_succ, List.all_cons]
    cases hp : p i with
    | false => exact h2 i (by omega) hp
    | true => exact h1 i (by omega) hp _ (ih (i + 1) (by omega))
theorem ite_ff (b c : Bool) : (if b = true then c else false) = (b && c) := by cases b <;> rfl
theorem ite_tf (b : Bool) : (if b = true then true else false) = b := by cases b <;> rfl
theorem all_and (l : List Nat) (p q : Nat → Bool) : (l.all fun i => p i && q i) = (l.all p && l.all q) := by
  induction l with
  | nil => rfl
  | cons x t ih =>
    rw [List.all_cons, List.all_cons, List.all_cons, ih]
    cases p x <;> cases q x <;> cases t.all p <;> cases t.all q <;> rfl
theorem range_all_iff (n : Nat) (p : Nat → Bool) : (List.range' 0 n).all p = true ↔ ∀ i, i < n → p i = true := by
  rw [List.all_eq_true]
  constructor
  · intro h i hi; exact h i (by rw [List.mem_range'_1]; omega)
  · intro h i hi; exact h i (by rw [List.mem_range'_1] at hi; omega)
/-- A test of all elements, by their places. -/
theorem any_places {α : Type} (d : α) (p : α → Bool) (l : List α) : (List.range' 0 l.length).all (fun i => !p (rdOf d l (i : Int))) = !(l.any p) := by
  have h : ((List.range' 0 l.length).all (fun i => !p (rdOf d l (i : Int))) = true) ↔ (!(l.any p)) = true := by
    rw [range_all_iff]
    simp only [Bool.not_eq_true', List.any_eq_false]
    constructor
    · intro h x hx
      obtain ⟨i, hi, rfl⟩ := List.getElem_of_mem hx
      have := h i hi
      rw [rdOf_get d l i hi] at this
      rw [this]; decide
    · intro h i hi
      have := h _ (rdOf_mem d l i hi)
      simpa using this
  cases h1 : (List.range' 0 l.length).all (fun i => !p (rdOf d l (i : Int))) <;> cases h2 : !(l.any p) <;> rw [h1, h2] at h <;> simp at h ⊢
theorem headD_drop_rdOf {α : Type} (d : α) (l : List α) (i : Nat) : (l.drop i).headD d = rdOf d l (i : Int) := by
  unfold rdOf
  rw [Int.toNat_natCast]
  by_cases h : i < l.length
  · rw [List.drop_eq_getElem_cons h]; simp [List.getD, h]
  · rw [List.drop_eq_nil_of_le (by omega)]; simp [List.getD, Nat.le_of_not_lt h]
theorem headD_drop_rd (l : List Int) (i : Nat) : (l.drop i).headD 0 = rd l (i : Int) := headD_drop_rdOf 0 l i
def ascAt (l : List ByteArray) (i : Nat) : Bool := decide (i = 0) || Op.bytesLess (rdOf ByteArray.empty l ((i : Int) - 1)).toList (rdOf ByteArray.empty l (i : Int)).toList
def fitAt (most : Int) (l : List ByteArray) (i : Nat) : Bool := !decide (((rdOf ByteArray.empty l (i : Int)).size : Int) > most)
def kidAt (l : List Int) (i : Nat) : Bool := decide (2 ≤ rd l (i : Int) ∧ rd l (i : Int) ≤ 39) && !((l.take i).any fun x => decide (x = rd l (i : Int)))
def nodeOkR (leaf : Bool) (keys vals : List ByteArray) (kids : List Int) : Bool :=
  decide (1 ≤ (keys.length : Int) ∧ (keys.length : Int) ≤ 4) && (List.range' 0 keys.length).all (ascAt keys) && (List.range' 0 keys.length).all (fitAt 24 keys) &&
  if leaf = true then decide (vals.length = keys.length) && (List.range' 0 vals.length).all (fitAt 24 vals) && decide (kids.length = 0)
  else (List.range' 0 kids.length).all (kidAt kids) && decide (kids.length = keys.length) && decide (vals.length = 0)
theorem nodeOkR_tells {leaf : Bool} {keys vals : List ByteArray} {kids : List Int} (h : nodeOkR leaf keys vals kids = true) : 1 ≤ keys.length ∧ keys.length ≤ 4 ∧ (∀ k ∈ keys, k.size ≤ 24) ∧ (leaf = true → vals.length = keys.length ∧ kids = [] ∧ ∀ v ∈ vals, v.size ≤ 24) ∧ (leaf = false → kids.length = keys.length ∧ vals = [] ∧ ∀ c ∈ kids, 2 ≤ c ∧ c ≤ 39) := by
  have fits : ∀ (l : List ByteArray), (List.range' 0 l.length).all (fitAt 24 l) = true → ∀ k ∈ l, k.size ≤ 24 := by
    intro l h k hk
    obtain ⟨i, hi, rfl⟩ := List.getElem_of_mem hk
    have := (range_all_iff _ _).1 h i hi
    unfold fitAt at this
    rw [rdOf_get _ l i hi] at this
    simp at this
    omega
  unfold nodeOkR at h
  rw [Bool.and_eq_true, Bool.and_eq_true, Bool.and_eq_true, decide_eq_true_eq] at h
  obtain ⟨⟨⟨h1, h2⟩, h3⟩, h4⟩ := h
  refine ⟨by omega, by omega, fits _ h3, fun hl => ?_, fun hl => ?_⟩
  · rw [if_pos hl, Bool.and_eq_true, Bool.and_eq_true, decide_eq_true_eq, decide_eq_true_eq] at h4
    exact ⟨h4.1.1, List.eq_nil_of_length_eq_zero h4.2, fits _ h4.1.2⟩
  · rw [if_neg (by rw [hl]; decide), Bool.and_eq_true, Bool.and_eq_true, decide_eq_true_eq, decide_eq_true_eq] at h4
    refine ⟨h4.1.2, List.eq_nil_of_length_eq_zero h4.2, fun c hc => ?_⟩
    obtain ⟨i, hi, rfl⟩ := List.getElem_of_mem hc
    have := (range_all_iff _ _).1 h4.1.1 i hi
    unfold kidAt at this
    rw [rd_get kids i hi, Bool.and_eq_true, decide_eq_true_eq] at this
    exact this.1
/-- What stands of a node behind how many. -/
def entsL (leaf : Bool) : List ByteArray → List ByteArray → List Int → ByteArray
  | [], _, _ => ⟨#[]⟩
  | k :: ks, vs, cs => (shortB k ++ (if leaf = true then shortB (vs.headD ByteArray.empty) else varB (cs.headD 0).toNat)) ++ entsL leaf ks vs.tail cs.tail
def nodeHead (leaf : Bool) (n : Nat) : ByteArray := (if leaf = true then (⟨#[108]⟩ : ByteArray) else (⟨#[98]⟩ : ByteArray)) ++ varB n
def nodeB (leaf : Bool) (keys vals : List ByteArray) (kids : List Int) : ByteArray := nodeHead leaf keys.length ++ entsL leaf keys vals kids
theorem shortB_size_upto (s : ByteArray) (m : Nat) (h : s.size ≤ m) (hm : m ≤ 1000000) : (shortB s).size ≤ 10 + m := by
  unfold shortB
  rw [ByteArray.size_append]
  have := varB_size_le s.size (by omega)
  omega
theorem entsL_size (leaf : Bool) (keys : List ByteArray) : ∀ (vals : List ByteArray) (kids : List Int), (∀ k ∈ keys, k.size ≤ 24) → (leaf = true → ∀ v ∈ vals, v.size ≤ 24) → (leaf = false → ∀ c ∈ kids, 0 ≤ c ∧ c ≤ 1000000000) → (entsL leaf keys vals kids).size ≤ 68 * keys.length := by
  induction keys with
  | nil => intro vals kids _ _ _; exact Nat.zero_le _
  | cons k ks ih =>
    intro vals kids h1 h2 h3
    unfold entsL
    rw [ByteArray.size_append, ByteArray.size_append, List.length_cons]
    have a1 := shortB_size_upto k 24 (h1 k (by simp)) (by omega)
    have a2 := ih vals.tail kids.tail (fun x hx => h1 x (by simp [hx])) (fun hl x hx => h2 hl x (List.mem_of_mem_tail hx)) (fun hl x hx => h3 hl x (List.mem_of_mem_tail hx))
    have a3 : (if leaf = true then shortB (vals.headD ByteArray.empty) else varB (kids.headD 0).toNat).size ≤ 34 := by
      cases leaf with
      | true =>
        rw [if_pos rfl]
        refine shortB_size_upto _ 24 ?_ (by omega)
        cases vals with
        | nil => exact Nat.zero_le _
        | cons v vs => exact h2 rfl v (by simp)
      | false =>
        rw [if_neg (by decide)]
        have : (kids.headD 0).toNat ≤ 1000000000 := by
          cases kids with
          | nil => exact Nat.zero_le _
          | cons v vs => have := h3 rfl v (by simp); show v.toNat ≤ _; omega
        have := varB_size_le (kids.headD 0).toNat (by omega)
        omega
    omega
theorem nodeB_size {leaf : Bool} {keys vals : List ByteArray} {kids : List Int} (h : nodeOkR leaf keys vals kids = true) : (nodeB leaf keys vals kids).size ≤ 283 := by
  obtain ⟨h1, h2, h3, h4, h5⟩ := nodeOkR_tells h
  have := entsL_size leaf keys vals kids h3 (fun hl => (h4 hl).2.2) (fun hl c hc => by have := (h5 hl).2.2 c hc; omega)
  have hv := varB_size_le keys.length (by omega)
  have hh : (if leaf = true then (⟨#[108]⟩ : ByteArray) else (⟨#[98]⟩ : ByteArray)).size = 1 := by cases leaf <;> rfl
  unfold nodeB nodeHead
  rw [ByteArray.size_append, ByteArray.size_append, hh]
  omega
def nodeTextR (leaf : Bool) (keys vals : List ByteArray) (kids : List Int) : ByteArray × Bool :=
  if nodeOkR leaf keys vals kids = true then (nodeB leaf keys vals kids ++ sealB (nodeB leaf keys vals kids), true) else (⟨#[]⟩, false)
def entAt (leaf : Bool) (keys vals : List ByteArray) (kids : List Int) (i : Nat) : ByteArray := shortB (rdOf ByteArray.empty keys (i : Int)) ++ (if leaf = true then shortB (rdOf ByteArray.empty vals (i : Int)) else varB (rd kids (i : Int)).toNat)
theorem entsL_step (leaf : Bool) (keys vals : List ByteArray) (kids : List Int) (i : Nat) (h : i < keys.length) : entsL leaf (keys.drop i) (vals.drop i) (kids.drop i) = entAt leaf keys vals kids i ++ entsL leaf (keys.drop (i + 1)) (vals.drop (i + 1)) (kids.drop (i + 1)) := by
  rw [drop_rdOf ByteArray.empty keys i h]
  show (shortB (rdOf ByteArray.empty keys (i : Int)) ++ (if leaf = true then shortB ((vals.drop i).headD ByteArray.empty) else varB ((kids.drop i).headD 0).toNat)) ++ entsL leaf (keys.drop (i + 1)) (vals.drop i).tail (kids.drop i).tail = _
  unfold entAt
  rw [headD_drop_rdOf, headD_drop_rd, List.tail_drop, List.tail_drop]
theorem entAt_parts {leaf : Bool} {keys vals : List ByteArray} {kids : List Int} (h : nodeOkR leaf keys vals kids = true) (i : Nat) (hi : i < keys.length) : (rdOf ByteArray.empty keys (i : Int)).size ≤ 24 ∧ (leaf = true → i < vals.length ∧ (rdOf ByteArray.empty vals (i : Int)).size ≤ 24) ∧ (leaf = false → i < kids.length ∧ 2 ≤ rd kids (i : Int) ∧ rd kids (i : Int) ≤ 39) := by
  obtain ⟨g1, g2, g3, g4, g5⟩ := nodeOkR_tells h
  refine ⟨g3 _ (rdOf_mem ByteArray.empty keys i hi), fun hl => ?_, fun hl => ?_⟩
  · obtain ⟨q1, _, q3⟩ := g4 hl
    exact ⟨by omega, q3 _ (rdOf_mem ByteArray.empty vals i (by omega))⟩
  · obtain ⟨q1, _, q3⟩ := g5 hl
    exact ⟨by omega, q3 _ (rd_mem kids i (by omega))⟩
theorem entAt_size {leaf : Bool} {keys vals : List ByteArray} {kids : List Int} (h : nodeOkR leaf keys vals kids = true) (i : Nat) (hi : i < keys.length) : (entAt leaf keys vals kids i).size ≤ 68 := by
  obtain ⟨h1, h2, h3⟩ := entAt_parts h i hi
  unfold entAt
  rw [ByteArray.size_append]
  have a1 := shortB_size_upto _ 24 h1 (by omega)
  cases leaf with
  | true =>
    rw [if_pos rfl]
    have a2 := shortB_size_upto _ 24 (h2 rfl).2 (by omega)
    omega
  | false =>
    rw [if_neg (by decide)]
    have := (h3 rfl).2
    have a2 := varB_size_le (rd kids (i : Int)).toNat (by omega)
    omega
theorem laws_szStringS_loop (l : List ByteArray) (hb : l.length ≤ 9223372036854775807) (hw : ∀ x ∈ l, 0 ≤ bwt x ∧ bwt x ≤ 9223372036854775807) : ∀ (d i : Nat) (left : Int), i + d = l.length → 0 ≤ left → left ≤ 9223372036854775807 → Ev (fun k => laws_szStringS.l0 k l left (i : Int)) (szL bwt (l.drop i) left) := by
  intro d
  induction d with
  | zero =>
    intro i left hi h0 h1
    refine ev_end fun k => ?_
    rw [laws_szStringS.l0, if_neg (by omega), List.drop_eq_nil_of_le (by omega)]
    rfl
  | succ d ih =>
    intro i left hi h0 h1
    have hx := hw _ (rdOf_mem ByteArray.empty l i (by omega))
    rw [drop_rdOf ByteArray.empty l i (by omega)]
    unfold szL
    have hu : bwt (rdOf ByteArray.empty l (i : Int)) = ((rdOf ByteArray.empty l (i : Int)).size : Int) := rfl
    by_cases c : left - bwt (rdOf ByteArray.empty l (i : Int)) < 0
    · rw [if_pos c]
      refine ev_end fun k => ?_
      rw [hu] at c hx
      rw [laws_szStringS.l0, if_pos (by omega), if_pos (by omega), w64 (by omega) (by omega), if_pos c]
    · rw [if_neg c]
      rw [hu] at c hx ⊢
      refine ev_go (ih (i + 1) _ (by omega) (by omega) (by omega)) fun k => ?_
      rw [laws_szStringS.l0, if_pos (by omega), if_pos (by omega), w64 (n := left - _) (by omega) (by omega), if_neg c, w64 (n := (i : Int) + 1) (by omega) (by omega)]
      rfl
theorem laws_szStringS_fev (l : List ByteArray) (hb : l.length ≤ 9223372036854775807) (hw : ∀ x ∈ l, 0 ≤ bwt x ∧ bwt x ≤ 9223372036854775807) (left : Int) (h0 : 0 ≤ left) (h1 : left ≤ 9223372036854775807) : Ev (fun k => laws_szStringS.f k l left) (szR bwt l left) := by
  unfold szR
  by_cases c : left - (l.length : Int) < 0
  · rw [if_pos c]
    refine ev_some fun k => ?_
    unfold laws_szStringS.f
    rw [w64 (by omega) (by omega), if_pos c]
  · rw [if_neg c]
    refine Ev.congr (fun k => ?_) (laws_szStringS_loop l hb hw l.length 0 (left - (l.length : Int)) (by omega) (by omega) (by omega))
    unfold laws_szStringS.f
    rw [w64 (by omega) (by omega), if_neg c]
    rfl
theorem laws_szIntS_eq (l : List Int) (hb : l.length ≤ 9223372036854775807) (left : Int) (h0 : 0 ≤ left) (h1 : left ≤ 9223372036854775807) : laws_szIntS.f l left = some (if left - (l.length : Int) < 0 then -1 else left - (l.length : Int)) := by
  unfold laws_szIntS.f
  rw [w64 (by omega) (by omega)]
  split <;> rfl
def szNodeR (a b : List ByteArray) (c : List Int) (left : Int) : Int :=
  if szR bwt a left < 0 then -1 else if szR bwt b (szR bwt a left) < 0 then -1 else if szR bwt b (szR bwt a left) - (c.length : Int) < 0 then -1 else szR bwt b (szR bwt a left) - (c.length : Int)
theorem laws_szNode_fev (l : Bool) (a b : List ByteArray) (c : List Int) (ha : a.length ≤ 9223372036854775807) (hb : b.length ≤ 9223372036854775807) (hc : c.length ≤ 9223372036854775807) (ha' : ∀ x ∈ a, x.size ≤ 9223372036854775807) (hb' : ∀ x ∈ b, x.size ≤ 9223372036854775807) (left : Int) (h0 : 0 ≤ left) (h1 : left ≤ 9223372036854775807) : Ev (fun k => laws_szNode.f k l a b c left) (szNodeR a b c left) := by
  have w1 : ∀ x ∈ a, 0 ≤ bwt x ∧ bwt x ≤ 9223372036854775807 := fun x hx => ⟨bwt_nonneg x, Int.ofNat_le.2 (ha' x hx)⟩
  have w2 : ∀ x ∈ b, 0 ≤ bwt x ∧ bwt x ≤ 9223372036854775807 := fun x hx => ⟨bwt_nonneg x, Int.ofNat_le.2 (hb' x hx)⟩
  unfold szNodeR
  refine ev_call (laws_szStringS_fev a ha w1 left h0 h1) ?_ (fun k => rfl)
  by_cases c1 : szR bwt a left < 0
  · rw [if_pos c1]
    exact ev_some fun k => by rw [if_pos c1]
  · rw [if_neg c1]
    have hle := szR_le bwt a (fun x hx => (w1 x hx).1) left (by omega)
    refine ev_call (laws_szStringS_fev b hb w2 _ (by omega) (by omega)) ?_ (fun k => if_neg c1)
    by_cases c2 : szR bwt b (szR bwt a left) < 0
    · rw [if_pos c2]
      exact ev_some fun k => by rw [if_pos c2]
    · rw [if_neg c2]
      have hle2 := szR_le bwt b (fun x hx => (w2 x hx).1) (szR bwt a left) (by omega)
      refine ev_some fun k => ?_
      rw [if_neg c2, laws_szIntS_eq c hc _ (by omega) (by omega), Option.bind_some]
      split <;> rfl
theorem szNodeR_tells (a b : List ByteArray) (c : List Int) (left : Int) (h : 0 ≤ szNodeR a b c left) : (a.length : Int) + sumW bwt a + (b.length : Int) + sumW bwt b + (c.length : Int) ≤ left ∧ 0 ≤ sumW bwt a ∧ 0 ≤ sumW bwt b := by
  unfold szNodeR at h
  by_cases c1 : szR bwt a left < 0
  · rw [if_pos c1] at h; omega
  · rw [if_neg c1] at h
    have h1 := szR_tells bwt a (fun x _ => bwt_nonneg x) left (by omega)
    by_cases c2 : szR bwt b (szR bwt a left) < 0
    · rw [if_pos c2] at h; omega
    · rw [if_neg c2] at h
      have h2 := szR_tells bwt b (fun x _ => bwt_nonneg x) _ (by omega : 0 ≤ szR bwt b (szR bwt a left))
      by_cases c3 : szR bwt b (szR bwt a left) - (c.length : Int) < 0
      · rw [if_pos c3] at h; omega
      · rw [if_neg c3] at h; omega
theorem spec_l01In_eq (x a b : Int) : spec_l01In.f x a b = some (decide (a ≤ x ∧ x ≤ b)) := in_dec x a b
def specNodeAt (leaf : Bool) (keys vals : List ByteArray) (kids : List Int) (i : Nat) : Bool := fitAt 24 keys i && (ascAt keys i && (if leaf = true then fitAt 24 vals i else kidAt kids i))
theorem spec_NodeOk_twice (leaf : Bool) (keys vals : List ByteArray) (kids : List Int) (n : Nat) (hn : n = keys.length) (hk : kids.length = n) (hl : n ≤ 1048576) (i : Nat) (hi : i < n) : ∀ (d j : Nat), j + d = i → ((kids.drop j).take d).any (fun x => decide (x = rd kids (i : Int))) = false → ∀ res, Ev (fun k => spec_NodeOk.l0 k (n : Int) ((i + 1 : Nat) : Int) leaf keys vals kids) res → Ev (fun k => spec_NodeOk.l1 k (n : Int) (i : Int) (j : Int) leaf keys vals kids) res := by
  intro d
  induction d with
  | zero =>
    intro j hj _ res hr
    refine ev_go hr fun k => ?_
    rw [spec_NodeOk.l1, if_neg (by omega), w64 (by omega) (by omega)]
    rfl
  | succ d ih =>
    intro j hj ha res hr
    rw [drop_rd kids j (by omega), List.take_succ_cons, List.any_cons, Bool.or_eq_false_iff] at ha
    refine ev_go (ih (j + 1) (by omega) ha.2 res hr) fun k => ?_
    rw [spec_NodeOk.l1, if_pos (by omega), if_pos (by omega), if_pos (by omega), if_pos (by omega), if_pos (by omega), if_neg (of_decide_eq_false ha.1), w64 (by omega) (by omega)]
    rfl
theorem spec_NodeOk_found (leaf : Bool) (keys vals : List ByteArray) (kids : List Int) (n : Nat) (hk : kids.length = n) (hl : n ≤ 1048576) (i : Nat) (hi : i < n) : ∀ (d j : Nat), j + d = i → ((kids.drop j).take d).any (fun x => decide (x = rd kids (i : Int))) = true → Ev (fun k => spec_NodeOk.l1 k (n : Int) (i : Int) (j : Int) leaf keys vals kids) false := by
  intro d
  induction d with
  | zero => intro j hj ha; simp at ha
  | succ d ih =>
    intro j hj ha
    rw [drop_rd kids j (by omega), List.take_succ_cons, List.any_cons] at ha
    by_cases c : rd kids (j : Int) = rd kids (i : Int)
    · refine ev_end fun k => ?_
      rw [spec_NodeOk.l1, if_pos (by omega), if_pos (by omega), if_pos (by omega), if_pos (by omega), if_pos (by omega), if_pos c]
    · rw [decide_eq_false c, Bool.false_or] at ha
      refine ev_go (ih (j + 1) (by omega) ha) fun k => ?_
      rw [spec_NodeOk.l1, if_pos (by omega), if_pos (by omega), if_pos (by omega), if_pos (by omega), if_pos (by omega), if_neg c, w64 (by omega) (by omega)]
      rfl
theorem spec_NodeOk_loop (leaf : Bool) (keys vals : List ByteArray) (kids : List Int) (hl : keys.length ≤ 1048576) (h1 : leaf = true → vals.length = keys.length) (h2 : leaf = false → kids.length = keys.length) : Ev (fun k => spec_NodeOk.l0 k (keys.length : Int) 0 leaf keys vals kids) ((List.range' 0 keys.length).all (specNodeAt leaf keys vals kids)) := by
  rw [← ite_tf ((List.range' 0 keys.length).all (specNodeAt leaf keys vals kids))]
  have j3no : ∀ (i : Nat) (k : Nat), spec_NodeOk.j3 (k + 1) (keys.length : Int) (i : Int) true leaf keys vals kids = some false := fun i k => by rw [spec_NodeOk.j3, if_pos rfl]
  have j2no : ∀ (i : Nat) (k : Nat), spec_NodeOk.j2 (k + 1) (keys.length : Int) (i : Int) true leaf keys vals kids = some false := fun i k => by rw [spec_NodeOk.j2, if_pos rfl]
  -- the key's test
  have l0fit : ∀ (i : Nat), i < keys.length → fitAt 24 keys i = true → ∀ k, spec_NodeOk.l0 (k + 1) (keys.length : Int) (i : Int) leaf keys vals kids = spec_NodeOk.j2 k (keys.length : Int) (i : Int) (!(ascAt keys i)) leaf keys vals kids := by
    intro i hi hf k
    unfold fitAt at hf
    rw [Bool.not_eq_true'] at hf
    have hf' := of_decide_eq_false hf
    rw [spec_NodeOk.l0, if_pos (by omega), if_pos (by omega), if_pos (by omega), if_neg hf']
    unfold ascAt
    by_cases c : i = 0
    · rw [if_neg (by omega), decide_eq_true c]; rfl
    · rw [if_pos (by omega), w64 (by omega) (by omega), if_pos (by omega), if_pos (by omega), decide_eq_false c, Bool.false_or]
  have l0big : ∀ (i : Nat), i < keys.length → fitAt 24 keys i = false → ∀ k, spec_NodeOk.l0 (k + 1) (keys.length : Int) (i : Int) leaf keys vals kids = spec_NodeOk.j2 k (keys.length : Int) (i : Int) true leaf keys vals kids := by
    intro i hi hf k
    unfold fitAt at hf
    rw [Bool.not_eq_false'] at hf
    rw [spec_NodeOk.l0, if_pos (by omega), if_pos (by omega), if_pos (by omega), if_pos (of_decide_eq_true hf)]
  refine ev_every (fun k i => spec_NodeOk.l0 k (keys.length : Int) (i : Int) leaf keys vals kids) (specNodeAt leaf keys vals kids) keys.length ?_ ?_ ?_ keys.length 0 (by omega)
  · refine ev_end fun k => ?_
    rw [spec_NodeOk.l0, if_neg (by omega)]
  · intro i hi hp res hr
    unfold specNodeAt at hp
    rw [Bool.and_eq_true, Bool.and_eq_true] at hp
    obtain ⟨p1, p2, p3⟩ := hp
    refine ev_go (f := fun k => spec_NodeOk.j2 k (keys.length : Int) (i : Int) false leaf keys vals kids) ?_ fun k => by rw [l0fit i hi p1 k, p2]; rfl
    cases leaf with
    | true =>
      rw [if_pos rfl] at p3
      unfold fitAt at p3
      rw [Bool.not_eq_true'] at p3
      refine ev_go (f := fun k => spec_NodeOk.j3 k (keys.length : Int) (i : Int) false true keys vals kids) ?_ fun k => by rw [spec_NodeOk.j2, if_neg (by decide), if_pos rfl, if_pos (by omega), if_pos (by have := h1 rfl; omega), p3]
      refine ev_go hr fun k => ?_
      rw [spec_NodeOk.j3, if_neg (by decide), if_pos rfl, w64 (by omega) (by omega)]
      rfl
    | false =>
      rw [if_neg (by decide)] at p3
      unfold kidAt at p3
      rw [Bool.and_eq_true, decide_eq_true_eq] at p3
      refine ev_go (f := fun k => spec_NodeOk.j3 k (keys.length : Int) (i : Int) false false keys vals kids) ?_ fun k => by rw [spec_NodeOk.j2, if_neg (by decide), if_neg (by decide)]
      have hkl := h2 rfl
      refine ev_go (spec_NodeOk_twice false keys vals kids keys.length rfl hkl hl i hi i 0 (by omega) (by rw [List.drop_zero]; simpa using p3.2) res hr) fun k => ?_
      rw [spec_NodeOk.j3, if_neg (by decide), if_neg (by decide), if_pos (by omega), if_pos (by omega), spec_l01In_eq, Option.bind_some, decide_eq_true p3.1, if_pos rfl]
      rfl
  · intro i hi hp
    unfold specNodeAt at hp
    cases p1 : fitAt 24 keys i with
    | false =>
      refine ev_go (f := fun k => spec_NodeOk.j2 k (keys.length : Int) (i : Int) true leaf keys vals kids) (ev_end fun k => j2no i k) fun k => l0big i hi p1 k
    | true =>
      refine ev_go (f := fun k => spec_NodeOk.j2 k (keys.length : Int) (i : Int) (!(ascAt keys i)) leaf keys vals kids) ?_ fun k => l0fit i hi p1 k
      rw [p1, Bool.true_and] at hp
      cases p2 : ascAt keys i with
      | false => exact ev_end fun k => j2no i k
      | true =>
        rw [p2, Bool.true_and] at hp
        cases leaf with
        | true =>
          rw [if_pos rfl] at hp
          unfold fitAt at hp
          rw [Bool.not_eq_false'] at hp
          refine ev_go (f := fun k => spec_NodeOk.j3 k (keys.length : Int) (i : Int) true true keys vals kids) (ev_end fun k => j3no i k) fun k => by rw [Bool.not_true, spec_NodeOk.j2, if_neg (by decide), if_pos rfl, if_pos (by omega), if_pos (by have := h1 rfl; omega), hp]
        | false =>
          rw [if_neg (by decide)] at hp
          have hkl := h2 rfl
          unfold kidAt at hp
          refine ev_go (f := fun k => spec_NodeOk.j3 k (keys.length : Int) (i : Int) false false keys vals kids) ?_ fun k => by rw [Bool.not_true, spec_NodeOk.j2, if_neg (by decide), if_neg (by decide)]
          by_cases c : 2 ≤ rd kids (i : Int) ∧ rd kids (i : Int) ≤ 39
          · rw [decide_eq_true c, Bool.true_and, Bool.not_eq_false'] at hp
            refine ev_go (spec_NodeOk_found false keys vals kids keys.length hkl hl i hi i 0 (by omega) (by rw [List.drop_zero]; exact hp)) fun k => ?_
            rw [spec_NodeOk.j3, if_neg (by decide), if_neg (by decide), if_pos (by omega), if_pos (by omega), spec_l01In_eq, Option.bind_some, decide_eq_true c, if_pos rfl]
            rfl
          · refine ev_end fun k => ?_
            rw [spec_NodeOk.j3, if_neg (by decide), if_neg (by decide), if_pos (by omega), if_pos (by omega), spec_l01In_eq, Option.bind_some, decide_eq_false c, if_neg (by decide)]
theorem spec_NodeOk_eqR (leaf : Bool) (keys vals : List ByteArray) (kids : List Int) : nodeOkR leaf keys vals kids = (decide (1 ≤ (keys.length : Int) ∧ (keys.length : Int) ≤ 4) && ((if leaf = true then decide (vals.length = keys.length) && decide (kids.length = 0) else decide (kids.length = keys.length) && decide (vals.length = 0)) && (List.range' 0 keys.length).all (specNodeAt leaf keys vals kids))) := by
  unfold nodeOkR
  have e : (List.range' 0 keys.length).all (specNodeAt leaf keys vals kids) = ((List.range' 0 keys.length).all (fitAt 24 keys) && ((List.range' 0 keys.length).all (ascAt keys) && (List.range' 0 keys.length).all (fun i => if leaf = true then fitAt 24 vals i else kidAt kids i))) := by
    unfold specNodeAt
    rw [all_and, all_and]
  rw [e]
  cases leaf with
  | true =>
    simp only [if_true]
    by_cases c : vals.length = keys.length
    · rw [c, decide_eq_true (rfl : keys.length = keys.length)]
      have e2 : (List.range' 0 keys.length).all (fun i => fitAt 24 vals i) = (List.range' 0 keys.length).all (fitAt 24 vals) := rfl
      rw [e2]
      cases decide (1 ≤ (keys.length : Int) ∧ (keys.length : Int) ≤ 4) <;> cases (List.range' 0 keys.length).all (ascAt keys) <;> cases (List.range' 0 keys.length).all (fitAt 24 keys) <;> cases (List.range' 0 keys.length).all (fitAt 24 vals) <;> cases decide (kids.length = 0) <;> rfl
    · rw [decide_eq_false c]
      simp
  | false =>
    simp only [Bool.false_eq_true, if_false]
    by_cases c : kids.length = keys.length
    · rw [c, decide_eq_true (rfl : keys.length = keys.length)]
      have e2 : (List.range' 0 keys.length).all (fun i => kidAt kids i) = (List.range' 0 keys.length).all (kidAt kids) := rfl
      rw [e2]
      cases decide (1 ≤ (keys.length : Int) ∧ (keys.length : Int) ≤ 4) <;> cases (List.range' 0 keys.length).all (ascAt keys) <;> cases (List.range' 0 keys.length).all (fitAt 24 keys) <;> cases (List.range' 0 keys.length).all (kidAt kids) <;> cases decide (vals.length = 0) <;> rfl
    · rw [decide_eq_false c]
      simp
theorem spec_NodeOk_fev (leaf : Bool) (keys vals : List ByteArray) (kids : List Int) (h1 : keys.length ≤ 1048576) (hk : kids.length ≤ 1048576) (hv : vals.length ≤ 1048576) : Ev (fun k => spec_NodeOk.f k leaf keys vals kids) (nodeOkR leaf keys vals kids) := by
  have bad : ∀ k, spec_NodeOk.j0 (k + 1) (keys.length : Int) true leaf keys vals kids = some false := fun k => by rw [spec_NodeOk.j0, if_pos rfl]
  rw [spec_NodeOk_eqR]
  by_cases c1 : 1 ≤ (keys.length : Int) ∧ (keys.length : Int) ≤ 4
  · rw [decide_eq_true c1, Bool.true_and]
    cases leaf with
    | true =>
      simp only [if_true]
      by_cases c2 : vals.length = keys.length
      · by_cases c3 : kids.length = 0
        · rw [decide_eq_true c2, decide_eq_true c3, Bool.true_and, Bool.true_and]
          refine ev_go (spec_NodeOk_loop true keys vals kids h1 (fun _ => c2) (fun h => by cases h)) fun k => ?_
          unfold spec_NodeOk.f
          rw [spec_l01In_eq, Option.bind_some, decide_eq_true c1, if_pos rfl, if_pos rfl, if_pos (by omega), if_pos (by omega), spec_NodeOk.j0, if_neg (by decide)]
        · rw [decide_eq_false c3, Bool.and_false, Bool.false_and]
          refine ev_end fun k => ?_
          unfold spec_NodeOk.f
          rw [spec_l01In_eq, Option.bind_some, decide_eq_true c1, if_pos rfl, if_pos rfl, if_pos (by omega), if_neg (by omega), bad]
      · rw [decide_eq_false c2, Bool.false_and, Bool.false_and]
        refine ev_end fun k => ?_
        unfold spec_NodeOk.f
        rw [spec_l01In_eq, Option.bind_some, decide_eq_true c1, if_pos rfl, if_pos rfl, if_neg (by omega), bad]
    | false =>
      simp only [Bool.false_eq_true, if_false]
      by_cases c2 : kids.length = keys.length
      · by_cases c3 : vals.length = 0
        · rw [decide_eq_true c2, decide_eq_true c3, Bool.true_and, Bool.true_and]
          refine ev_go (spec_NodeOk_loop false keys vals kids h1 (fun h => by cases h) (fun _ => c2)) fun k => ?_
          unfold spec_NodeOk.f
          rw [spec_l01In_eq, Option.bind_some, decide_eq_true c1, if_pos rfl, if_neg (by decide), if_pos (by omega), c3]
          rw [show (((0 : Nat) : Int) != 0) = false from rfl, spec_NodeOk.j0, if_neg (by decide)]
        · rw [decide_eq_false c3, Bool.and_false, Bool.false_and]
          refine ev_end fun k => ?_
          unfold spec_NodeOk.f
          have e : ((vals.length : Int) != 0) = true := by simp only [bne_iff_ne, ne_eq]; omega
          rw [spec_l01In_eq, Option.bind_some, decide_eq_true c1, if_pos rfl, if_neg (by decide), if_pos (by omega), e, bad]
      · rw [decide_eq_false c2, Bool.false_and, Bool.false_and]
        refine ev_end fun k => ?_
        unfold spec_NodeOk.f
        rw [spec_l01In_eq, Option.bind_some, decide_eq_true c1, if_pos rfl, if_neg (by decide), if_neg (by omega), bad]
  · rw [decide_eq_false c1, Bool.false_and]
    refine ev_end fun k => ?_
    unfold spec_NodeOk.f
    rw [spec_l01In_eq, Option.bind_some, decide_eq_false c1, if_neg (by decide), bad]
theorem spec_SumMore_steps (s : ByteArray) (i : Int) (r : Int) : ∀ (d : Nat) (x : Int) (j : Int), j + d = 8 → 0 ≤ j → 0 ≤ x ∧ x < 4294967296 → Ev (fun k => spec_SumMore.l0 k (sumSteps d x) s (wrap64 (i + 1))) r → Ev (fun k => spec_SumMore.l1 k x s i j) r := by
  intro d
  induction d with
  | zero =>
    intro x j hj h0 hx h
    refine ev_go h fun k => ?_
    rw [spec_SumMore.l1, if_neg (by omega)]
    rfl
  | succ d ih =>
    intro x j hj h0 hx h
    refine ev_go (ih (sumStep x) (j + 1) (by omega) (by omega) (sumStep_range x hx) h) fun k => ?_
    rw [spec_SumMore.l1, if_pos (by omega), Int.tmod_eq_emod_of_nonneg hx.1, Int.tdiv_eq_ediv_of_nonneg hx.1, w64 (n := j + 1) (by omega) (by omega), show x / 2 % 4294967296 = x / 2 by omega]
    unfold sumStep
    by_cases c : x % 2 = 1
    · rw [if_pos c, if_pos c]
    · rw [if_neg c, if_neg c]
theorem spec_SumMore_loop (s : ByteArray) (hs : s.size ≤ 140737488351232) : ∀ (d : Nat) (x : Int) (i : Nat), i + d = s.size → 0 ≤ x ∧ x < 4294967296 → Ev (fun k => spec_SumMore.l0 k x s (i : Int)) (sumL x ((bytesOf s).drop i)) := by
  intro d
  induction d with
  | zero =>
    intro x i hi hx
    refine ev_end fun k => ?_
    rw [spec_SumMore.l0, if_neg (by omega), List.drop_eq_nil_of_le (by rw [bytesOf_length]; omega)]
    rfl
  | succ d ih =>
    intro x i hi hx
    have hb := bt_lo s i
    have hb' := bt_hi s i
    rw [bytesOf_drop s i (by omega)]
    have hn := ih (sumByte x (bt s i)) (i + 1) (by omega) (sumByte_range _ _)
    refine ev_go (spec_SumMore_steps s i _ 8 (Go.bits .xor .u32 x (bt s i)) 0 (by omega) (by omega) (bits_u32_range _ _ _ rfl) ?_) fun k => ?_
    · rw [w64 (by omega) (by omega)]
      exact hn
    · rw [spec_SumMore.l0, if_pos (by omega), if_pos (by omega), show bt s i % 4294967296 = bt s i by omega]
theorem spec_SumMore_fev (x : Int) (hx : 0 ≤ x ∧ x < 4294967296) (s : ByteArray) (hs : s.size ≤ 140737488351232) : Ev (fun k => spec_SumMore.f k x s) (sumR x s) :=
  spec_SumMore_loop s hs s.size x 0 (by omega) hx
theorem spec_SumOf_fev (s : ByteArray) (hs : s.size ≤ 140737488351232) : Ev (fun k => spec_SumOf.f k s) (sumR 4294967295 s) :=
  ev_call (spec_SumMore_fev 4294967295 (by omega) s hs) (Ev.now _) fun _ => rfl
theorem spec_Sealed_fev (s : ByteArray) (hs : s.size ≤ 140737488351232) : Ev (fun k => spec_Sealed.f k s) (sealedR s) := by
  unfold sealedR
  by_cases c : (s.size : Int) > 20000
  · rw [if_pos c]
    exact ev_some fun k => by unfold spec_Sealed.f; rw [if_pos c]
  · rw [if_neg c]
    refine ev_call (spec_SumOf_fev s hs) (c := fun k t => (spec_l02Four.f t).bind fun t106 => (if s.size + t106.size ≤ 9223372036854775807 then (some (s ++ t106, true)) else (none))) (ev_some fun k => ?_) fun k => by unfold spec_Sealed.f; rw [if_neg c]
    unfold spec_l02Four.f
    rw [Option.bind_some]
    have h4 : (sealB s).size = 4 := sealB_size s
    unfold sealB fourB at h4
    rw [if_pos (by omega)]
    rfl
theorem spec_l01Var_ev : ∀ (n : Nat) (acc : List Int), n ≤ 9223372036854775807 → acc.length + n ≤ 140737488355327 → Ev (fun k => spec_l01Var.l0 k (n : Int) acc) (strOfNums (acc ++ varL n)) := by
  intro n
  induction n using Nat.strongRecOn with
  | ind n ih =>
    intro acc hn hl
    by_cases h : n > 127
    · refine ev_go (f := fun k => spec_l01Var.l0 k ((n / 128 : Nat) : Int) (acc ++ [(n : Int) % 128 + 128])) ?_ ?_
      · have := ih (n / 128) (by omega) (acc ++ [(n : Int) % 128 + 128]) (by omega) (by rw [List.length_append, List.length_singleton]; omega)
        rw [List.append_assoc, List.singleton_append, ← varL_big h] at this
        exact this
      · intro k
        have e1 : wrap64 (Int.tdiv (n : Int) 128) = ((n / 128 : Nat) : Int) := by rw [Int.tdiv_eq_ediv_of_nonneg (by omega), w64 (by omega) (by omega)]; omega
        have e2 : (wrap64 (Int.tmod (n : Int) 128 + 128)) % 256 = (n : Int) % 128 + 128 := by rw [Int.tmod_eq_emod_of_nonneg (by omega), w64 (by omega) (by omega)]; omega
        rw [spec_l01Var.l0, if_pos (by omega), if_pos (by omega), e1, e2]
    · refine ev_end fun k => ?_
      rw [spec_l01Var.l0, if_neg (by omega), if_pos (by omega), varL_small h]
      rw [show (n : Int) % 256 = (n : Int) by omega]
theorem spec_l01Var_fev (n : Int) (h0 : 0 ≤ n) (h : n ≤ 140737488355327) : Ev (fun k => spec_l01Var.f k n) (varB n.toNat) := by
  have := spec_l01Var_ev n.toNat [] (by omega) (by simp; omega)
  rw [Int.toNat_of_nonneg h0, List.nil_append] at this
  exact this
theorem spec_l04Short_fev (s : ByteArray) (hs : s.size ≤ 140737488351232) : Ev (fun k => spec_l04Short.f k s) (shortB s) := by
  refine ev_call (spec_l01Var_fev (s.size : Int) (by omega) (by omega)) (ev_some fun k => ?_) fun k => rfl
  have h4 := varB_size_le s.size (by omega)
  rw [Int.toNat_natCast, if_pos (by omega)]
  rfl
theorem spec_l05Bytes_loop {leaf : Bool} {keys vals : List ByteArray} {kids : List Int} (h : nodeOkR leaf keys vals kids = true) : ∀ (d i : Nat) (acc : ByteArray), i + d = keys.length → acc.size ≤ 11 + 68 * i → Ev (fun k => spec_l05Bytes.l0 k acc (i : Int) leaf keys vals kids) (acc ++ entsL leaf (keys.drop i) (vals.drop i) (kids.drop i)) := by
  obtain ⟨_, hn, _⟩ := nodeOkR_tells h
  intro d
  induction d with
  | zero =>
    intro i acc hi ha
    refine ev_end fun k => ?_
    rw [spec_l05Bytes.l0, if_neg (by omega), List.drop_eq_nil_of_le (by omega : keys.length ≤ i)]
    unfold entsL
    rw [show acc ++ (⟨#[]⟩ : ByteArray) = acc from ByteArray.append_empty]
  | succ d ih =>
    intro i acc hi ha
    have hz := entAt_size h i (by omega)
    obtain ⟨p1, p2, p3⟩ := entAt_parts h i (by omega)
    rw [entsL_step leaf keys vals kids i (by omega), ← ByteArray.append_assoc]
    obtain ⟨K2, e2⟩ := ih (i + 1) (acc ++ entAt leaf keys vals kids i) (by omega) (by rw [ByteArray.size_append]; omega)
    unfold entAt at e2 hz ⊢
    rw [ByteArray.size_append] at hz
    obtain ⟨K1, e1⟩ := spec_l04Short_fev (rdOf ByteArray.empty keys (i : Int)) (by omega)
    cases leaf with
    | true =>
      rw [if_pos rfl] at e2 hz ⊢
      obtain ⟨q1, q2⟩ := p2 rfl
      obtain ⟨K3, e3⟩ := spec_l04Short_fev (rdOf ByteArray.empty vals (i : Int)) (by omega)
      refine ev_succ ⟨K1 + K2 + K3, fun k hk => ?_⟩
      dsimp only at e1 e2 e3
      rw [spec_l05Bytes.l0, if_pos (by omega), if_pos (by omega), e1 k (by omega), Option.bind_some, if_pos (by omega), if_pos rfl, if_pos (by omega), e3 k (by omega), Option.bind_some, if_pos (by rw [ByteArray.size_append]; omega), w64 (by omega) (by omega), ByteArray.append_assoc]
      exact e2 k (by omega)
    | false =>
      rw [if_neg (by decide)] at e2 hz ⊢
      obtain ⟨q1, q2, q3⟩ := p3 rfl
      obtain ⟨K3, e3⟩ := spec_l01Var_fev (rd kids (i : Int)) (by omega) (by omega)
      refine ev_succ ⟨K1 + K2 + K3, fun k hk => ?_⟩
      dsimp only at e1 e2 e3
      rw [spec_l05Bytes.l0, if_pos (by omega), if_pos (by omega), e1 k (by omega), Option.bind_some, if_pos (by omega), if_neg (by decide), if_pos (by omega), e3 k (by omega), Option.bind_some, if_pos (by rw [ByteArray.size_append]; omega), w64 (by omega) (by omega), ByteArray.append_assoc]
      exact e2 k (by omega)
theorem spec_l05Bytes_fev {leaf : Bool} {keys vals : List ByteArray} {kids : List Int} (h : nodeOkR leaf keys vals kids = true) : Ev (fun k => spec_l05Bytes.f k leaf keys vals kids) (nodeB leaf keys vals kids) := by
  obtain ⟨_, hn, _⟩ := nodeOkR_tells h
  obtain ⟨K1, e1⟩ := spec_l01Var_fev (keys.length : Int) (by omega) (by omega)
  rw [Int.toNat_natCast] at e1
  have hv := varB_size_le keys.length (by omega)
  have go : ∀ (b : ByteArray), b.size = 1 → Ev (fun k => spec_l05Bytes.j0 k b leaf keys vals kids) ((b ++ varB keys.length) ++ entsL leaf keys vals kids) := by
    intro b hb
    obtain ⟨K2, e2⟩ := spec_l05Bytes_loop h keys.length 0 (b ++ varB keys.length) (by omega) (by rw [ByteArray.size_append]; omega)
    rw [List.drop_zero, List.drop_zero, List.drop_zero] at e2
    refine ev_succ ⟨K1 + K2, fun k hk => ?_⟩
    dsimp only at e1 e2
    rw [spec_l05Bytes.j0, e1 k (by omega), Option.bind_some, if_pos (by omega)]
    exact e2 k (by omega)
  cases leaf with
  | true => exact go _ rfl
  | false => exact go _ rfl
theorem spec_NodeText_fev (leaf : Bool) (keys vals : List ByteArray) (kids : List Int) (h1 : keys.length ≤ 1048576) (hk : kids.length ≤ 1048576) (hv : vals.length ≤ 1048576) : Ev (fun k => spec_NodeText.f k leaf keys vals kids) (nodeTextR leaf keys vals kids) := by
  unfold nodeTextR
  refine ev_call (spec_NodeOk_fev leaf keys vals kids h1 hk hv) ?_ (fun k => rfl)
  cases h : nodeOkR leaf keys vals kids with
  | false => exact ev_some fun k => rfl
  | true =>
    have hz := nodeB_size h
    rw [if_pos rfl]
    have hs : sealedR (nodeB leaf keys vals kids) = (nodeB leaf keys vals kids ++ sealB (nodeB leaf keys vals kids), true) := by unfold sealedR; rw [if_neg (by omega)]
    rw [← hs]
    exact ev_call (spec_l05Bytes_fev h) (ev_call (spec_Sealed_fev _ (by omega)) (c := fun _ t => some (t.1, t.2)) (Ev.now _) fun k => rfl) fun k => rfl
theorem laws_toStringS_loop (l : List ByteArray) (hb : l.length ≤ 1048576) : ∀ (d i : Nat) (pre rest : List ByteArray), i + d = l.length → pre.length = i → rest.length = d → Ev (fun k => laws_toStringS.l0 k l (pre ++ rest) (i : Int)) (pre ++ (l.drop i).map (fun x => x)) := by
  intro d
  induction d with
  | zero =>
    intro i pre rest hi hp hr
    refine ev_end fun k => ?_
    rw [laws_toStringS.l0, if_neg (by omega), List.drop_eq_nil_of_le (by omega), List.eq_nil_of_length_eq_zero hr]
    rfl
  | succ d ih =>
    intro i pre rest hi hp hr
    obtain ⟨x, t, rfl⟩ : ∃ x t, rest = x :: t := by
      cases rest with
      | nil => simp at hr
      | cons x t => exact ⟨x, t, rfl⟩
    rw [drop_rdOf ByteArray.empty l i (by omega), List.map_cons]
    have hn := ih (i + 1) (pre ++ [(fun x => x) (rdOf ByteArray.empty l (i : Int))]) t (by omega) (by simp; omega) (by simp at hr; omega)
    rw [List.append_assoc, List.singleton_append, List.append_assoc, List.singleton_append] at hn
    refine ev_go hn fun k => ?_
    rw [laws_toStringS.l0, if_pos (by omega), if_pos (by omega), if_pos (by rw [List.length_append, List.length_cons]; rw [List.length_cons] at hr; omega), Int.toNat_natCast, set_mid pre t x _ i hp, w64 (by omega) (by omega)]
    rfl
theorem laws_toStringS_fev (l : List ByteArray) (hb : l.length ≤ 1048576) : Ev (fun k => laws_toStringS.f k l) (l.map (fun x => x)) := by
  have := laws_toStringS_loop l hb l.length 0 [] (List.replicate l.length (⟨#[]⟩ : ByteArray)) (by omega) rfl (by simp)
  refine Ev.congr (fun k => ?_) this
  unfold laws_toStringS.f
  rw [if_pos (by omega), if_pos (by omega)]
  rfl
theorem laws_toIntS_loop (l : List Int) (hb : l.length ≤ 1048576) : ∀ (d i : Nat) (pre rest : List Int), i + d = l.length → pre.length = i → rest.length = d → Ev (fun k => laws_toIntS.l0 k l (pre ++ rest) (i : Int)) (pre ++ (l.drop i).map (fun x => x)) := by
  intro d
  induction d with
  | zero =>
    intro i pre rest hi hp hr
    refine ev_end fun k => ?_
    rw [laws_toIntS.l0, if_neg (by omega), List.drop_eq_nil_of_le (by omega), List.eq_nil_of_length_eq_zero hr]
    rfl
  | succ d ih =>
    intro i pre rest hi hp hr
    obtain ⟨x, t, rfl⟩ : ∃ x t, rest = x :: t := by
      cases rest with
      | nil => simp at hr
      | cons x t => exact ⟨x, t, rfl⟩
    rw [drop_rd l i (by omega), List.map_cons]
    have hn := ih (i + 1) (pre ++ [(fun x => x) (rd l (i : Int))]) t (by omega) (by simp; omega) (by simp at hr; omega)
    rw [List.append_assoc, List.singleton_append, List.append_assoc, List.singleton_append] at hn
    refine ev_go hn fun k => ?_
    rw [laws_toIntS.l0, if_pos (by omega), if_pos (by omega), if_pos (by rw [List.length_append, List.length_cons]; rw [List.length_cons] at hr; omega), Int.toNat_natCast, set_mid pre t x _ i hp, w64 (by omega) (by omega)]
    rfl
theorem laws_toIntS_fev (l : List Int) (hb : l.length ≤ 1048576) : Ev (fun k => laws_toIntS.f k l) (l.map (fun x => x)) := by
  have := laws_toIntS_loop l hb l.length 0 [] (List.replicate l.length (0 : Int)) (by omega) rfl (by simp)
  refine Ev.congr (fun k => ?_) this
  unfold laws_toIntS.f
  rw [if_pos (by omega), if_pos (by omega)]
  rfl
theorem laws_toNode_fev (l : Bool) (a b : List ByteArray) (c : List Int) (ha : a.length ≤ 1048576) (hb : b.length ≤ 1048576) (hc : c.length ≤ 1048576) : Ev (fun k => laws_toNode.f k l a b c) (l, a, b, c) := by
  have h := laws_toStringS_fev a ha
  have h2 := laws_toStringS_fev b hb
  have h3 := laws_toIntS_fev c hc
  rw [List.map_id'] at h h2 h3
  exact ev_call h (ev_call h2 (ev_call h3 (c := fun _ t => some (l, a, b, t)) (Ev.now _) (fun _ => rfl)) (fun _ => rfl)) (fun _ => rfl)
theorem impl_in_eq (x a b : Int) : impl_in.f x a b = some (decide (a ≤ x ∧ x ≤ b)) := in_dec x a b
theorem impl_ascending_fev (l : List ByteArray) (hl : l.length ≤ 9223372036854775806) : Ev (fun k => impl_ascending.f k l) ((List.range' 0 l.length).all (ascAt l)) := by
  rw [← ite_tf ((List.range' 0 l.length).all (ascAt l))]
  refine ev_every (fun k i => impl_ascending.l0 k l (l.length : Int) (i : Int)) (ascAt l) l.length ?_ ?_ ?_ l.length 0 (by omega)
  · refine ev_end fun k => ?_
    rw [impl_ascending.l0, if_neg (by omega)]
  · intro i hi hp res hr
    refine ev_go hr fun k => ?_
    try dsimp only
    unfold ascAt at hp
    rw [impl_ascending.l0, if_pos (by omega), w64 (n := (i : Int) + 1) (by omega) (by omega)]
    by_cases c : i = 0
    · rw [if_neg (by omega)]; rfl
    · rw [decide_eq_false c, Bool.false_or] at hp
      rw [if_pos (by omega), w64 (by omega) (by omega), if_pos (by omega), if_pos (by omega), if_pos (by omega), if_pos (by omega), if_pos hp]
      rfl
  · intro i hi hp
    refine ev_end fun k => ?_
    try dsimp only
    unfold ascAt at hp
    rw [Bool.or_eq_false_iff] at hp
    have c : i ≠ 0 := of_decide_eq_false hp.1
    rw [impl_ascending.l0, if_pos (by omega), if_pos (by omega), w64 (n := (i : Int) - 1) (by omega) (by omega), if_pos (by omega), if_pos (by omega), if_pos (by omega), if_pos (by omega), hp.2, if_neg (by decide)]
theorem impl_longer_eq (l : List ByteArray) (m : Int) : impl_longer.f l m = some (l.any fun s => decide ((s.size : Int) > m)) := rfl
theorem longer_fits (l : List ByteArray) (m : Int) : (List.range' 0 l.length).all (fitAt m l) = !(l.any fun s => decide ((s.size : Int) > m)) := any_places ByteArray.empty (fun s => decide ((s.size : Int) > m)) l
theorem slices_Index_int_int_loop (l : List Int) (v : Int) (hl : l.length ≤ 9223372036854775806) : ∀ d i : Nat, i + d = l.length → Ev (fun k => slices_Index_int_int.l0 k l v (l.length : Int) (i : Int)) (idxP (fun x => decide (x = v)) (l.drop i) (i : Int)) := by
  intro d
  induction d with
  | zero =>
    intro i hi
    refine ev_end fun k => ?_
    rw [slices_Index_int_int.l0, if_neg (by omega), List.drop_eq_nil_of_le (by omega)]
    rfl
  | succ d ih =>
    intro i hi
    rw [drop_rd l i (by omega), idxP_step]
    by_cases c : rd l (i : Int) = v
    · rw [if_pos (decide_eq_true c)]
      refine ev_end fun k => ?_
      rw [slices_Index_int_int.l0, if_pos (by omega), if_pos (by omega), if_pos (by omega), if_pos c.symm]
    · rw [decide_eq_false c, if_neg (by decide)]
      refine ev_go (ih (i + 1) (by omega)) fun k => ?_
      rw [slices_Index_int_int.l0, if_pos (by omega), if_pos (by omega), if_pos (by omega), if_neg (fun h => c h.symm), w64 (by omega) (by omega)]
      rfl
theorem slices_Contains_int_int_fev (l : List Int) (v : Int) (hl : l.length ≤ 9223372036854775806) : Ev (fun k => slices_Contains_int_int.f k l v) (l.any fun x => decide (x = v)) := by
  rw [← idxP_any]
  have h := slices_Index_int_int_loop l v hl l.length 0 (by omega)
  rw [List.drop_zero] at h
  exact ev_call h (c := fun _ t => some (decide (t ≥ 0))) (Ev.now _) fun k => rfl
theorem impl_NodeOk_kids (leaf : Bool) (keys vals : List ByteArray) (kids : List Int) (hl : kids.length ≤ 1048576) : Ev (fun k => impl_NodeOk.l0 k kids (kids.length : Int) 0 leaf keys vals kids) ((List.range' 0 kids.length).all (kidAt kids) && (decide (kids.length = keys.length) && decide (vals.length = 0))) := by
  rw [← ite_ff]
  refine ev_every (fun k i => impl_NodeOk.l0 k kids (kids.length : Int) (i : Int) leaf keys vals kids) (kidAt kids) kids.length ?_ ?_ ?_ kids.length 0 (by omega)
  · refine ev_end fun k => ?_
    rw [impl_NodeOk.l0, if_neg (by omega)]
    by_cases c : kids.length = keys.length
    · rw [if_pos (by omega), decide_eq_true c, Bool.true_and]
      by_cases d : vals.length = 0
      · rw [d]; rfl
      · rw [decide_eq_false d]
        congr 1
        simp only [beq_eq_false_iff_ne]
        omega
    · rw [if_neg (by omega), decide_eq_false c, Bool.false_and]
  · intro i hi hp res hr
    unfold kidAt at hp
    rw [Bool.and_eq_true, decide_eq_true_eq] at hp
    obtain ⟨K1, e1⟩ := slices_Contains_int_int_fev (kids.take i) (rd kids (i : Int)) (by rw [List.length_take]; omega)
    obtain ⟨K2, e2⟩ := hr
    refine ev_succ ⟨K1 + K2, fun k hk => ?_⟩
    have h3 : (kids.take i).any (fun x => decide (x = rd kids (i : Int))) = false := by simpa using hp.2
    have e1' := e1 k (by omega)
    dsimp only at e1'
    rw [h3] at e1'
    try dsimp only
    rw [impl_NodeOk.l0, if_pos (by omega), if_pos (by omega), if_pos (by omega), impl_in_eq, Option.bind_some, decide_eq_true hp.1, if_pos rfl, if_pos (by omega), Int.toNat_natCast, e1', Option.bind_some, if_neg (by decide), w64 (by omega) (by omega)]
    exact e2 k (by omega)
  · intro i hi hp
    unfold kidAt at hp
    by_cases c : 2 ≤ rd kids (i : Int) ∧ rd kids (i : Int) ≤ 39
    · rw [decide_eq_true c, Bool.true_and] at hp
      obtain ⟨K1, e1⟩ := slices_Contains_int_int_fev (kids.take i) (rd kids (i : Int)) (by rw [List.length_take]; omega)
      refine ev_succ ⟨K1, fun k hk => ?_⟩
      have h3 : (kids.take i).any (fun x => decide (x = rd kids (i : Int))) = true := by simpa using hp
      have e1' := e1 k (by omega)
      dsimp only at e1'
      rw [h3] at e1'
      try dsimp only
      rw [impl_NodeOk.l0, if_pos (by omega), if_pos (by omega), if_pos (by omega), impl_in_eq, Option.bind_some, decide_eq_true c, if_pos rfl, if_pos (by omega), Int.toNat_natCast, e1', Option.bind_some, if_pos rfl]
    · refine ev_end fun k => ?_
      try dsimp only
      rw [impl_NodeOk.l0, if_pos (by omega), if_pos (by omega), if_pos (by omega), impl_in_eq, Option.bind_some, decide_eq_false c, if_neg (by decide)]
theorem impl_NodeOk_tail (leaf : Bool) (keys vals : List ByteArray) (kids : List Int) (hk : kids.length ≤ 1048576) : Ev (fun k => impl_NodeOk.j0 k false leaf keys vals kids) (if leaf = true then decide (vals.length = keys.length) && (List.range' 0 vals.length).all (fitAt 24 vals) && decide (kids.length = 0)
  else (List.range' 0 kids.length).all (kidAt kids) && decide (kids.length = keys.length) && decide (vals.length = 0)) := by
  cases leaf with
  | true =>
    rw [if_pos rfl, longer_fits]
    refine ev_end fun k => ?_
    rw [impl_NodeOk.j0, if_neg (by decide), if_pos rfl]
    by_cases c : vals.length = keys.length
    · rw [if_pos (by omega), impl_longer_eq, Option.bind_some, decide_eq_true c, Bool.true_and]
      cases vals.any fun s => decide ((s.size : Int) > 24) with
      | true => rfl
      | false =>
        rw [if_neg (by decide)]
        by_cases d : kids.length = 0
        · rw [d]; rfl
        · rw [decide_eq_false d]
          congr 1
          simp only [Bool.not_false, Bool.true_and, beq_eq_false_iff_ne]
          omega
    · rw [if_neg (by omega), decide_eq_false c, Bool.false_and, Bool.false_and]
  | false =>
    rw [if_neg (by decide), Bool.and_assoc]
    refine ev_go (impl_NodeOk_kids false keys vals kids hk) fun k => ?_
    rw [impl_NodeOk.j0, if_neg (by decide), if_neg (by decide)]
theorem impl_NodeOk_fev (leaf : Bool) (keys vals : List ByteArray) (kids : List Int) (h1 : keys.length ≤ 1048576) (hk : kids.length ≤ 1048576) : Ev (fun k => impl_NodeOk.f k leaf keys vals kids) (nodeOkR leaf keys vals kids) := by
  have bad : ∀ k, impl_NodeOk.j0 (k + 1) true leaf keys vals kids = some false := fun k => by rw [impl_NodeOk.j0, if_pos rfl]
  unfold nodeOkR
  by_cases c1 : 1 ≤ (keys.length : Int) ∧ (keys.length : Int) ≤ 4
  · rw [decide_eq_true c1, Bool.true_and]
    obtain ⟨K1, e1⟩ := impl_ascending_fev keys (by omega)
    cases hA : (List.range' 0 keys.length).all (ascAt keys) with
    | false =>
      rw [hA] at e1
      refine ev_succ ⟨K1, fun k hk => ?_⟩
      dsimp only at e1 ⊢
      rw [impl_NodeOk.f, impl_in_eq, Option.bind_some, decide_eq_true c1, if_pos rfl, e1 (k + 1) (by omega), Option.bind_some, if_neg (by decide), bad]
      rfl
    | true =>
      rw [hA] at e1
      rw [Bool.true_and, longer_fits]
      cases hL : keys.any fun s => decide ((s.size : Int) > 24) with
      | true =>
        refine ev_succ ⟨K1, fun k hk => ?_⟩
        dsimp only at e1 ⊢
        rw [impl_NodeOk.f, impl_in_eq, Option.bind_some, decide_eq_true c1, if_pos rfl, e1 (k + 1) (by omega), Option.bind_some, if_pos rfl, impl_longer_eq, Option.bind_some, hL, bad]
        rfl
      | false =>
        obtain ⟨K2, e2⟩ := impl_NodeOk_tail leaf keys vals kids hk
        refine ⟨K1 + K2, fun k hk => ?_⟩
        dsimp only at e1 e2 ⊢
        rw [impl_NodeOk.f, impl_in_eq, Option.bind_some, decide_eq_true c1, if_pos rfl, e1 k (by omega), Option.bind_some, if_pos rfl, impl_longer_eq, Option.bind_some, hL, e2 k (by omega)]
        rfl
  · refine ev_end fun k => ?_
    try dsimp only
    rw [impl_NodeOk.f, impl_in_eq, Option.bind_some, decide_eq_false c1, if_neg (by decide), bad]
    rfl
theorem impl_varText_ev : ∀ (n : Nat) (acc : List Int), n ≤ 9223372036854775807 → acc.length + n ≤ 140737488355327 → Ev (fun k => impl_varText.l0 k (n : Int) acc) (strOfNums (acc ++ varL n)) := by
  intro n
  induction n using Nat.strongRecOn with
  | ind n ih =>
    intro acc hn hl
    by_cases h : n > 127
    · refine ev_go (f := fun k => impl_varText.l0 k ((n / 128 : Nat) : Int) (acc ++ [(n : Int) % 128 + 128])) ?_ ?_
      · have := ih (n / 128) (by omega) (acc ++ [(n : Int) % 128 + 128]) (by omega) (by rw [List.length_append, List.length_singleton]; omega)
        rw [List.append_assoc, List.singleton_append, ← varL_big h] at this
        exact this
      · intro k
        have e1 : (n : Int) / 128 = ((n / 128 : Nat) : Int) := by omega
        have e2 : (Go.bits .or .i64 (Go.bits .and .i64 (n : Int) 127) 128) % 256 = (n : Int) % 128 + 128 := by rw [i64_and127 _ (by omega) (by omega), i64_or128 _ (by omega) (by omega)]; omega
        rw [impl_varText.l0, if_pos (by omega), if_pos (by omega), e1, e2]
    · refine ev_end fun k => ?_
      rw [impl_varText.l0, if_neg (by omega), if_pos (by omega), varL_small h]
      rw [show (n : Int) % 256 = (n : Int) by omega]
theorem impl_varText_fev (n : Int) (h0 : 0 ≤ n) (h : n ≤ 140737488355327) : Ev (fun k => impl_varText.f k n) (varB n.toNat) := by
  have := impl_varText_ev n.toNat [] (by omega) (by simp; omega)
  rw [Int.toNat_of_nonneg h0, List.nil_append] at this
  exact this
theorem impl_shortOf_fev (s : ByteArray) (hs : s.size ≤ 140737488351232) : Ev (fun k => impl_shortOf.f k s) (shortB s) := by
  refine ev_call (impl_varText_fev (s.size : Int) (by omega) (by omega)) (ev_some fun k => ?_) fun k => rfl
  have h4 := varB_size_le s.size (by omega)
  rw [Int.toNat_natCast, if_pos (by omega)]
  rfl
theorem impl_SumMore_steps (s : ByteArray) (i : Int) (r : Int) : ∀ (d : Nat) (x : Int) (j : Int), j + d = 8 → 0 ≤ j → 0 ≤ x ∧ x < 4294967296 → Ev (fun k => impl_SumMore.l0 k (sumSteps d x) s (s.size : Int) (wrap64 (i + 1))) r → Ev (fun k => impl_SumMore.l1 k x s (s.size : Int) i j) r := by
  intro d
  induction d with
  | zero =>
    intro x j hj h0 hx h
    refine ev_go h fun k => ?_
    rw [impl_SumMore.l1, if_neg (by omega)]
    rfl
  | succ d ih =>
    intro x j hj h0 hx h
    refine ev_go (ih (sumStep x) (j + 1) (by omega) (by omega) (sumStep_range x hx) h) fun k => ?_
    rw [impl_SumMore.l1, if_pos (by omega), u32_and1 x hx, w64 (n := j + 1) (by omega) (by omega)]
    unfold sumStep
    by_cases c : x % 2 = 1
    · rw [if_pos c, if_pos c]
    · rw [if_neg c, if_neg c]
theorem impl_SumMore_loop (s : ByteArray) (hs : s.size ≤ 140737488351232) : ∀ (d : Nat) (x : Int) (i : Nat), i + d = s.size → 0 ≤ x ∧ x < 4294967296 → Ev (fun k => impl_SumMore.l0 k x s (s.size : Int) (i : Int)) (sumL x ((bytesOf s).drop i)) := by
  intro d
  induction d with
  | zero =>
    intro x i hi hx
    refine ev_end fun k => ?_
    rw [impl_SumMore.l0, if_neg (by omega), List.drop_eq_nil_of_le (by rw [bytesOf_length]; omega)]
    rfl
  | succ d ih =>
    intro x i hi hx
    have hb := bt_lo s i
    have hb' := bt_hi s i
    rw [bytesOf_drop s i (by omega)]
    have hn := ih (sumByte x (bt s i)) (i + 1) (by omega) (sumByte_range _ _)
    refine ev_go (impl_SumMore_steps s i _ 8 (Go.bits .xor .u32 x (bt s i)) 0 (by omega) (by omega) (bits_u32_range _ _ _ rfl) ?_) fun k => ?_
    · rw [w64 (by omega) (by omega)]
      exact hn
    · rw [impl_SumMore.l0, if_pos (by omega), if_pos (by omega), if_pos (by omega), show bt s i % 4294967296 = bt s i by omega]
theorem impl_SumMore_fev (x : Int) (hx : 0 ≤ x ∧ x < 4294967296) (s : ByteArray) (hs : s.size ≤ 140737488351232) : Ev (fun k => impl_SumMore.f k x s) (sumR x s) :=
  impl_SumMore_loop s hs s.size x 0 (by omega) hx
theorem impl_SumOf_fev (s : ByteArray) (hs : s.size ≤ 140737488351232) : Ev (fun k => impl_SumOf.f k s) (sumR 4294967295 s) :=
  ev_call (impl_SumMore_fev 4294967295 (by omega) s hs) (Ev.now _) fun _ => rfl
theorem impl_seal_fev (s : ByteArray) (hs : s.size ≤ 140737488351232) : Ev (fun k => impl_seal.f k s) (sealB s) :=
  ev_call (impl_SumOf_fev s hs) (Ev.now _) fun _ => rfl
theorem impl_Sealed_fev (s : ByteArray) (hs : s.size ≤ 140737488351232) : Ev (fun k => impl_Sealed.f k s) (sealedR s) := by
  unfold sealedR
  by_cases c : (s.size : Int) > 20000
  · rw [if_pos c]
    exact ev_some fun k => by unfold impl_Sealed.f; rw [if_pos c]
  · rw [if_neg c]
    refine ev_call (impl_seal_fev s hs) (ev_some fun k => ?_) fun k => by unfold impl_Sealed.f; rw [if_neg c]
    have h4 := sealB_size s
    rw [if_pos (by omega)]
theorem impl_NodeText_loop {leaf : Bool} {keys vals : List ByteArray} {kids : List Int} (h : nodeOkR leaf keys vals kids = true) : ∀ (d i : Nat) (acc : ByteArray), i + d = keys.length → acc.size ≤ 11 + 68 * i → Ev (fun k => impl_NodeText.l0 k acc keys (keys.length : Int) (i : Int) leaf keys vals kids) (sealedR (acc ++ entsL leaf (keys.drop i) (vals.drop i) (kids.drop i))) := by
  obtain ⟨_, hn, _⟩ := nodeOkR_tells h
  intro d
  induction d with
  | zero =>
    intro i acc hi ha
    obtain ⟨K, e⟩ := impl_Sealed_fev acc (by omega)
    refine ev_succ ⟨K, fun k hk => ?_⟩
    dsimp only at e
    rw [impl_NodeText.l0, if_neg (by omega), List.drop_eq_nil_of_le (by omega : keys.length ≤ i), e k hk, Option.bind_some]
    unfold entsL
    rw [show acc ++ (⟨#[]⟩ : ByteArray) = acc from ByteArray.append_empty]
  | succ d ih =>
    intro i acc hi ha
    have hz := entAt_size h i (by omega)
    obtain ⟨p1, p2, p3⟩ := entAt_parts h i (by omega)
    rw [entsL_step leaf keys vals kids i (by omega), ← ByteArray.append_assoc]
    obtain ⟨K2, e2⟩ := ih (i + 1) (acc ++ entAt leaf keys vals kids i) (by omega) (by rw [ByteArray.size_append]; omega)
    unfold entAt at e2 hz ⊢
    rw [ByteArray.size_append] at hz
    obtain ⟨K1, e1⟩ := impl_shortOf_fev (rdOf ByteArray.empty keys (i : Int)) (by omega)
    cases leaf with
    | true =>
      rw [if_pos rfl] at e2 hz ⊢
      obtain ⟨q1, q2⟩ := p2 rfl
      obtain ⟨K3, e3⟩ := impl_shortOf_fev (rdOf ByteArray.empty vals (i : Int)) (by omega)
      refine ev_succ ⟨K1 + K2 + K3, fun k hk => ?_⟩
      dsimp only at e1 e2 e3
      rw [impl_NodeText.l0, if_pos (by omega), if_pos (by omega), if_pos (by omega), e1 k (by omega), Option.bind_some, if_pos (by omega), if_pos rfl, if_pos (by omega), e3 k (by omega), Option.bind_some, if_pos (by rw [ByteArray.size_append]; omega), w64 (by omega) (by omega), ByteArray.append_assoc]
      exact e2 k (by omega)
    | false =>
      rw [if_neg (by decide)] at e2 hz ⊢
      obtain ⟨q1, q2, q3⟩ := p3 rfl
      obtain ⟨K3, e3⟩ := impl_varText_fev (rd kids (i : Int)) (by omega) (by omega)
      refine ev_succ ⟨K1 + K2 + K3, fun k hk => ?_⟩
      dsimp only at e1 e2 e3
      rw [impl_NodeText.l0, if_pos (by omega), if_pos (by omega), if_pos (by omega), e1 k (by omega), Option.bind_some, if_pos (by omega), if_neg (by decide), if_pos (by omega), e3 k (by omega), Option.bind_some, if_pos (by rw [ByteArray.size_append]; omega), w64 (by omega) (by omega), ByteArray.append_assoc]
      exact e2 k (by omega)
theorem impl_NodeText_fev (leaf : Bool) (keys vals : List ByteArray) (kids : List Int) (h1 : keys.length ≤ 1048576) (hk : kids.length ≤ 1048576) : Ev (fun k => impl_NodeText.f k leaf keys vals kids) (nodeTextR leaf keys vals kids) := by
  unfold nodeTextR
  refine ev_call (impl_NodeOk_fev leaf keys vals kids h1 hk) ?_ (fun k => rfl)
  cases h : nodeOkR leaf keys vals kids with
  | false => exact ev_some fun k => rfl
  | true =>
    obtain ⟨_, hn, _⟩ := nodeOkR_tells h
    have hz := nodeB_size h
    rw [if_pos rfl]
    have hs : sealedR (nodeB leaf keys vals kids) = (nodeB leaf keys vals kids ++ sealB (nodeB leaf keys vals kids), true) := by unfold sealedR; rw [if_neg (by omega)]
    rw [← hs]
    obtain ⟨K1, e1⟩ := impl_varText_fev (keys.length : Int) (by omega) (by omega)
    rw [Int.toNat_natCast] at e1
    have hv := varB_size_le keys.length (by omega)
    have go : ∀ (b : ByteArray), b.size = 1 → Ev (fun k => impl_NodeText.j0 k b leaf keys vals kids) (sealedR ((b ++ varB keys.length) ++ entsL leaf keys vals kids)) := by
      intro b hb
      obtain ⟨K2, e2⟩ := impl_NodeText_loop h keys.length 0 (b ++ varB keys.length) (by omega) (by rw [ByteArray.size_append]; omega)
      rw [List.drop_zero, List.drop_zero, List.drop_zero] at e2
      refine ev_succ ⟨K1 + K2, fun k hk => ?_⟩
      dsimp only at e1 e2
      rw [impl_NodeText.j0, e1 k (by omega), Option.bind_some, if_pos (by omega)]
      exact e2 k (by omega)
    cases leaf with
    | true => exact go _ rfl
    | false => exact go _ rfl
theorem laws_eqStringS_loop (a : List ByteArray) (hb : a.length ≤ 9223372036854775807) : ∀ (d i : Nat), i + d = a.length → Ev (fun k => laws_eqStringS.l0 k a a (i : Int)) true := by
  intro d
  induction d with
  | zero =>
    intro i hi
    refine ev_end fun k => ?_
    rw [laws_eqStringS.l0, if_neg (by omega)]
  | succ d ih =>
    intro i hi
    refine ev_go (ih (i + 1) (by omega)) fun k => ?_
    rw [laws_eqStringS.l0, if_pos (by omega), if_pos (by omega), if_pos (by omega), if_pos rfl, w64 (by omega) (by omega)]
    rfl
theorem laws_eqStringS_same (a : List ByteArray) (hb : a.length ≤ 9223372036854775807) : Ev (fun k => laws_eqStringS.f k a a) true := by
  refine Ev.congr (fun k => ?_) (laws_eqStringS_loop a hb a.length 0 (by omega))
  unfold laws_eqStringS.f
  rw [if_pos rfl]
  rfl
theorem laws_eqIntS_loop (a : List Int) (hb : a.length ≤ 9223372036854775807) : ∀ (d i : Nat), i + d = a.length → Ev (fun k => laws_eqIntS.l0 k a a (i : Int)) true := by
  intro d
  induction d with
  | zero =>
    intro i hi
    refine ev_end fun k => ?_
    rw [laws_eqIntS.l0, if_neg (by omega)]
  | succ d ih =>
    intro i hi
    refine ev_go (ih (i + 1) (by omega)) fun k => ?_
    rw [laws_eqIntS.l0, if_pos (by omega), if_pos (by omega), if_pos (by omega), if_pos rfl, w64 (by omega) (by omega)]
    rfl
theorem laws_eqIntS_same (a : List Int) (hb : a.length ≤ 9223372036854775807) : Ev (fun k => laws_eqIntS.f k a a) true := by
  refine Ev.congr (fun k => ?_) (laws_eqIntS_loop a hb a.length 0 (by omega))
  unfold laws_eqIntS.f
  rw [if_pos rfl]
  rfl
theorem laws_eqNode_same (l : Bool) (a b : List ByteArray) (c : List Int) (ha : a.length ≤ 9223372036854775807) (hb : b.length ≤ 9223372036854775807) (hc : c.length ≤ 9223372036854775807) : Ev (fun k => laws_eqNode.f k l a b c l a b c) true := by
  obtain ⟨K1, h1⟩ := laws_eqStringS_same a ha
  obtain ⟨K2, h2⟩ := laws_eqStringS_same b hb
  obtain ⟨K3, h3⟩ := laws_eqIntS_same c hc
  dsimp only at h1 h2 h3
  refine ⟨K1 + K2 + K3, fun k hk => ?_⟩
  dsimp only
  unfold laws_eqNode.f
  rw [bne_self_eq_false, if_neg (by decide), h1 k (by omega), Option.bind_some, if_pos rfl, h2 k (by omega), Option.bind_some, if_pos rfl, h3 k (by omega), Option.bind_some, if_pos rfl]
end Go.Proofs.Ytkobbccjjglfmaa.VFnExactNodeText
namespace Go.Proofs.Ytkobbccjjglfmaa.Pure
open Go.Proofs.Ytkobbccjjglfmaa.VFnExactNodeText
set_option linter.unusedVariables false
set_option linter.unusedSimpArgs false
open Go Go.RowKit Go.Proofs.YtkobbccjjglfmaaW.PrintWords Go.Proofs.YtkobbccjjglfmaaW.PrintLast Go.Proofs.YtkobbccjjglfmaaW.PrintMore
theorem FnExactNodeText (l : Bool) (a b : List ByteArray) (c : List Int) (h1 : a.length ≤ 9223372036854775807) (h3 : ∀ x ∈ a, x.size ≤ 9223372036854775807) (h2 : b.length ≤ 9223372036854775807) (h4 : ∀ x ∈ b, x.size ≤ 9223372036854775807) (h5 : c.length ≤ 9223372036854775807) (_ : ∀ x ∈ c, (Lit.int .i64 x).wf = true) : ∃ k, laws_FnExactNodeText.f k l a b c = some true := by
  obtain ⟨K1, e1⟩ := laws_szNode_fev l a b c h1 h2 h5 h3 h4 1048576 (by omega) (by omega)
  dsimp only at e1
  by_cases cc : szNodeR a b c 1048576 < 0
  · refine ⟨K1, ?_⟩
    unfold laws_FnExactNodeText.f
    rw [e1 _ (Nat.le_refl _), Option.bind_some, if_pos cc]
  · have ht := szNodeR_tells a b c 1048576 (by omega)
    obtain ⟨K2, e2⟩ := laws_toNode_fev l a b c (by omega) (by omega) (by omega)
    obtain ⟨K3, e3⟩ := spec_NodeText_fev l a b c (by omega) (by omega) (by omega)
    obtain ⟨K4, e4⟩ := impl_NodeText_fev l a b c (by omega) (by omega)
    obtain ⟨K5, e5⟩ := laws_eqNode_same l a b c (by omega) (by omega) (by omega)
    dsimp only at e2 e3 e4 e5
    refine ⟨K1 + K2 + K3 + K4 + K5 + 1, ?_⟩
    unfold laws_FnExactNodeText.f
    rw [e1 _ (by omega), Option.bind_some, if_neg cc, e2 _ (by omega), Option.bind_some, e3 _ (by omega), Option.bind_some, Option.bind_some, e4 _ (by omega), Option.bind_some, if_pos rfl, bne_self_eq_false, laws_FnExactNodeText.j0, if_neg (by decide), e2 _ (by omega), Option.bind_some, e5 _ (by omega), Option.bind_some, if_pos rfl]
end Go.Proofs.Ytkobbccjjglfmaa.Pure
