/- The printed form of FnTurned answers true at every input that its bounds let in; no other conditions. -/
import Derived.Test.YtdgefpifohfcgaaVFnTurnedx3
import Derived.Test.YtdgefpifohfcgaaG
import Derived.Lib.Bytealg
namespace Go.Proofs.Ytdgefpifohfcgaa.VFnTurned
set_option linter.unusedVariables false
set_option linter.unusedSimpArgs false
open Go Go.RowKit Go.Proofs.YtdgefpifohfcgaaW.PrintWords Go.Proofs.YtdgefpifohfcgaaW.PrintLast Go.Proofs.YtdgefpifohfcgaaW.PrintMore
theorem w64 {n : Int} (h : -9223372036854775808 ≤ n) (h' : n ≤ 9223372036854775807) : wrap64 n = n := by
  unfold wrap64; omega
theorem ev_some {α : Type} {g : Nat → Option α} {r : α} (h : ∀ k, g k = some r) : Ev g r := ⟨0, fun k _ => h k⟩
theorem ev_succ {α : Type} {g : Nat → Option α} {r : α} (h : ∃ K, ∀ k, K ≤ k → g (k + 1) = some r) : Ev g r := by
  obtain ⟨K, h⟩ := h
  refine ⟨K + 1, fun k hk => ?_⟩
  obtain ⟨m, rfl⟩ : ∃ m, k = m + 1 := ⟨k - 1, by omega⟩
  exact h m (by omega)
/-- One round that goes on. -/
theorem ev_go {α : Type} {g f : Nat → Option α} {r : α} (hf : Ev f r) (h : ∀ k, g (k + 1) = f k) : Ev g r := Ev.step h hf
/-- One round that ends. -/
theorem ev_end {α : Type} {g : Nat → Option α} {r : α} (h : ∀ k, g (k + 1) = some r) : Ev g r := ev_succ ⟨0, fun k _ => h k⟩
/-- One call, then the rest. -/
theorem ev_call {α β : Type} {g : Nat → Option α} {f : Nat → Option β} {c : Nat → β → Option α} {b : β} {r : α} (hf : Ev f b) (hc : Ev (fun k => c k b) r) (h : ∀ k, g k = (f k).bind (c k)) : Ev g r :=
  Ev.congr h (Ev.bind hf hc)
theorem bt_lo (s : ByteArray) (i : Int) : 0 ≤ bt s i := (bt_range s i).1
theorem bt_hi (s : ByteArray) (i : Int) : bt s i ≤ 255 := (bt_range s i).2
theorem bytesOf_drop (s : ByteArray) (i : Nat) (h : i < s.size) : (bytesOf s).drop i = bt s (i : Int) :: (bytesOf s).drop (i + 1) := by
  have hl : i < (bytesOf s).length := by rw [bytesOf_length]; exact h
  rw [List.drop_eq_getElem_cons hl]
  congr 1
  rw [← rd_bytesOf s (i : Int)]
  unfold rd
  rw [Int.toNat_natCast]
  simp [List.getD, hl]
theorem bytesOf_range (s : ByteArray) : ∀ x ∈ bytesOf s, 0 ≤ x ∧ x ≤ 255 := by
  intro x hx
  unfold bytesOf at hx
  obtain ⟨b, _, rfl⟩ := List.mem_map.1 hx
  have := b.toNat_lt
  omega
theorem toList_inj {s t : ByteArray} (h : s.toList = t.toList) : s = t := by
  rw [ByteArray.toList_eq, ByteArray.toList_eq] at h
  exact ByteArray.ext (Array.toList_inj.1 h)
theorem strOfNums_bytesOf (s : ByteArray) : strOfNums (bytesOf s) = s := by
  apply ByteArray.ext
  apply Array.toList_inj.1
  rw [strOfNums_data]
  unfold bytesOf
  rw [List.map_map]
  conv => rhs; rw [← List.map_id s.data.toList]
  apply List.map_congr_left
  intro b _
  simp
theorem bytesOf_strOfNums (xs : List Int) (h : ∀ x ∈ xs, 0 ≤ x ∧ x ≤ 255) : bytesOf (strOfNums xs) = xs := by
  unfold bytesOf
  rw [strOfNums_data, List.map_map]
  conv => rhs; rw [← List.map_id xs]
  apply List.map_congr_left
  intro b hb
  have := h b hb
  simp only [Function.comp, UInt8.toNat_ofNat', id]
  omega
theorem bytesOf_extract (s : ByteArray) (a b : Nat) : bytesOf (s.extract a b) = ((bytesOf s).drop a).take (b - a) := by
  unfold bytesOf
  rw [ByteArray.data_extract, Array.toList_extract, List.extract_eq_take_drop, List.map_take, List.map_drop]
theorem bytesOf_append (s t : ByteArray) : bytesOf (s ++ t) = bytesOf s ++ bytesOf t := by
  unfold bytesOf
  rw [ByteArray.data_append, Array.toList_append, List.map_append]
theorem bytesOf_inj {s t : ByteArray} (h : bytesOf s = bytesOf t) : s = t := by
  rw [← strOfNums_bytesOf s, ← strOfNums_bytesOf t, h]
theorem toList_eq_iff (s t : ByteArray) : s.toList = t.toList ↔ s = t := ⟨toList_inj, fun h => by rw [h]⟩
theorem bytesOf_length_drop (s : ByteArray) (i : Nat) : ((bytesOf s).drop i).length = s.size - i := by rw [List.length_drop, bytesOf_length]
def sumStep (x : Int) : Int := if x % 2 = 1 then Go.bits .xor .u32 (x / 2) 3558460437 else x / 2
def sumSteps : Nat → Int → Int
  | 0, x => x
  | n + 1, x => sumSteps n (sumStep x)
def sumByte (x b : Int) : Int := sumSteps 8 (Go.bits .xor .u32 x b)
def sumL : Int → List Int → Int
  | x, [] => x
  | x, b :: t => sumL (sumByte x b) t
def sumR (x : Int) (s : ByteArray) : Int := sumL x (bytesOf s)
def fourB (n : Int) : ByteArray := strOfNums ([(n / 16777216) % 256, (n / 65536) % 256, (n / 256) % 256, n % 256] : List Int)
def sealB (s : ByteArray) : ByteArray := fourB (sumR 4294967295 s)
theorem bits_u32_range (o : BinOp) (x y : Int) (h : o = .xor) : 0 ≤ Go.bits o .u32 x y ∧ Go.bits o .u32 x y < 4294967296 := by
  subst h
  unfold Go.bits
  simp only
  rw [IntKind.wrap_u32]
  omega
theorem sumStep_range (x : Int) (h : 0 ≤ x ∧ x < 4294967296) : 0 ≤ sumStep x ∧ sumStep x < 4294967296 := by
  unfold sumStep
  split
  · exact bits_u32_range _ _ _ rfl
  · omega
theorem sumSteps_range (n : Nat) : ∀ x : Int, 0 ≤ x ∧ x < 4294967296 → 0 ≤ sumSteps n x ∧ sumSteps n x < 4294967296 := by
  induction n with
  | zero => exact fun x h => h
  | succ n ih => exact fun x h => ih _ (sumStep_range x h)
theorem sumByte_range (x b : Int) : 0 ≤ sumByte x b ∧ sumByte x b < 4294967296 := sumSteps_range 8 _ (bits_u32_range _ _ _ rfl)
theorem sumL_range (l : List Int) : ∀ x : Int, 0 ≤ x ∧ x < 4294967296 → 0 ≤ sumL x l ∧ sumL x l < 4294967296 := by
  induction l with
  | nil => exact fun x h => h
  | cons b t ih => exact fun x _ => ih _ (sumByte_range x b)
theorem sumR_range (x : Int) (s : ByteArray) (h : 0 ≤ x ∧ x < 4294967296) : 0 ≤ sumR x s ∧ sumR x s < 4294967296 := sumL_range _ x h
theorem u32_and1 (x : Int) (h : 0 ≤ x ∧ x < 4294967296) : Go.bits .and .u32 x 1 = x % 2 :=
  Go.bits_mask .u32 32 (by decide) (fun n a b => by rw [IntKind.wrap_u32]; omega) 1 (by decide) x h.1 (by omega)
theorem fourB_size (n : Int) : (fourB n).size = 4 := by unfold fourB; rw [strOfNums_size]; rfl
theorem sealB_size (s : ByteArray) : (sealB s).size = 4 := fourB_size _
def sealedR (s : ByteArray) : ByteArray × Bool := if (s.size : Int) > 20000 then (⟨#[]⟩, false) else (s ++ sealB s, true)
theorem bits_xor_u32 (a b : Int) (ha : 0 ≤ a ∧ a < 4294967296) (hb : 0 ≤ b ∧ b < 4294967296) : Go.bits .xor .u32 a b = ((a.toNat ^^^ b.toNat : Nat) : Int) := by
  obtain ⟨x, rfl⟩ := Int.eq_ofNat_of_zero_le ha.1
  obtain ⟨y, rfl⟩ := Int.eq_ofNat_of_zero_le hb.1
  unfold Go.bits
  simp only [BitVec.ofInt_natCast, BitVec.toNat_xor, BitVec.toNat_ofNat, Int.toNat_natCast]
  have e : (2 : Nat) ^ IntKind.u32.bits = 4294967296 := by decide
  rw [e, Nat.mod_eq_of_lt (by omega), Nat.mod_eq_of_lt (by omega), IntKind.wrap_u32]
  have := Nat.xor_lt_two_pow (n := 32) (show x < 2 ^ 32 by omega) (show y < 2 ^ 32 by omega)
  omega
theorem nat_xor_cancel (a b p : Nat) (h : a ^^^ p = b ^^^ p) : a = b := by
  have := congrArg (fun z => z ^^^ p) h
  simpa [Nat.xor_assoc] using this
theorem nat_xor_cancel_left (a b p : Nat) (h : p ^^^ a = p ^^^ b) : a = b := by
  rw [Nat.xor_comm p a, Nat.xor_comm p b] at h
  exact nat_xor_cancel a b p h
theorem xor_high (a : Nat) (h : a < 2147483648) : a ^^^ 3558460437 ≥ 2147483648 := by
  have : (a ^^^ 3558460437).testBit 31 = true := by
    rw [Nat.testBit_xor, Nat.testBit_lt_two_pow (show a < 2 ^ 31 by omega)]
    decide
  exact Nat.ge_two_pow_of_testBit this
theorem sumStep_inj (x y : Int) (hx : 0 ≤ x ∧ x < 4294967296) (hy : 0 ≤ y ∧ y < 4294967296) (h : sumStep x = sumStep y) : x = y := by
  unfold sumStep at h
  have gx := xor_high (x / 2).toNat (by omega)
  have gy := xor_high (y / 2).toNat (by omega)
  rw [bits_xor_u32 (x / 2) _ (by omega) (by omega), bits_xor_u32 (y / 2) _ (by omega) (by omega)] at h
  have e : (3558460437 : Int).toNat = 3558460437 := rfl
  rw [e] at h
  by_cases cx : x % 2 = 1
  · rw [if_pos cx] at h
    by_cases cy : y % 2 = 1
    · rw [if_pos cy] at h
      have := nat_xor_cancel _ _ _ (Int.ofNat.inj h)
      omega
    · rw [if_neg cy] at h
      omega
  · rw [if_neg cx] at h
    by_cases cy : y % 2 = 1
    · rw [if_pos cy] at h
      omega
    · rw [if_neg cy] at h
      omega
theorem sumSteps_inj (n : Nat) : ∀ x y : Int, 0 ≤ x ∧ x < 4294967296 → 0 ≤ y ∧ y < 4294967296 → sumSteps n x = sumSteps n y → x = y := by
  induction n with
  | zero => exact fun x y _ _ h => h
  | succ n ih => exact fun x y hx hy h => sumStep_inj x y hx hy (ih _ _ (sumStep_range x hx) (sumStep_range y hy) h)
theorem sumByte_inj_left (x y b : Int) (hx : 0 ≤ x ∧ x < 4294967296) (hy : 0 ≤ y ∧ y < 4294967296) (hb : 0 ≤ b ∧ b ≤ 255) (h : sumByte x b = sumByte y b) : x = y := by
  have := sumSteps_inj 8 _ _ (bits_u32_range _ x b rfl) (bits_u32_range _ y b rfl) h
  rw [bits_xor_u32 x b hx (by omega), bits_xor_u32 y b hy (by omega)] at this
  have := nat_xor_cancel _ _ _ (Int.ofNat.inj this)
  omega
theorem sumByte_inj_right (x b c : Int) (hx : 0 ≤ x ∧ x < 4294967296) (hb : 0 ≤ b ∧ b ≤ 255) (hc : 0 ≤ c ∧ c ≤ 255) (h : sumByte x b = sumByte x c) : b = c := by
  have := sumSteps_inj 8 _ _ (bits_u32_range _ x b rfl) (bits_u32_range _ x c rfl) h
  rw [bits_xor_u32 x b hx (by omega), bits_xor_u32 x c hx (by omega)] at this
  have := nat_xor_cancel_left _ _ _ (Int.ofNat.inj this)
  omega
theorem sumL_inj (l : List Int) (hl : ∀ x ∈ l, 0 ≤ x ∧ x ≤ 255) : ∀ x y : Int, 0 ≤ x ∧ x < 4294967296 → 0 ≤ y ∧ y < 4294967296 → sumL x l = sumL y l → x = y := by
  induction l with
  | nil => exact fun x y _ _ h => h
  | cons b t ih =>
    intro x y hx hy h
    exact sumByte_inj_left x y b hx hy (hl b (by simp)) (ih (fun z hz => hl z (by simp [hz])) _ _ (sumByte_range x b) (sumByte_range y b) h)
theorem sumL_append (l m : List Int) : ∀ x : Int, sumL x (l ++ m) = sumL (sumL x l) m := by
  induction l with
  | nil => exact fun x => rfl
  | cons b t ih => exact fun x => ih _
theorem sumR_append (x : Int) (s t : ByteArray) : sumR x (s ++ t) = sumR (sumR x s) t := by unfold sumR; rw [bytesOf_append, sumL_append]
theorem sumL_turned (x : Int) (hx : 0 ≤ x ∧ x < 4294967296) (l m : List Int) (b c : Int) (hm : ∀ x ∈ m, 0 ≤ x ∧ x ≤ 255) (hb : 0 ≤ b ∧ b ≤ 255) (hc : 0 ≤ c ∧ c ≤ 255) (hbc : b ≠ c) : sumL x (l ++ b :: m) ≠ sumL x (l ++ c :: m) := by
  intro h
  rw [sumL_append, sumL_append] at h
  exact hbc (sumByte_inj_right _ b c (sumL_range l x hx) hb hc (sumL_inj m hm _ _ (sumByte_range _ b) (sumByte_range _ c) h))
theorem four_inj (m n : Int) (hm : 0 ≤ m ∧ m < 4294967296) (hn : 0 ≤ n ∧ n < 4294967296) (h : fourB m = fourB n) : m = n := by
  have h1 : bytesOf (fourB m) = bytesOf (fourB n) := by rw [h]
  unfold fourB at h1
  rw [bytesOf_strOfNums _ (by intro x hx; simp at hx; omega), bytesOf_strOfNums _ (by intro x hx; simp at hx; omega)] at h1
  simp only [List.cons.injEq, and_true] at h1
  omega
def unsealedR (s : ByteArray) : ByteArray × Bool :=
  if 4 ≤ s.size ∧ s.size ≤ 20004 ∧ s.extract (s.size - 4) s.size = sealB (s.extract 0 (s.size - 4)) then (s.extract 0 (s.size - 4), true) else (⟨#[]⟩, false)
theorem extract_size_le (s : ByteArray) (a b : Nat) : (s.extract a b).size ≤ s.size := by
  have : (bytesOf (s.extract a b)).length ≤ s.size := by
    rw [bytesOf_extract, List.length_take, bytesOf_length_drop]; omega
  rwa [bytesOf_length] at this
section
variable {α β : Type}
theorem rd_get (xs : List Int) (i : Nat) (h : i < xs.length) : rd xs (i : Int) = xs[i] := by
  unfold rd
  rw [Int.toNat_natCast]
  simp [List.getD, h]
theorem rd_mem (xs : List Int) (i : Nat) (h : i < xs.length) : rd xs (i : Int) ∈ xs := by
  rw [rd_get xs i h]; exact List.getElem_mem h
end
theorem i64_and_range (y m : Int) (h0 : 0 ≤ m) (h1 : m ≤ 9223372036854775807) : 0 ≤ Go.bits .and .i64 y m ∧ Go.bits .and .i64 y m ≤ m := by
  unfold Go.bits
  simp only
  rw [IntKind.wrap_i64, BitVec.toNat_and]
  have h2 : (2 : Nat) ^ IntKind.i64.bits = 18446744073709551616 := by decide
  have h3 : (BitVec.ofInt IntKind.i64.bits m).toNat = m.toNat := by
    rw [BitVec.toNat_ofInt, h2]; omega
  rw [h3]
  have := Nat.and_le_right (n := (BitVec.ofInt IntKind.i64.bits y).toNat) (m := m.toNat)
  omega
theorem in_dec (x a b : Int) : (if x ≥ a then some (decide (x ≤ b)) else some false) = some (decide (a ≤ x ∧ x ≤ b)) := by
  by_cases c : x ≥ a
  · rw [if_pos c]
    congr 1
    by_cases d : x ≤ b
    · rw [decide_eq_true d, decide_eq_true ⟨c, d⟩]
    · rw [decide_eq_false d, decide_eq_false (fun h => d h.2)]
  · rw [if_neg c, decide_eq_false (fun h => c h.1)]
def Took (s : ByteArray) (a b : Int) (x : ByteArray) : Prop := 0 ≤ a ∧ b ≤ (s.size : Int) ∧ b = a + (x.size : Int) ∧ (bytesOf s).drop a.toNat = bytesOf x ++ (bytesOf s).drop b.toNat
theorem Took.trans {s : ByteArray} {a b c : Int} {x y : ByteArray} (h : Took s a b x) (g : Took s b c y) : Took s a c (x ++ y) := by
  obtain ⟨h1, h2, h3, h4⟩ := h
  obtain ⟨g1, g2, g3, g4⟩ := g
  refine ⟨h1, g2, by rw [ByteArray.size_append]; omega, ?_⟩
  rw [h4, g4, bytesOf_append, List.append_assoc]
theorem Took.whole {s : ByteArray} {b : Int} {x : ByteArray} (h : Took s 0 b x) (hb : b = (s.size : Int)) : x = s := by
  obtain ⟨h1, h2, h3, h4⟩ := h
  have e : (bytesOf s).drop b.toNat = [] := List.drop_eq_nil_of_le (by rw [bytesOf_length]; omega)
  rw [e, List.append_nil] at h4
  exact (bytesOf_inj h4).symm
theorem Took.all (s x t : ByteArray) : Took (s ++ x ++ t) (s.size : Int) ((s.size : Int) + (x.size : Int)) x := by
  refine ⟨by omega, by rw [ByteArray.size_append, ByteArray.size_append]; omega, rfl, ?_⟩
  have e1 : (bytesOf s).length = s.size := bytesOf_length s
  have e2 : (bytesOf x).length = x.size := bytesOf_length x
  have e3 : ((s.size : Int) + (x.size : Int)).toNat = s.size + x.size := by omega
  have l1 : ((bytesOf s) ++ (bytesOf x ++ bytesOf t)).drop s.size = bytesOf x ++ bytesOf t := List.drop_left' e1
  have l2 : ((bytesOf s) ++ (bytesOf x ++ bytesOf t)).drop (s.size + x.size) = bytesOf t := by rw [← List.drop_drop, l1]; exact List.drop_left' e2
  rw [bytesOf_append, bytesOf_append, List.append_assoc, Int.toNat_natCast, e3, l1, l2]
theorem Took.extract {s : ByteArray} {a b : Int} {x : ByteArray} (h : Took s a b x) : s.extract a.toNat b.toNat = x := by
  obtain ⟨h1, h2, h3, h4⟩ := h
  apply bytesOf_inj
  rw [bytesOf_extract, h4, show b.toNat - a.toNat = (bytesOf x).length by rw [bytesOf_length]; omega, List.take_left']
  rfl
theorem Took.of_extract (s : ByteArray) (a b : Int) (h0 : 0 ≤ a) (h1 : a ≤ b) (h2 : b ≤ (s.size : Int)) : Took s a b (s.extract a.toNat b.toNat) := by
  have hz : (s.extract a.toNat b.toNat).size = b.toNat - a.toNat := by
    rw [← bytesOf_length, bytesOf_extract, List.length_take, bytesOf_length_drop]; omega
  refine ⟨h0, h2, by rw [hz]; omega, ?_⟩
  have e : (bytesOf s).drop b.toNat = ((bytesOf s).drop a.toNat).drop (b.toNat - a.toNat) := by rw [List.drop_drop]; congr 1; omega
  rw [bytesOf_extract, e, List.take_append_drop]
theorem extract_left (x y : ByteArray) : (x ++ y).extract 0 x.size = x := by
  have h := (Took.all ⟨#[]⟩ x y).extract
  have e : (⟨#[]⟩ : ByteArray) ++ x = x := ByteArray.empty_append
  have z : (⟨#[]⟩ : ByteArray).size = 0 := rfl
  rw [e, z] at h
  simpa using h
theorem extract_right (x y : ByteArray) : (x ++ y).extract x.size (x ++ y).size = y := by
  have h := (Took.all x y ⟨#[]⟩).extract
  have e : x ++ y ++ (⟨#[]⟩ : ByteArray) = x ++ y := ByteArray.append_empty
  rw [e] at h
  rw [ByteArray.size_append]
  have e2 : ((x.size : Int) + (y.size : Int)).toNat = x.size + y.size := by omega
  rw [e2, Int.toNat_natCast] at h
  exact h
theorem unsealedR_sealed (x : ByteArray) (h : x.size ≤ 20000) : unsealedR (x ++ sealB x) = (x, true) := by
  have hz := sealB_size x
  have hs : (x ++ sealB x).size = x.size + 4 := by rw [ByteArray.size_append, hz]
  have e1 := extract_left x (sealB x)
  have e2 := extract_right x (sealB x)
  unfold unsealedR
  rw [show (x ++ sealB x).size - 4 = x.size by omega, e1, e2, if_pos ⟨by omega, by omega, rfl⟩]
theorem unsealedR_tells {s x : ByteArray} (h : unsealedR s = (x, true)) : s = x ++ sealB x ∧ x.size ≤ 20000 ∧ s.size = x.size + 4 := by
  unfold unsealedR at h
  split at h
  · rename_i c
    obtain ⟨c1, c2, c3⟩ := c
    simp only [Prod.mk.injEq, and_true] at h
    have h0 := Took.of_extract s 0 ((s.size - 4 : Nat) : Int) (by omega) (by omega) (by omega)
    have h1 := Took.of_extract s ((s.size - 4 : Nat) : Int) (s.size : Int) (by omega) (by omega) (by omega)
    have h2 := (h0.trans h1).whole rfl
    rw [Int.toNat_natCast, Int.toNat_natCast, c3] at h2
    rw [show (0 : Int).toNat = 0 from rfl, h] at h2
    have hz := sealB_size x
    have : s.size = x.size + 4 := by rw [← h2, ByteArray.size_append, hz]
    exact ⟨h2.symm, by omega, this⟩
  · simp at h
theorem bits_xor_u8 (a b : Int) (ha : 0 ≤ a ∧ a < 256) (hb : 0 ≤ b ∧ b < 256) : Go.bits .xor .u8 a b = ((a.toNat ^^^ b.toNat : Nat) : Int) := by
  obtain ⟨x, rfl⟩ := Int.eq_ofNat_of_zero_le ha.1
  obtain ⟨y, rfl⟩ := Int.eq_ofNat_of_zero_le hb.1
  unfold Go.bits
  simp only [BitVec.ofInt_natCast, BitVec.toNat_xor, BitVec.toNat_ofNat, Int.toNat_natCast]
  have e : (2 : Nat) ^ IntKind.u8.bits = 256 := by decide
  rw [e, Nat.mod_eq_of_lt (by omega), Nat.mod_eq_of_lt (by omega), IntKind.wrap_u8]
  have := Nat.xor_lt_two_pow (n := 8) (show x < 2 ^ 8 by omega) (show y < 2 ^ 8 by omega)
  omega
theorem xor_u8_turns (a b : Int) (ha : 0 ≤ a ∧ a < 256) (hb : 0 < b ∧ b < 256) : 0 ≤ Go.bits .xor .u8 a b ∧ Go.bits .xor .u8 a b ≤ 255 ∧ Go.bits .xor .u8 a b ≠ a := by
  rw [bits_xor_u8 a b ha (by omega)]
  have := Nat.xor_lt_two_pow (n := 8) (show a.toNat < 2 ^ 8 by omega) (show b.toNat < 2 ^ 8 by omega)
  refine ⟨by omega, by omega, fun h => ?_⟩
  have h1 : a.toNat ^^^ b.toNat = a.toNat ^^^ 0 := by rw [Nat.xor_zero]; omega
  have := nat_xor_cancel_left _ _ _ h1
  omega
theorem turned_no (x : ByteArray) (hx : x.size ≤ 20000) (i : Nat) (v : Int) (hi : i < x.size + 4) (hv : 0 ≤ v ∧ v ≤ 255) (hne : v ≠ rd (bytesOf (x ++ sealB x)) (i : Int)) : (unsealedR (strOfNums ((bytesOf (x ++ sealB x)).set i v))).2 = false := by
  rcases h : unsealedR (strOfNums ((bytesOf (x ++ sealB x)).set i v)) with ⟨y, ok⟩
  cases ok with
  | false => rfl
  | true =>
    exfalso
    obtain ⟨hs, hy, hz⟩ := unsealedR_tells h
    have hr : ∀ c ∈ (bytesOf (x ++ sealB x)).set i v, 0 ≤ c ∧ c ≤ 255 := by
      intro c hc
      rcases List.mem_or_eq_of_mem_set hc with h1 | h1
      · exact bytesOf_range _ c h1
      · rw [h1]; exact hv
    have lx : (bytesOf x).length = x.size := bytesOf_length x
    have ly : (bytesOf y).length = y.size := bytesOf_length y
    have ls : (bytesOf (sealB x)).length = 4 := by rw [bytesOf_length, sealB_size]
    have hb := congrArg bytesOf hs
    rw [bytesOf_strOfNums _ hr, bytesOf_append, bytesOf_append] at hb
    rw [bytesOf_append] at hne
    have hsz : y.size = x.size := by
      have := congrArg List.length hb
      rw [List.length_set, List.length_append, List.length_append, lx, ly, bytesOf_length, bytesOf_length, sealB_size, sealB_size] at this
      omega
    by_cases c : i < x.size
    · rw [List.set_append_left _ _ (by omega)] at hb
      obtain ⟨h1, h2⟩ := List.append_inj hb (by rw [List.length_set]; omega)
      have h3 := bytesOf_inj h2
      unfold sealB at h3
      have h4 := four_inj _ _ (sumR_range _ x (by omega)) (sumR_range _ y (by omega)) h3
      unfold sumR at h4
      rw [← h1, List.set_eq_take_append_cons_drop, if_pos (by omega)] at h4
      have h5 : bytesOf x = (bytesOf x).take i ++ (bytesOf x)[i]'(by omega) :: (bytesOf x).drop (i + 1) := by
        rw [← List.drop_eq_getElem_cons, List.take_append_drop]
      have hci : (bytesOf x)[i]'(by omega) = rd (bytesOf x ++ bytesOf (sealB x)) (i : Int) := by
        rw [rd_get _ i (by rw [List.length_append]; omega), List.getElem_append_left (by omega)]
      have hcr := bytesOf_range x _ (List.getElem_mem (by omega : i < (bytesOf x).length))
      refine sumL_turned 4294967295 (by omega) ((bytesOf x).take i) ((bytesOf x).drop (i + 1)) ((bytesOf x)[i]'(by omega)) v (fun z hz => bytesOf_range x z (List.mem_of_mem_drop hz)) hcr hv (fun e => hne (by rw [← hci]; exact e.symm)) ?_
      rw [← h5]
      exact h4
    · rw [List.set_append_right _ _ (by omega)] at hb
      obtain ⟨h1, h2⟩ := List.append_inj hb (by omega)
      have h3 : x = y := bytesOf_inj h1
      subst h3
      have h4 : ((bytesOf (sealB x)).set (i - (bytesOf x).length) v)[i - (bytesOf x).length]'(by rw [List.length_set]; omega) = (bytesOf (sealB x))[i - (bytesOf x).length]'(by omega) := by
        simp only [h2]
      rw [List.getElem_set_self] at h4
      apply hne
      rw [rd_get _ i (by rw [List.length_append]; omega), List.getElem_append_right (by omega)]
      exact h4
theorem impl_in_eq (x a b : Int) : impl_in.f x a b = some (decide (a ≤ x ∧ x ≤ b)) := in_dec x a b
theorem impl_SumMore_steps (s : ByteArray) (i : Int) (r : Int) : ∀ (d : Nat) (x : Int) (j : Int), j + d = 8 → 0 ≤ j → 0 ≤ x ∧ x < 4294967296 → Ev (fun k => impl_SumMore.l0 k (sumSteps d x) s (s.size : Int) (wrap64 (i + 1))) r → Ev (fun k => impl_SumMore.l1 k x s (s.size : Int) i j) r := by
  intro d
  induction d with
  | zero =>
    intro x j hj h0 hx h
    refine ev_go h fun k => ?_
    rw [impl_SumMore.l1, if_neg (by omega)]
    rfl
  | succ d ih =>
    intro x j hj h0 hx h
    refine ev_go (ih (sumStep x) (j + 1) (by omega) (by omega) (sumStep_range x hx) h) fun k => ?_
    rw [impl_SumMore.l1, if_pos (by omega), u32_and1 x hx, w64 (n := j + 1) (by omega) (by omega)]
    unfold sumStep
    by_cases c : x % 2 = 1
    · rw [if_pos c, if_pos c]
    · rw [if_neg c, if_neg c]
theorem impl_SumMore_loop (s : ByteArray) (hs : s.size ≤ 140737488351232) : ∀ (d : Nat) (x : Int) (i : Nat), i + d = s.size → 0 ≤ x ∧ x < 4294967296 → Ev (fun k => impl_SumMore.l0 k x s (s.size : Int) (i : Int)) (sumL x ((bytesOf s).drop i)) := by
  intro d
  induction d with
  | zero =>
    intro x i hi hx
    refine ev_end fun k => ?_
    rw [impl_SumMore.l0, if_neg (by omega), List.drop_eq_nil_of_le (by rw [bytesOf_length]; omega)]
    rfl
  | succ d ih =>
    intro x i hi hx
    have hb := bt_lo s i
    have hb' := bt_hi s i
    rw [bytesOf_drop s i (by omega)]
    have hn := ih (sumByte x (bt s i)) (i + 1) (by omega) (sumByte_range _ _)
    refine ev_go (impl_SumMore_steps s i _ 8 (Go.bits .xor .u32 x (bt s i)) 0 (by omega) (by omega) (bits_u32_range _ _ _ rfl) ?_) fun k => ?_
    · rw [w64 (by omega) (by omega)]
      exact hn
    · rw [impl_SumMore.l0, if_pos (by omega), if_pos (by omega), if_pos (by omega), show bt s i % 4294967296 = bt s i by omega]
theorem impl_SumMore_fev (x : Int) (hx : 0 ≤ x ∧ x < 4294967296) (s : ByteArray) (hs : s.size ≤ 140737488351232) : Ev (fun k => impl_SumMore.f k x s) (sumR x s) :=
  impl_SumMore_loop s hs s.size x 0 (by omega) hx
theorem impl_SumOf_fev (s : ByteArray) (hs : s.size ≤ 140737488351232) : Ev (fun k => impl_SumOf.f k s) (sumR 4294967295 s) :=
  ev_call (impl_SumMore_fev 4294967295 (by omega) s hs) (Ev.now _) fun _ => rfl
theorem impl_seal_fev (s : ByteArray) (hs : s.size ≤ 140737488351232) : Ev (fun k => impl_seal.f k s) (sealB s) :=
  ev_call (impl_SumOf_fev s hs) (Ev.now _) fun _ => rfl
theorem impl_Unsealed_fev (s : ByteArray) (hs : s.size ≤ 140737488351232) : Ev (fun k => impl_Unsealed.f k s) (unsealedR s) := by
  unfold unsealedR
  have hw : wrap64 ((s.size : Int) - 4) = (s.size : Int) - 4 := w64 (by omega) (by omega)
  by_cases c : 4 ≤ s.size ∧ s.size ≤ 20004
  · have hx := extract_size_le s 0 (s.size - 4)
    have hn : ((s.size : Int) - 4).toNat = s.size - 4 := by omega
    refine ev_call (impl_seal_fev (s.extract 0 (s.size - 4)) (by omega)) (c := fun _ t106 => (if (s.extract (s.size - 4) s.size).toList = t106.toList then (some (s.extract 0 (s.size - 4), true)) else (some ((⟨#[]⟩ : ByteArray), false)))) (ev_some fun k => ?_) (fun k => ?_)
    · by_cases c2 : s.extract (s.size - 4) s.size = sealB (s.extract 0 (s.size - 4))
      · rw [if_pos ((toList_eq_iff _ _).2 c2), if_pos ⟨c.1, c.2, c2⟩]
      · rw [if_neg (fun h => c2 ((toList_eq_iff _ _).1 h)), if_neg (fun h => c2 h.2.2)]
    · unfold impl_Unsealed.f impl_in.f
      rw [hw, if_pos (by omega), Option.bind_some, decide_eq_true (by omega), if_pos rfl, if_pos (by omega), if_pos (by omega), hn]
  · rw [if_neg (fun h => c ⟨h.1, h.2.1⟩)]
    refine ev_some fun k => ?_
    unfold impl_Unsealed.f impl_in.f
    rw [hw]
    by_cases c1 : (s.size : Int) - 4 ≥ 0
    · rw [if_pos c1, Option.bind_some, decide_eq_false (by omega), if_neg (by decide)]
    · rw [if_neg c1, Option.bind_some, if_neg (by decide)]
theorem spec_l01New_loop (b : List Int) (hb : b.length ≤ 140737488351232) : ∀ (d i : Nat) (h : Int), i + d = b.length → ∃ h' : Int, Ev (fun k => spec_l01New.l0 k b h (i : Int)) (b, 0, h') := by
  intro d
  induction d with
  | zero =>
    intro i h hi
    exact ⟨h, ev_end fun k => by rw [spec_l01New.l0, if_neg (by omega)]⟩
  | succ d ih =>
    intro i h hi
    by_cases c : i < 4000
    · obtain ⟨h', e⟩ := ih (i + 1) (Go.bits .and .i64 (wrap64 ((wrap64 ((wrap64 (h * 131)) + (wrap64 (rd b (i : Int))))) + 7)) 1073741823) (by omega)
      refine ⟨h', ev_go e fun k => ?_⟩
      rw [spec_l01New.l0, if_pos (by omega), if_pos (by omega), if_pos (by omega), w64 (n := (i : Int) + 1) (by omega) (by omega)]
      rfl
    · exact ⟨h, ev_end fun k => by rw [spec_l01New.l0, if_pos (by omega), if_neg (by omega)]⟩
theorem spec_l01New_draws (b : List Int) (hb : b.length ≤ 140737488351232) : ∃ h : Int, Ev (fun k => spec_l01New.f k b) (b, 0, h) :=
  spec_l01New_loop b hb b.length 0 _ (by omega)
theorem spec_l01Byte_draws (b : List Int) (hb : b.length ≤ 140737488351232) (i h : Int) (hi : 0 ≤ i) : ∃ x i' h' : Int, spec_l01Byte.f b i h = some (x, i', h') ∧ 0 ≤ x ∧ x ≤ 255 ∧ 0 ≤ i' := by
  unfold spec_l01Byte.f
  by_cases c : i < (b.length : Int)
  · rw [if_pos c, if_pos hi, w64 (n := i + 1) (by omega) (by omega)]
    have hr := fun y => i64_and_range y 255 (by omega) (by omega)
    exact ⟨_, _, _, rfl, (hr _).1, (hr _).2, by omega⟩
  · rw [if_neg c]
    have hr := fun y => i64_and_range y 255 (by omega) (by omega)
    exact ⟨_, _, _, rfl, (hr _).1, (hr _).2, hi⟩
theorem spec_l01Text_loop (b : List Int) (hb : b.length ≤ 140737488351232) (n : Nat) (hn : n ≤ 5000) : ∀ (d j : Nat) (xs : List Int) (i h : Int), j + d = n → xs.length = j → 0 ≤ i → ∃ (s : ByteArray) (i' h' : Int), Ev (fun k => spec_l01Text.l0 k (n : Int) xs (j : Int) b i h) (s, i', h') ∧ s.size = n ∧ 0 ≤ i' := by
  intro d
  induction d with
  | zero =>
    intro j xs i h hj hx hi
    refine ⟨strOfNums xs, i, h, ev_end fun k => ?_, by rw [strOfNums_size]; omega, hi⟩
    rw [spec_l01Text.l0, if_neg (by omega)]
  | succ d ih =>
    intro j xs i h hj hx hi
    obtain ⟨x, i1, h1, e, _, _, p⟩ := spec_l01Byte_draws b hb i h hi
    obtain ⟨s, i', h', e2, hs, hp⟩ := ih (j + 1) (xs ++ [x % 256]) i1 h1 (by omega) (by simp [hx]) p
    refine ⟨s, i', h', ev_go e2 fun k => ?_, hs, hp⟩
    rw [spec_l01Text.l0, if_pos (by omega), e, Option.bind_some, if_pos (by omega), w64 (by omega) (by omega)]
    rfl
theorem spec_l01Text_draws (b : List Int) (hb : b.length ≤ 140737488351232) (i h n : Int) (hi : 0 ≤ i) (hn : 0 ≤ n) : ∃ (s : ByteArray) (i' h' : Int), Ev (fun k => spec_l01Text.f k b i h n) (s, i', h') ∧ s.size ≤ 5000 ∧ (s.size : Int) ≤ n ∧ 0 ≤ i' := by
  by_cases c : n > 5000
  · obtain ⟨s, i', h', e, hs, hp⟩ := spec_l01Text_loop b hb 5000 (by omega) 5000 0 [] i h (by omega) rfl hi
    refine ⟨s, i', h', ev_go e fun k => ?_, by omega, by omega, hp⟩
    unfold spec_l01Text.f
    rw [if_pos c, spec_l01Text.j0]
    rfl
  · obtain ⟨m, rfl⟩ := Int.eq_ofNat_of_zero_le hn
    obtain ⟨s, i', h', e, hs, hp⟩ := spec_l01Text_loop b hb m (by omega) m 0 [] i h (by omega) rfl hi
    refine ⟨s, i', h', ev_go e fun k => ?_, by omega, by omega, hp⟩
    unfold spec_l01Text.f
    rw [if_neg c, spec_l01Text.j0]
    rfl
theorem spec_l01Below_draws (b : List Int) (hb : b.length ≤ 140737488351232) (i h n : Int) (hi : 0 ≤ i) : ∃ x i' h' : Int, spec_l01Below.f b i h n = some (x, i', h') ∧ (0 < n → 0 ≤ x ∧ x < n) ∧ 0 ≤ i' ∧ 0 ≤ x ∧ (n ≤ 0 → x = 0) := by
  unfold spec_l01Below.f
  by_cases c : n ≤ 0
  · rw [if_pos c]
    exact ⟨0, i, h, rfl, fun hn => by omega, hi, by omega, fun _ => rfl⟩
  · rw [if_neg c]
    obtain ⟨x1, i1, h1, e1, l1, u1, p1⟩ := spec_l01Byte_draws b hb i h hi
    by_cases c2 : n ≤ 256
    · rw [if_pos c2, e1, Option.bind_some, if_neg (by omega)]
      have ht : Int.tmod x1 n = x1 % n := Int.tmod_eq_emod_of_nonneg l1
      have g1 := Int.emod_nonneg x1 (by omega : n ≠ 0)
      have g2 := Int.emod_lt_of_pos x1 (by omega : 0 < n)
      exact ⟨_, _, _, rfl, fun _ => by simp only; rw [ht]; exact ⟨g1, g2⟩, p1, by simp only; rw [ht]; exact g1, fun h => absurd h c⟩
    · rw [if_neg c2, e1, Option.bind_some]
      obtain ⟨x2, i2, h2, e2, l2, u2, p2⟩ := spec_l01Byte_draws b hb i1 h1 p1
      obtain ⟨x3, i3, h3, e3, l3, u3, p3⟩ := spec_l01Byte_draws b hb i2 h2 p2
      obtain ⟨x4, i4, h4, e4, l4, u4, p4⟩ := spec_l01Byte_draws b hb i3 h3 p3
      rw [e2, Option.bind_some, e3, Option.bind_some, e4, Option.bind_some, if_neg (by omega)]
      simp only
      rw [w64 (n := x1 * 16777216) (by omega) (by omega), w64 (n := x2 * 65536) (by omega) (by omega), w64 (n := x1 * 16777216 + _) (by omega) (by omega), w64 (n := x3 * 256) (by omega) (by omega), w64 (n := x1 * 16777216 + x2 * 65536 + _) (by omega) (by omega), w64 (by omega) (by omega)]
      have ht : Int.tmod (x1 * 16777216 + x2 * 65536 + x3 * 256 + x4) n = (x1 * 16777216 + x2 * 65536 + x3 * 256 + x4) % n := Int.tmod_eq_emod_of_nonneg (by omega)
      have g1 := Int.emod_nonneg (x1 * 16777216 + x2 * 65536 + x3 * 256 + x4) (by omega : n ≠ 0)
      have g2 := Int.emod_lt_of_pos (x1 * 16777216 + x2 * 65536 + x3 * 256 + x4) (by omega : 0 < n)
      exact ⟨_, _, _, rfl, fun _ => by rw [ht]; exact ⟨g1, g2⟩, p4, by rw [ht]; exact g1, fun h => absurd h c⟩
theorem spec_DrawSumOf_draws (b : List Int) (hb : b.length ≤ 140737488351232) : ∃ s : ByteArray, Ev (fun k => spec_DrawSumOf.f k b) s ∧ s.size ≤ 5000 := by
  obtain ⟨h, K, e⟩ := spec_l01New_draws b hb
  obtain ⟨x, i1, h1, e1, r1, p1, x0, _⟩ := spec_l01Below_draws b hb 0 h 40 (Int.le_refl 0)
  obtain ⟨s, i2, h2, ⟨K2, e2⟩, q1, q2, _⟩ := spec_l01Text_draws b hb i1 h1 x p1 x0
  refine ⟨s, ⟨K + K2, fun k hk => ?_⟩, q1⟩
  dsimp only at e e2 ⊢
  unfold spec_DrawSumOf.f
  rw [e k (by omega), Option.bind_some, e1, Option.bind_some]
  dsimp only
  rw [e2 k (by omega), Option.bind_some]
theorem spec_DrawPlaces_loop (b : List Int) (hb : b.length ≤ 140737488351232) : ∀ (d : Nat) (l : List Int) (u h : Int), l.length + d = 12 → (∀ x ∈ l, 0 ≤ x ∧ x < 10000) → 0 ≤ u → ∃ l' : List Int, Ev (fun k => spec_DrawPlaces.l0 k l (l.length : Int) b u h) l' ∧ l'.length = 12 ∧ ∀ x ∈ l', 0 ≤ x ∧ x < 10000 := by
  intro d
  induction d with
  | zero =>
    intro l u h hl hx hu
    refine ⟨l, ev_end fun k => ?_, by omega, hx⟩
    rw [spec_DrawPlaces.l0, if_neg (by omega)]
  | succ d ih =>
    intro l u h hl hx hu
    obtain ⟨x, u1, h1, e1, r1, p1, _⟩ := spec_l01Below_draws b hb u h 10000 hu
    have r1 := r1 (by omega)
    obtain ⟨l', e, q1, q2⟩ := ih (l ++ [x]) u1 h1 (by simp; omega) (by
      intro y hy
      rcases List.mem_append.1 hy with hy | hy
      · exact hx y hy
      · rw [List.mem_singleton.1 hy]; exact r1) p1
    refine ⟨l', ev_go e fun k => ?_, q1, q2⟩
    rw [spec_DrawPlaces.l0, if_pos (by omega), e1, Option.bind_some, if_pos (by omega), w64 (by omega) (by omega)]
    simp
theorem spec_DrawPlaces_draws (b : List Int) (hb : b.length ≤ 140737488351232) : ∃ l : List Int, Ev (fun k => spec_DrawPlaces.f k b) l ∧ l.length = 12 ∧ ∀ x ∈ l, 0 ≤ x ∧ x < 10000 := by
  obtain ⟨h, K, e⟩ := spec_l01New_draws b hb
  obtain ⟨x, u1, h1, e1, _, _, p1⟩ := spec_l01Byte_draws b hb 0 h (Int.le_refl 0)
  obtain ⟨l, ⟨K1, e2⟩, q1, q2⟩ := spec_DrawPlaces_loop b hb 12 [] u1 h1 (by simp) (by intro x hx; cases hx) p1
  refine ⟨l, ⟨K + K1, fun k hk => ?_⟩, q1, q2⟩
  dsimp only at e e2 ⊢
  unfold spec_DrawPlaces.f
  rw [e k (by omega), Option.bind_some, e1, Option.bind_some]
  exact e2 k (by omega)
theorem impl_Sealed_fev (s : ByteArray) (hs : s.size ≤ 140737488351232) : Ev (fun k => impl_Sealed.f k s) (sealedR s) := by
  unfold sealedR
  by_cases c : (s.size : Int) > 20000
  · rw [if_pos c]
    exact ev_some fun k => by unfold impl_Sealed.f; rw [if_pos c]
  · rw [if_neg c]
    refine ev_call (impl_seal_fev s hs) (ev_some fun k => ?_) fun k => by unfold impl_Sealed.f; rw [if_neg c]
    have h4 := sealB_size s
    rw [if_pos (by omega)]
end Go.Proofs.Ytdgefpifohfcgaa.VFnTurned
namespace Go.Proofs.Ytdgefpifohfcgaa.Pure
open Go.Proofs.Ytdgefpifohfcgaa.VFnTurned
set_option linter.unusedVariables false
set_option linter.unusedSimpArgs false
open Go Go.RowKit Go.Proofs.YtdgefpifohfcgaaW.PrintWords Go.Proofs.YtdgefpifohfcgaaW.PrintLast Go.Proofs.YtdgefpifohfcgaaW.PrintMore
theorem FnTurned : laws_FnTurned.Pure := by
  intro b _ hb _
  have hb' : b.length ≤ 140737488351232 := by omega
  obtain ⟨s, ⟨K1, e1⟩, hs⟩ := spec_DrawSumOf_draws b hb'
  obtain ⟨p, ⟨K2, e2⟩, l1, l2⟩ := spec_DrawPlaces_draws b hb'
  have hsz := sealB_size s
  have ht : (s ++ sealB s).size = s.size + 4 := by rw [ByteArray.size_append, hsz]
  obtain ⟨K3, e3⟩ := impl_Sealed_fev s (by omega)
  have g3 : sealedR s = (s ++ sealB s, true) := by unfold sealedR; rw [if_neg (by omega)]
  obtain ⟨K4, e4⟩ := impl_Unsealed_fev (s ++ sealB s) (by omega)
  have g4 : unsealedR (s ++ sealB s) = (s, true) := unsealedR_sealed s (by omega)
  have mem : ∀ i : Nat, i < 12 → 0 ≤ rd p (i : Int) ∧ rd p (i : Int) < 10000 := fun i hi => l2 _ (rd_mem p i (by omega))
  have m0 : 0 ≤ rd p 0 ∧ rd p 0 < 10000 := mem 0 (by omega)
  have m1 : 0 ≤ rd p 1 ∧ rd p 1 < 10000 := mem 1 (by omega)
  have yl : (bytesOf (s ++ sealB s)).length = s.size + 4 := by rw [bytesOf_length, ht]
  have p0 : 0 ≤ Int.tmod (rd p 0) ((bytesOf (s ++ sealB s)).length : Int) := by rw [Int.tmod_eq_emod_of_nonneg m0.1]; exact Int.emod_nonneg _ (by omega)
  have p1 : Int.tmod (rd p 0) ((bytesOf (s ++ sealB s)).length : Int) < ((bytesOf (s ++ sealB s)).length : Int) := by rw [Int.tmod_eq_emod_of_nonneg m0.1]; exact Int.emod_lt_of_pos _ (by omega)
  have q : 0 ≤ Int.tmod (rd p 1) 255 ∧ Int.tmod (rd p 1) 255 < 255 := by rw [Int.tmod_eq_emod_of_nonneg m1.1]; omega
  have w1 : wrap64 (1 + Int.tmod (rd p 1) 255) % 256 = 1 + Int.tmod (rd p 1) 255 := by rw [w64 (by omega) (by omega)]; omega
  obtain ⟨i, hi⟩ := Int.eq_ofNat_of_zero_le p0
  have hrd : 0 ≤ rd (bytesOf (s ++ sealB s)) (i : Int) ∧ rd (bytesOf (s ++ sealB s)) (i : Int) < 256 := by
    have := bytesOf_range (s ++ sealB s) _ (rd_mem (bytesOf (s ++ sealB s)) i (by omega))
    omega
  have turn := xor_u8_turns (rd (bytesOf (s ++ sealB s)) (i : Int)) (1 + Int.tmod (rd p 1) 255) hrd (by omega)
  have bad := turned_no s (by omega) i (Go.bits .xor .u8 (rd (bytesOf (s ++ sealB s)) (i : Int)) (1 + Int.tmod (rd p 1) 255)) (by omega) ⟨turn.1, turn.2.1⟩ turn.2.2
  obtain ⟨K5, e5⟩ := impl_Unsealed_fev (strOfNums ((bytesOf (s ++ sealB s)).set i (Go.bits .xor .u8 (rd (bytesOf (s ++ sealB s)) (i : Int)) (1 + Int.tmod (rd p 1) 255)))) (by rw [strOfNums_size, List.length_set, yl]; omega)
  obtain ⟨K6, e6⟩ := impl_SumOf_fev s (by omega)
  have hx : (⟨#[120]⟩ : ByteArray).size = 1 := rfl
  obtain ⟨K7, e7⟩ := impl_SumMore_fev (sumR 4294967295 s) (sumR_range _ _ (by omega)) (⟨#[120]⟩ : ByteArray) (by omega)
  obtain ⟨K8, e8⟩ := impl_SumOf_fev (s ++ (⟨#[120]⟩ : ByteArray)) (by rw [ByteArray.size_append, hx]; omega)
  dsimp only at e1 e2 e3 e4 e5 e6 e7 e8
  refine ⟨K1 + K2 + K3 + K4 + K5 + K6 + K7 + K8 + 1, ?_⟩
  unfold laws_FnTurned.f laws_big.f
  rw [Option.bind_some]
  by_cases c : (b.length : Int) > 1048576
  · rw [if_pos (decide_eq_true c)]
  · rw [if_neg (by simp only [decide_eq_true_eq]; exact c), e1 _ (by omega), Option.bind_some, e2 _ (by omega), Option.bind_some, e3 _ (by omega), Option.bind_some, g3]
    dsimp only
    rw [e4 _ (by omega), Option.bind_some, g4, if_pos rfl, if_pos rfl, if_pos rfl, laws_FnTurned.j0, if_neg (by rw [ht, w64 (by omega) (by omega)]; simp), Option.bind_some, if_pos (by omega), if_neg (by omega), if_pos p0, if_pos p1, if_pos (by omega), w1, hi, Int.toNat_natCast, e5 _ (by omega), Option.bind_some, bad, if_neg (by decide), e6 _ (by omega), Option.bind_some, e7 _ (by omega), Option.bind_some, if_pos (by omega), e8 _ (by omega), Option.bind_some, sumR_append]
    simp
end Go.Proofs.Ytdgefpifohfcgaa.Pure
