/- The printed form of FnExactUnhex answers true at every input that its bounds let in; no other conditions. -/
import Derived.Test.YthbobfljhnjdfaaVFnExactUnhexx1
import Derived.Test.YthbobfljhnjdfaaG
import Derived.Lib.Bytealg
namespace Go.Proofs.Ythbobfljhnjdfaa.VFnExactUnhex
set_option linter.unusedVariables false
set_option linter.unusedSimpArgs false
open Go Go.RowKit Go.Proofs.YthbobfljhnjdfaaW.PrintWords Go.Proofs.YthbobfljhnjdfaaW.PrintLast Go.Proofs.YthbobfljhnjdfaaW.PrintMore
theorem w64 {n : Int} (h : -9223372036854775808 ≤ n) (h' : n ≤ 9223372036854775807) : wrap64 n = n := by
  unfold wrap64; omega
theorem ev_succ {α : Type} {g : Nat → Option α} {r : α} (h : ∃ K, ∀ k, K ≤ k → g (k + 1) = some r) : Ev g r := by
  obtain ⟨K, h⟩ := h
  refine ⟨K + 1, fun k hk => ?_⟩
  obtain ⟨m, rfl⟩ : ∃ m, k = m + 1 := ⟨k - 1, by omega⟩
  exact h m (by omega)
/-- One round that goes on. -/
theorem ev_go {α : Type} {g f : Nat → Option α} {r : α} (hf : Ev f r) (h : ∀ k, g (k + 1) = f k) : Ev g r := Ev.step h hf
/-- One round that ends. -/
theorem ev_end {α : Type} {g : Nat → Option α} {r : α} (h : ∀ k, g (k + 1) = some r) : Ev g r := ev_succ ⟨0, fun k _ => h k⟩
theorem bt_lo (s : ByteArray) (i : Int) : 0 ≤ bt s i := (bt_range s i).1
theorem bt_hi (s : ByteArray) (i : Int) : bt s i ≤ 255 := (bt_range s i).2
theorem bytesOf_drop (s : ByteArray) (i : Nat) (h : i < s.size) : (bytesOf s).drop i = bt s (i : Int) :: (bytesOf s).drop (i + 1) := by
  have hl : i < (bytesOf s).length := by rw [bytesOf_length]; exact h
  rw [List.drop_eq_getElem_cons hl]
  congr 1
  rw [← rd_bytesOf s (i : Int)]
  unfold rd
  rw [Int.toNat_natCast]
  simp [List.getD, hl]
section
variable {α β : Type}
end
/-- What a hexadecimal digit is worth; -1 for any other byte. -/
def hexVal (x : Int) : Int := if 48 ≤ x ∧ x ≤ 57 then x - 48 else if 97 ≤ x ∧ x ≤ 102 then x - 87 else -1
set_option maxRecDepth 100000 in
theorem hexVal_index (x : Int) (h0 : 0 ≤ x) (h1 : x ≤ 255) : Lib.indexByte [48, 49, 50, 51, 52, 53, 54, 55, 56, 57, 97, 98, 99, 100, 101, 102] x.toNat.toUInt8 = hexVal x := by
  obtain ⟨n, rfl⟩ := Int.eq_ofNat_of_zero_le h0
  have hall : ∀ m : Fin 256, Lib.indexByte [48, 49, 50, 51, 52, 53, 54, 55, 56, 57, 97, 98, 99, 100, 101, 102] (m.val).toUInt8 = hexVal (m.val : Int) := by decide
  exact hall ⟨n, by omega⟩
theorem hexVal_range (x : Int) : hexVal x = -1 ∨ 0 ≤ hexVal x ∧ hexVal x ≤ 15 := by
  unfold hexVal
  split
  · right; omega
  · split
    · right; omega
    · left; rfl
/-- Two digits a byte; none if one of them is no digit. -/
def unhexL : List Int → Option (List Int)
  | h :: l :: t => if hexVal h < 0 ∨ hexVal l < 0 then none else (unhexL t).map fun u => (16 * hexVal h + hexVal l) :: u
  | _ => some []
def unhexO (acc : List Int) : Option (List Int) → ByteArray × Bool
  | none => (⟨#[]⟩, false)
  | some l => (strOfNums (acc ++ l), true)
def unhexR (s : ByteArray) : ByteArray × Bool := if (s.size : Int) > 40000 ∨ s.size % 2 ≠ 0 then (⟨#[]⟩, false) else unhexO [] (unhexL (bytesOf s))
theorem unhexO_step (acc t : List Int) (h l : Int) (c : ¬ (hexVal h < 0 ∨ hexVal l < 0)) : unhexO acc (unhexL (h :: l :: t)) = unhexO (acc ++ [16 * hexVal h + hexVal l]) (unhexL t) := by
  rw [unhexL, if_neg c]
  cases unhexL t with
  | none => rfl
  | some u => simp [unhexO]
theorem unhexO_no (acc t : List Int) (h l : Int) (c : hexVal h < 0 ∨ hexVal l < 0) : unhexO acc (unhexL (h :: l :: t)) = (⟨#[]⟩, false) := by
  rw [unhexL, if_pos c]
  rfl
set_option maxRecDepth 100000 in
theorem hex_or (h l : Int) (h0 : 0 ≤ h) (h1 : h ≤ 15) (l0 : 0 ≤ l) (l1 : l ≤ 15) : (Go.bits .or .i64 (wrap64 (h * 16)) l) % 256 = 16 * h + l := by
  obtain ⟨m, rfl⟩ := Int.eq_ofNat_of_zero_le h0
  obtain ⟨n, rfl⟩ := Int.eq_ofNat_of_zero_le l0
  have hall : ∀ a b : Fin 16, (Go.bits .or .i64 (wrap64 ((a.val : Int) * 16)) (b.val : Int)) % 256 = 16 * (a.val : Int) + (b.val : Int) := by decide +kernel
  exact hall ⟨m, by omega⟩ ⟨n, by omega⟩
theorem spec_l01Value_eq (x : Int) (h0 : 0 ≤ x) (h1 : x ≤ 255) (k : Nat) : spec_l01Value.f (k + 1) x = some (hexVal x) := by
  unfold spec_l01Value.f hexVal
  by_cases c1 : x ≥ 48
  · rw [if_pos c1, spec_l01Value.j0]
    by_cases c2 : x ≤ 57
    · rw [if_pos (decide_eq_true c2), if_pos ⟨c1, c2⟩, w64 (n := x) (by omega) (by omega), w64 (by omega) (by omega)]
    · rw [if_neg (by simpa using c2), if_neg (show ¬ (48 ≤ x ∧ x ≤ 57) from fun h => c2 h.2)]
      by_cases c3 : x ≥ 97
      · by_cases c4 : x ≤ 102
        · rw [if_pos c3, if_pos c4, if_pos ⟨c3, c4⟩, w64 (n := x) (by omega) (by omega), w64 (n := x - 97) (by omega) (by omega), w64 (by omega) (by omega)]
          congr 1; omega
        · rw [if_pos c3, if_neg c4, if_neg (show ¬ (97 ≤ x ∧ x ≤ 102) from fun h => c4 h.2)]
      · rw [if_neg c3, if_neg (show ¬ (97 ≤ x ∧ x ≤ 102) from fun h => c3 h.1)]
  · rw [if_neg c1, spec_l01Value.j0, if_neg (by decide), if_neg (by omega), if_neg (by omega), if_neg (by omega)]
theorem unhex_two (s : ByteArray) (i : Nat) (h : i + 2 ≤ s.size) : (bytesOf s).drop i = bt s (i : Int) :: bt s ((i + 1 : Nat) : Int) :: (bytesOf s).drop (i + 2) := by
  rw [bytesOf_drop s i (by omega), bytesOf_drop s (i + 1) (by omega)]
theorem spec_Unhex_loop (s : ByteArray) (hs : s.size ≤ 40000) : ∀ (d i : Nat) (acc : List Int), i + 2 * d = s.size → acc.length ≤ i → Ev (fun k => spec_Unhex.l0 k s acc (i : Int)) (unhexO acc (unhexL ((bytesOf s).drop i))) := by
  intro d
  induction d with
  | zero =>
    intro i acc hi hl
    refine ev_end fun k => ?_
    rw [spec_Unhex.l0, if_neg (by omega), List.drop_eq_nil_of_le (by rw [bytesOf_length]; omega)]
    simp [unhexL, unhexO]
  | succ d ih =>
    intro i acc hi hl
    rw [unhex_two s i (by omega)]
    have hb := bt_lo s i
    have hb' := bt_hi s i
    have gb := bt_lo s ((i + 1 : Nat) : Int)
    have gb' := bt_hi s ((i + 1 : Nat) : Int)
    have hw : wrap64 ((i : Int) + 1) = ((i + 1 : Nat) : Int) := by rw [w64 (by omega) (by omega)]; rfl
    have hw2 : wrap64 ((i : Int) + 2) = ((i + 2 : Nat) : Int) := by rw [w64 (by omega) (by omega)]; rfl
    by_cases c : hexVal (bt s (i : Int)) < 0 ∨ hexVal (bt s ((i + 1 : Nat) : Int)) < 0
    · rw [unhexO_no _ _ _ _ c]
      refine ev_succ ⟨1, fun k hk => ?_⟩
      obtain ⟨k, rfl⟩ : ∃ q, k = q + 1 := ⟨k - 1, by omega⟩
      rw [spec_Unhex.l0, if_pos (by omega), if_pos (by omega), spec_l01Value_eq _ hb hb' k, Option.bind_some, hw, if_pos (by omega), if_pos (by omega), spec_l01Value_eq _ gb gb' k, Option.bind_some]
      by_cases c1 : hexVal (bt s (i : Int)) < 0
      · rw [if_pos c1]
      · rw [if_neg c1, if_pos (by omega)]
    · rw [unhexO_step _ _ _ _ c]
      have r1 := hexVal_range (bt s (i : Int))
      have r2 := hexVal_range (bt s ((i + 1 : Nat) : Int))
      obtain ⟨K, e⟩ := ih (i + 2) (acc ++ [16 * hexVal (bt s (i : Int)) + hexVal (bt s ((i + 1 : Nat) : Int))]) (by omega) (by simp; omega)
      dsimp only at e
      refine ev_succ ⟨K + 1, fun k hk => ?_⟩
      obtain ⟨k, rfl⟩ : ∃ q, k = q + 1 := ⟨k - 1, by omega⟩
      rw [spec_Unhex.l0, if_pos (by omega), if_pos (by omega), spec_l01Value_eq _ hb hb' k, Option.bind_some, hw, if_pos (by omega), if_pos (by omega), spec_l01Value_eq _ gb gb' k, Option.bind_some, if_neg (fun h => c (.inl h)), if_neg (fun h => c (.inr h)), if_pos (by omega), hw2, w64 (n := 16 * hexVal (bt s (i : Int))) (by omega) (by omega), w64 (by omega) (by omega), Int.emod_eq_of_lt (by omega) (by omega)]
      exact e (k + 1) (by omega)
theorem spec_Unhex_fev (s : ByteArray) : Ev (fun k => spec_Unhex.f k s) (unhexR s) := by
  unfold unhexR
  by_cases c : (s.size : Int) > 40000
  · rw [if_pos (.inl c)]
    refine ev_end fun k => ?_
    unfold spec_Unhex.f
    rw [if_pos c, spec_Unhex.j0, if_pos rfl]
  · by_cases c2 : s.size % 2 = 0
    · rw [if_neg (by omega)]
      refine ev_go (spec_Unhex_loop s (by omega) (s.size / 2) 0 [] (by omega) (by simp)) fun k => ?_
      unfold spec_Unhex.f
      rw [if_neg c, show (((s.size : Int) % 2) != 0) = false by simp only [bne_eq_false_iff_eq]; omega, spec_Unhex.j0, if_neg (by decide)]
      rfl
    · rw [if_pos (.inr c2)]
      refine ev_end fun k => ?_
      unfold spec_Unhex.f
      rw [if_neg c, show (((s.size : Int) % 2) != 0) = true by simp only [bne_iff_ne, ne_eq]; omega, spec_Unhex.j0, if_pos rfl]
theorem impl_Unhex_loop (s : ByteArray) (hs : s.size ≤ 40000) : ∀ (d i : Nat) (acc : List Int), i + 2 * d = s.size → acc.length ≤ i → Ev (fun k => impl_Unhex.l0 k s acc (i : Int)) (unhexO acc (unhexL ((bytesOf s).drop i))) := by
  intro d
  induction d with
  | zero =>
    intro i acc hi hl
    refine ev_end fun k => ?_
    rw [impl_Unhex.l0, if_neg (by omega), List.drop_eq_nil_of_le (by rw [bytesOf_length]; omega)]
    simp [unhexL, unhexO]
  | succ d ih =>
    intro i acc hi hl
    rw [unhex_two s i (by omega)]
    have hb := bt_lo s i
    have hb' := bt_hi s i
    have gb := bt_lo s ((i + 1 : Nat) : Int)
    have gb' := bt_hi s ((i + 1 : Nat) : Int)
    have ix : ∀ x : Int, 0 ≤ x → x ≤ 255 → strings_IndexByte.f (⟨#[48, 49, 50, 51, 52, 53, 54, 55, 56, 57, 97, 98, 99, 100, 101, 102]⟩ : ByteArray) x = some (hexVal x) := fun x h0 h1 => congrArg some (hexVal_index x h0 h1)
    have hw : wrap64 ((i : Int) + 1) = ((i + 1 : Nat) : Int) := by rw [w64 (by omega) (by omega)]; rfl
    have hw2 : wrap64 ((i : Int) + 2) = ((i + 2 : Nat) : Int) := by rw [w64 (by omega) (by omega)]; rfl
    by_cases c : hexVal (bt s (i : Int)) < 0 ∨ hexVal (bt s ((i + 1 : Nat) : Int)) < 0
    · rw [unhexO_no _ _ _ _ c]
      refine ev_succ ⟨1, fun k hk => ?_⟩
      obtain ⟨k, rfl⟩ : ∃ q, k = q + 1 := ⟨k - 1, by omega⟩
      rw [impl_Unhex.l0, if_pos (by omega), if_pos (by omega), ix _ hb hb', Option.bind_some, hw, if_pos (by omega), if_pos (by omega), ix _ gb gb', Option.bind_some]
      by_cases c1 : hexVal (bt s (i : Int)) < 0
      · rw [if_pos c1]
      · rw [if_neg c1, if_pos (by omega)]
    · rw [unhexO_step _ _ _ _ c]
      have r1 := hexVal_range (bt s (i : Int))
      have r2 := hexVal_range (bt s ((i + 1 : Nat) : Int))
      obtain ⟨K, e⟩ := ih (i + 2) (acc ++ [16 * hexVal (bt s (i : Int)) + hexVal (bt s ((i + 1 : Nat) : Int))]) (by omega) (by simp; omega)
      dsimp only at e
      refine ev_succ ⟨K + 1, fun k hk => ?_⟩
      obtain ⟨k, rfl⟩ : ∃ q, k = q + 1 := ⟨k - 1, by omega⟩
      rw [impl_Unhex.l0, if_pos (by omega), if_pos (by omega), ix _ hb hb', Option.bind_some, hw, if_pos (by omega), if_pos (by omega), ix _ gb gb', Option.bind_some, if_neg (fun h => c (.inl h)), if_neg (fun h => c (.inr h)), if_pos (by omega), hw2, hex_or _ _ (by omega) (by omega) (by omega) (by omega)]
      exact e (k + 1) (by omega)
theorem impl_Unhex_fev (s : ByteArray) : Ev (fun k => impl_Unhex.f k s) (unhexR s) := by
  unfold unhexR
  by_cases c2 : s.size % 2 = 0
  · by_cases c : (s.size : Int) > 40000
    · rw [if_pos (.inl c)]
      refine ev_end fun k => ?_
      unfold impl_Unhex.f
      rw [if_pos (by omega), decide_eq_true c, impl_Unhex.j0, if_pos rfl]
    · rw [if_neg (by omega)]
      refine ev_go (impl_Unhex_loop s (by omega) (s.size / 2) 0 [] (by omega) (by simp)) fun k => ?_
      unfold impl_Unhex.f
      rw [if_pos (by omega), decide_eq_false c, impl_Unhex.j0, if_neg (by decide)]
      rfl
  · rw [if_pos (.inr c2)]
    refine ev_end fun k => ?_
    unfold impl_Unhex.f
    rw [if_neg (by omega), impl_Unhex.j0, if_pos rfl]
end Go.Proofs.Ythbobfljhnjdfaa.VFnExactUnhex
namespace Go.Proofs.Ythbobfljhnjdfaa.Pure
open Go.Proofs.Ythbobfljhnjdfaa.VFnExactUnhex
set_option linter.unusedVariables false
set_option linter.unusedSimpArgs false
open Go Go.RowKit Go.Proofs.YthbobfljhnjdfaaW.PrintWords Go.Proofs.YthbobfljhnjdfaaW.PrintLast Go.Proofs.YthbobfljhnjdfaaW.PrintMore
theorem FnExactUnhex : laws_FnExactUnhex.Pure := by
  intro s hs
  obtain ⟨K1, e1⟩ := spec_Unhex_fev s
  obtain ⟨K2, e2⟩ := impl_Unhex_fev s
  dsimp only at e1 e2
  refine ⟨K1 + K2, ?_⟩
  unfold laws_FnExactUnhex.f
  by_cases c : (s.size : Int) > 1048576
  · rw [if_pos c]
  · rw [if_neg c, e1 _ (by omega), Option.bind_some, e2 _ (by omega), Option.bind_some, if_pos rfl, if_neg (by simp)]
end Go.Proofs.Ythbobfljhnjdfaa.Pure
