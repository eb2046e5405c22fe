/- The printed form of FnFalls answers true at every input that its bounds let in; no other conditions. -/
import Derived.Test.YtbjlpmhhcigkdaaVFnFallsx11
import Derived.Test.YtbjlpmhhcigkdaaZFnFallsG
import Derived.Lib.Bytealg
namespace Go.Proofs.Ytbjlpmhhcigkdaa.VFnFalls
set_option linter.unusedVariables false
set_option linter.unusedSimpArgs false
open Go Go.RowKit Go.Proofs.YtbjlpmhhcigkdaaW.PrintWords Go.Proofs.YtbjlpmhhcigkdaaW.PrintLast Go.Proofs.YtbjlpmhhcigkdaaW.PrintMore
theorem w64 {n : Int} (h : -9223372036854775808 ≤ n) (h' : n ≤ 9223372036854775807) : wrap64 n = n := by
  unfold wrap64; omega
theorem ev_some {α : Type} {g : Nat → Option α} {r : α} (h : ∀ k, g k = some r) : Ev g r := ⟨0, fun k _ => h k⟩
theorem ev_succ {α : Type} {g : Nat → Option α} {r : α} (h : ∃ K, ∀ k, K ≤ k → g (k + 1) = some r) : Ev g r := by
  obtain ⟨K, h⟩ := h
  refine ⟨K + 1, fun k hk => ?_⟩
  obtain ⟨m, rfl⟩ : ∃ m, k = m + 1 := ⟨k - 1, by omega⟩
  exact h m (by omega)
/-- One round that goes on. -/
theorem ev_go {α : Type} {g f : Nat → Option α} {r : α} (hf : Ev f r) (h : ∀ k, g (k + 1) = f k) : Ev g r := Ev.step h hf
/-- One round that ends. -/
theorem ev_end {α : Type} {g : Nat → Option α} {r : α} (h : ∀ k, g (k + 1) = some r) : Ev g r := ev_succ ⟨0, fun k _ => h k⟩
theorem strOfNums_bytesOf (s : ByteArray) : strOfNums (bytesOf s) = s := by
  apply ByteArray.ext
  apply Array.toList_inj.1
  rw [strOfNums_data]
  unfold bytesOf
  rw [List.map_map]
  conv => rhs; rw [← List.map_id s.data.toList]
  apply List.map_congr_left
  intro b _
  simp
theorem bytesOf_extract (s : ByteArray) (a b : Nat) : bytesOf (s.extract a b) = ((bytesOf s).drop a).take (b - a) := by
  unfold bytesOf
  rw [ByteArray.data_extract, Array.toList_extract, List.extract_eq_take_drop, List.map_take, List.map_drop]
theorem bytesOf_inj {s t : ByteArray} (h : bytesOf s = bytesOf t) : s = t := by
  rw [← strOfNums_bytesOf s, ← strOfNums_bytesOf t, h]
section
variable {α β : Type}
theorem drop_rdOf (d : α) (xs : List α) (i : Nat) (h : i < xs.length) : xs.drop i = rdOf d xs (i : Int) :: xs.drop (i + 1) := by
  rw [List.drop_eq_getElem_cons h]
  congr 1
  unfold rdOf
  rw [Int.toNat_natCast]
  simp [List.getD, h]
theorem rdOf_get (d : α) (xs : List α) (i : Nat) (h : i < xs.length) : rdOf d xs (i : Int) = xs[i] := by
  unfold rdOf
  rw [Int.toNat_natCast]
  simp [List.getD, h]
theorem rd_get (xs : List Int) (i : Nat) (h : i < xs.length) : rd xs (i : Int) = xs[i] := by
  unfold rd
  rw [Int.toNat_natCast]
  simp [List.getD, h]
theorem rdOf_mem (d : α) (xs : List α) (i : Nat) (h : i < xs.length) : rdOf d xs (i : Int) ∈ xs := by
  rw [rdOf_get d xs i h]; exact List.getElem_mem h
theorem rd_mem (xs : List Int) (i : Nat) (h : i < xs.length) : rd xs (i : Int) ∈ xs := by
  rw [rd_get xs i h]; exact List.getElem_mem h
theorem rdOf_mid (d : α) (pre t : List α) (x : α) (i : Nat) (h : pre.length = i) : rdOf d (pre ++ x :: t) (i : Int) = x := by
  subst h
  unfold rdOf
  rw [Int.toNat_natCast]
  simp [List.getD]
end
def mtB (n : Nat) (acc : ByteArray) : ByteArray := if n = 0 then (⟨#[109]⟩ : ByteArray) ++ acc else mtB (n / 10) (strOfNums [(48 + (n : Int) % 10) % 256] ++ acc)
termination_by n
decreasing_by omega
def mtR (k : Int) : ByteArray := if k ≤ 0 then ⟨#[109, 48]⟩ else mtB k.toNat ⟨#[]⟩
theorem i64_and_range (y m : Int) (h0 : 0 ≤ m) (h1 : m ≤ 9223372036854775807) : 0 ≤ Go.bits .and .i64 y m ∧ Go.bits .and .i64 y m ≤ m := by
  unfold Go.bits
  simp only
  rw [IntKind.wrap_i64, BitVec.toNat_and]
  have h2 : (2 : Nat) ^ IntKind.i64.bits = 18446744073709551616 := by decide
  have h3 : (BitVec.ofInt IntKind.i64.bits m).toNat = m.toNat := by
    rw [BitVec.toNat_ofInt, h2]; omega
  rw [h3]
  have := Nat.and_le_right (n := (BitVec.ofInt IntKind.i64.bits y).toNat) (m := m.toNat)
  omega
theorem in_dec (x a b : Int) : (if x ≥ a then some (decide (x ≤ b)) else some false) = some (decide (a ≤ x ∧ x ≤ b)) := by
  by_cases c : x ≥ a
  · rw [if_pos c]
    congr 1
    by_cases d : x ≤ b
    · rw [decide_eq_true d, decide_eq_true ⟨c, d⟩]
    · rw [decide_eq_false d, decide_eq_false (fun h => d h.2)]
  · rw [if_neg c, decide_eq_false (fun h => c h.1)]
def Took (s : ByteArray) (a b : Int) (x : ByteArray) : Prop := 0 ≤ a ∧ b ≤ (s.size : Int) ∧ b = a + (x.size : Int) ∧ (bytesOf s).drop a.toNat = bytesOf x ++ (bytesOf s).drop b.toNat
theorem Took.extract {s : ByteArray} {a b : Int} {x : ByteArray} (h : Took s a b x) : s.extract a.toNat b.toNat = x := by
  obtain ⟨h1, h2, h3, h4⟩ := h
  apply bytesOf_inj
  rw [bytesOf_extract, h4, show b.toNat - a.toNat = (bytesOf x).length by rw [bytesOf_length]; omega, List.take_left']
  rfl
theorem take_succ_rdOf {α : Type} (d : α) (l : List α) (i : Nat) (h : i < l.length) : l.take (i + 1) = l.take i ++ [rdOf d l (i : Int)] := by
  rw [rdOf_get d l i h]; exact List.take_succ_eq_append_getElem h
/-- The text that was written last to a page, among the first n that are late. -/
def rpL (page : Int) (base : ByteArray) (late : List S74) : Nat → ByteArray
  | 0 => base
  | n + 1 => if (rd_T74 late (n : Int)).f0 = page then (rd_T74 late (n : Int)).f1 else rpL page base late n
def rpR (pages : List ByteArray) (late : List S74) (page : Int) : ByteArray :=
  if 0 ≤ page ∧ page < (pages.length : Int) then rpL page (rdOf ByteArray.empty pages page) late late.length else ⟨#[]⟩
def marksPut (k : Int) : Nat → List S74
  | 0 => []
  | n + 1 => ⟨k, mtR (k + 1)⟩ :: marksPut (k + 2) n
theorem marksPut_length (n : Nat) : ∀ k, (marksPut k n).length = n := by
  induction n with
  | zero => intro k; rfl
  | succ n ih => intro k; unfold marksPut; rw [List.length_cons, ih]
def dokR (pages : List ByteArray) (late : List S74) : Bool :=
  decide (4 ≤ (pages.length : Int) ∧ (pages.length : Int) ≤ 40) && decide ((late.length : Int) ≤ 200) && !(pages.any fun s => decide ((s.size : Int) > 240)) && !(late.any fun p => !decide (0 ≤ p.f0 ∧ p.f0 ≤ wrap64 ((pages.length : Int) - 1)) || decide ((p.f1.size : Int) > 240))
theorem dokR_tells (pages : List ByteArray) (late : List S74) (h : dokR pages late = true) : 4 ≤ pages.length ∧ pages.length ≤ 40 ∧ late.length ≤ 200 ∧ (∀ s ∈ pages, s.size ≤ 240) ∧ ∀ p ∈ late, 0 ≤ p.f0 ∧ p.f0 < (pages.length : Int) ∧ p.f1.size ≤ 240 := by
  unfold dokR at h
  simp only [Bool.and_eq_true, decide_eq_true_eq, Bool.not_eq_true', List.any_eq_false, Bool.or_eq_true, not_or, Bool.not_eq_true, Bool.not_eq_false'] at h
  obtain ⟨⟨⟨h1, h2⟩, h3⟩, h4⟩ := h
  refine ⟨by omega, by omega, by omega, fun s hs => ?_, fun p hp => ?_⟩
  · have := h3 s hs; omega
  · have h5 := h4 p hp
    rw [w64 (by omega) (by omega)] at h5
    have h6 : 0 ≤ p.f0 ∧ p.f0 ≤ (pages.length : Int) - 1 := of_decide_eq_true (Bool.of_not_eq_false h5.1)
    have h7 := h5.2
    omega
theorem dokR_mk (pages : List ByteArray) (late : List S74) (h1 : 4 ≤ pages.length) (h2 : pages.length ≤ 40) (h3 : late.length ≤ 200) (h4 : ∀ s ∈ pages, s.size ≤ 240) (h5 : ∀ p ∈ late, 0 ≤ p.f0 ∧ p.f0 < (pages.length : Int) ∧ p.f1.size ≤ 240) : dokR pages late = true := by
  unfold dokR
  rw [decide_eq_true (⟨by omega, by omega⟩ : 4 ≤ (pages.length : Int) ∧ (pages.length : Int) ≤ 40), decide_eq_true (by omega : (late.length : Int) ≤ 200)]
  have a1 : (pages.any fun s => decide ((s.size : Int) > 240)) = false := by
    rw [List.any_eq_false]
    intro s hs
    have := h4 s hs
    rw [decide_eq_false (by omega)]; decide
  have a2 : (late.any fun p => !decide (0 ≤ p.f0 ∧ p.f0 ≤ wrap64 ((pages.length : Int) - 1)) || decide ((p.f1.size : Int) > 240)) = false := by
    rw [List.any_eq_false]
    intro p hp
    obtain ⟨g1, g2, g3⟩ := h5 p hp
    rw [w64 (by omega) (by omega), decide_eq_true (⟨g1, by omega⟩ : 0 ≤ p.f0 ∧ p.f0 ≤ (pages.length : Int) - 1), decide_eq_false (by omega)]
    decide
  rw [a1, a2]
  rfl
def setPg (P : List ByteArray) (x : S74) : List ByteArray := if 0 ≤ x.f0 ∧ x.f0 < (P.length : Int) then P.set x.f0.toNat x.f1 else P
def syncL : List ByteArray → List S74 → List ByteArray
  | P, [] => P
  | P, x :: t => syncL (setPg P x) t
theorem setPg_length (P : List ByteArray) (x : S74) : (setPg P x).length = P.length := by unfold setPg; split <;> simp
theorem syncL_length (L : List S74) : ∀ P, (syncL P L).length = P.length := by
  induction L with
  | nil => intro P; rfl
  | cons x t ih => intro P; unfold syncL; rw [ih, setPg_length]
theorem syncL_append (a b : List S74) : ∀ P, syncL P (a ++ b) = syncL (syncL P a) b := by
  induction a with
  | nil => intro P; rfl
  | cons x t ih => intro P; exact ih _
theorem rdOf_set (P : List ByteArray) (j : Nat) (v : ByteArray) (page : Int) (h0 : 0 ≤ page) (h : page < (P.length : Int)) : rdOf ByteArray.empty (P.set j v) page = if (j : Int) = page then v else rdOf ByteArray.empty P page := by
  obtain ⟨i, rfl⟩ := Int.eq_ofNat_of_zero_le h0
  rw [rdOf_get _ _ i (by rw [List.length_set]; omega), rdOf_get _ _ i (by omega), List.getElem_set]
  by_cases c : j = i
  · rw [if_pos c, if_pos (by omega)]
  · rw [if_neg c, if_neg (by omega)]
theorem setPg_read (P : List ByteArray) (x : S74) (page : Int) (h0 : 0 ≤ page) (h : page < (P.length : Int)) : rdOf ByteArray.empty (setPg P x) page = if x.f0 = page then x.f1 else rdOf ByteArray.empty P page := by
  unfold setPg
  by_cases c : 0 ≤ x.f0 ∧ x.f0 < (P.length : Int)
  · rw [if_pos c, rdOf_set P _ _ page h0 h, Int.toNat_of_nonneg c.1]
  · rw [if_neg c, if_neg (by omega)]
theorem syncL_take (P : List ByteArray) (L : List S74) (page : Int) (h0 : 0 ≤ page) (h : page < (P.length : Int)) : ∀ n, n ≤ L.length → rdOf ByteArray.empty (syncL P (L.take n)) page = rpL page (rdOf ByteArray.empty P page) L n := by
  intro n
  induction n with
  | zero => intro _; rfl
  | succ n ih =>
    intro hn
    rw [take_succ_rdOf z74 L n (by omega), syncL_append]
    show rdOf ByteArray.empty (setPg (syncL P (L.take n)) _) page = _
    rw [setPg_read _ _ page h0 (by rw [syncL_length]; exact h), ih (by omega)]
    rfl
theorem syncL_read (P : List ByteArray) (L : List S74) (page : Int) (h0 : 0 ≤ page) (h : page < (P.length : Int)) : rdOf ByteArray.empty (syncL P L) page = rpR P L page := by
  have := syncL_take P L page h0 h L.length (Nat.le_refl _)
  rw [List.take_length] at this
  rw [this]
  unfold rpR
  rw [if_pos ⟨h0, h⟩]
theorem rpL_prefix (page : Int) (base : ByteArray) (l m : List S74) : ∀ n, n ≤ l.length → rpL page base (l ++ m) n = rpL page base l n := by
  intro n
  induction n with
  | zero => intro _; rfl
  | succ n ih =>
    intro hn
    unfold rpL
    have e1 : rd_T74 (l ++ m) (n : Int) = rd_T74 l (n : Int) := by
      show rdOf z74 (l ++ m) (n : Int) = rdOf z74 l (n : Int)
      rw [rdOf_get _ _ n (by rw [List.length_append]; omega), rdOf_get _ _ n (by omega), List.getElem_append_left (by omega)]
    rw [e1, ih (by omega)]
theorem rpR_write (P : List ByteArray) (L : List S74) (x : S74) (page : Int) (h0 : 0 ≤ page) (h : page < (P.length : Int)) : rpR P (L ++ [x]) page = if x.f0 = page then x.f1 else rpR P L page := by
  unfold rpR
  rw [if_pos (show 0 ≤ page ∧ page < (P.length : Int) from ⟨h0, h⟩), if_pos (show 0 ≤ page ∧ page < (P.length : Int) from ⟨h0, h⟩), List.length_append, List.length_singleton]
  show (if (rd_T74 (L ++ [x]) (L.length : Int)).f0 = page then (rd_T74 (L ++ [x]) (L.length : Int)).f1 else rpL page (rdOf ByteArray.empty P page) (L ++ [x]) L.length) = _
  have e1 : rd_T74 (L ++ [x]) (L.length : Int) = x := by
    show rdOf z74 (L ++ [x]) (L.length : Int) = x
    exact rdOf_mid z74 L [] x _ rfl
  rw [e1, rpL_prefix _ _ L [x] L.length (Nat.le_refl _)]
theorem mem_set_le {P : List ByteArray} {j : Nat} {v : ByteArray} {m : Nat} (h : ∀ s ∈ P, s.size ≤ m) (hv : v.size ≤ m) : ∀ s ∈ P.set j v, s.size ≤ m := by
  intro s hs
  rcases List.mem_or_eq_of_mem_set hs with h1 | h1
  · exact h s h1
  · rw [h1]; exact hv
theorem syncL_small (m : Nat) (L : List S74) : ∀ P : List ByteArray, (∀ s ∈ P, s.size ≤ m) → (∀ p ∈ L, p.f1.size ≤ m) → ∀ s ∈ syncL P L, s.size ≤ m := by
  induction L with
  | nil => intro P h _; exact h
  | cons x t ih =>
    intro P h g
    refine ih _ ?_ (fun p hp => g p (by simp [hp]))
    unfold setPg
    split
    · exact mem_set_le h (g x (by simp))
    · exact h
theorem dokR_sync {P : List ByteArray} {L : List S74} (h : dokR P L = true) : dokR (syncL P L) [] = true := by
  obtain ⟨h1, h2, h3, h4, h5⟩ := dokR_tells P L h
  refine dokR_mk _ _ (by rw [syncL_length]; exact h1) (by rw [syncL_length]; exact h2) (Nat.zero_le _) (syncL_small 240 L P h4 (fun p hp => (h5 p hp).2.2)) (fun p hp => by cases hp)
theorem dokR_write {P : List ByteArray} {L : List S74} (h : dokR P L = true) (x : S74) (hl : L.length < 200) (h0 : 0 ≤ x.f0) (h1 : x.f0 < (P.length : Int)) (h2 : x.f1.size ≤ 240) : dokR P (L ++ [x]) = true := by
  obtain ⟨g1, g2, g3, g4, g5⟩ := dokR_tells P L h
  refine dokR_mk _ _ g1 g2 (by rw [List.length_append, List.length_singleton]; omega) g4 (fun p hp => ?_)
  rcases List.mem_append.1 hp with hp | hp
  · exact g5 p hp
  · rw [List.mem_singleton.1 hp]; exact ⟨h0, h1, h2⟩
def wpR (P : List ByteArray) (L : List S74) (page : Int) (text : ByteArray) : List ByteArray × List S74 × Bool :=
  if dokR P L = true ∧ (0 ≤ page ∧ page < (P.length : Int)) ∧ text.size ≤ 240 ∧ L.length < 200 then (P, L ++ [⟨page, text⟩], true) else (P, L, false)
/-- What falls: of what is late that which is left, torn at one place. -/
def fallL (left : List Bool) (torn : Int) : Nat → List ByteArray → List S74 → List ByteArray
  | _, P, [] => P
  | i, P, x :: t => fallL left torn (i + 1) (if rdOf false left (i : Int) = true then P.set x.f0.toNat (if (i : Int) = torn then x.f1.extract 0 (x.f1.size / 2) else x.f1) else P) t
theorem fallL_length (left : List Bool) (torn : Int) (L : List S74) : ∀ i P, (fallL left torn i P L).length = P.length := by
  induction L with
  | nil => intro i P; rfl
  | cons x t ih => intro i P; unfold fallL; rw [ih]; split <;> simp
def fallR (P : List ByteArray) (L : List S74) (left : List Bool) (torn : Int) : List ByteArray × List S74 :=
  if dokR P L = true then (fallL left torn 0 P L, []) else (P, L)
/-- What fell on a page was kept there, or late, whole or half. -/
def fellAt (val : ByteArray) (page : Int) (left : List Bool) (torn : Int) (k : Int) (x : S74) : Prop := x.f0 = page ∧ rdOf false left k = true ∧ (val = x.f1 ∨ (k = torn ∧ val = x.f1.extract 0 (x.f1.size / 2)))
theorem fallL_read (left : List Bool) (torn : Int) (page : Int) (h0 : 0 ≤ page) (L : List S74) : ∀ (i : Nat) (P : List ByteArray), page < (P.length : Int) → (∀ x ∈ L, 0 ≤ x.f0) → rdOf ByteArray.empty (fallL left torn i P L) page = rdOf ByteArray.empty P page ∨ ∃ k, ∃ h : k < L.length, fellAt (rdOf ByteArray.empty (fallL left torn i P L) page) page left torn ((i + k : Nat) : Int) L[k] := by
  induction L with
  | nil => intro i P _ _; exact .inl rfl
  | cons x t ih =>
    intro i P h hx
    unfold fallL
    rcases ih (i + 1) (if rdOf false left (i : Int) = true then P.set x.f0.toNat (if (i : Int) = torn then x.f1.extract 0 (x.f1.size / 2) else x.f1) else P) (by
      have e : (if rdOf false left (i : Int) = true then P.set x.f0.toNat (if (i : Int) = torn then x.f1.extract 0 (x.f1.size / 2) else x.f1) else P).length = P.length := by split <;> simp
      rw [e]; exact h) (fun y hy => hx y (by simp [hy])) with h1 | ⟨k, hk, h1⟩
    · rw [h1]
      by_cases c : rdOf false left (i : Int) = true
      · rw [if_pos c, rdOf_set P _ _ page h0 h, Int.toNat_of_nonneg (hx x (by simp))]
        by_cases e : x.f0 = page
        · rw [if_pos e]
          refine .inr ⟨0, by simp, e, c, ?_⟩
          show (if (i : Int) = torn then x.f1.extract 0 (x.f1.size / 2) else x.f1) = x.f1 ∨ _
          by_cases q : (i : Int) = torn
          · rw [if_pos q]; exact .inr ⟨q, rfl⟩
          · rw [if_neg q]; exact .inl rfl
        · rw [if_neg e]; exact .inl rfl
      · rw [if_neg c]; exact .inl rfl
    · refine .inr ⟨k + 1, by simp; omega, ?_⟩
      rw [show i + (k + 1) = i + 1 + k by omega]
      exact h1
theorem fallL_none (torn : Int) (L : List S74) : ∀ (i : Nat) (P : List ByteArray), fallL [] torn i P L = P := by
  induction L with
  | nil => intro i P; rfl
  | cons x t ih =>
    intro i P
    unfold fallL
    have : rdOf false ([] : List Bool) (i : Int) = false := by unfold rdOf; simp
    rw [this, if_neg (by decide)]
    exact ih _ _
theorem spec_l01In_eq (x a b : Int) : spec_l01In.f x a b = some (decide (a ≤ x ∧ x ≤ b)) := in_dec x a b
theorem spec_SyncDisk_loop (P0 : List ByteArray) (L : List S74) (hp : P0.length ≤ 1048577) (hl : L.length ≤ 1048577) : ∀ (d i : Nat) (P : List ByteArray), i + d = L.length → P.length = P0.length → Ev (fun k => spec_SyncDisk.l0 k (i : Int) P0 L P) (syncL P (L.drop i), []) := by
  intro d
  induction d with
  | zero =>
    intro i P hi _
    refine ev_end fun k => ?_
    rw [spec_SyncDisk.l0, if_neg (by omega), List.drop_eq_nil_of_le (by omega)]
    rfl
  | succ d ih =>
    intro i P hi hP
    have hd : L.drop i = rd_T74 L (i : Int) :: L.drop (i + 1) := drop_rdOf z74 L i (by omega)
    rw [hd]
    unfold syncL
    refine ev_go (ih (i + 1) (setPg P (rd_T74 L (i : Int))) (by omega) (by rw [setPg_length]; exact hP)) fun k => ?_
    rw [spec_SyncDisk.l0, if_pos (by omega), if_pos (by omega), spec_l01In_eq, Option.bind_some, w64 (n := (i : Int) + 1) (by omega) (by omega), w64 (n := (P0.length : Int) - 1) (by omega) (by omega)]
    unfold setPg
    by_cases c : 0 ≤ (rd_T74 L (i : Int)).f0 ∧ (rd_T74 L (i : Int)).f0 < (P.length : Int)
    · rw [if_pos c, decide_eq_true (by omega), if_pos rfl, if_pos c.1, if_pos c.2]
      rfl
    · rw [if_neg c, decide_eq_false (by omega), if_neg (by decide)]
      rfl
theorem spec_SyncDisk_fev (P : List ByteArray) (L : List S74) (hp : P.length ≤ 1048577) (hl : L.length ≤ 1048577) : Ev (fun k => spec_SyncDisk.f k P L) (syncL P L, []) := by
  have h := spec_SyncDisk_loop P L hp hl L.length 0 P (by omega) rfl
  rw [List.drop_zero] at h
  refine Ev.congr (fun k => ?_) h
  unfold spec_SyncDisk.f
  rw [Option.bind_some, if_pos (by simp only [List.length_nil]; omega)]
  rfl
theorem spec_DiskOk_late (pages : List ByteArray) (late : List S74) (hp : pages.length ≤ 1048576) (hl : late.length ≤ 1048576) : ∀ (d i : Nat), i + d = late.length → Ev (fun k => spec_DiskOk.l1 k (i : Int) pages late) (!((late.drop i).any fun p => !decide (0 ≤ p.f0 ∧ p.f0 ≤ wrap64 ((pages.length : Int) - 1)) || decide ((p.f1.size : Int) > 240)) && (decide (4 ≤ (pages.length : Int) ∧ (pages.length : Int) ≤ 40) && decide ((late.length : Int) ≤ 200))) := by
  intro d
  induction d with
  | zero =>
    intro i hi
    refine ev_end fun k => ?_
    rw [spec_DiskOk.l1, if_neg (by omega), spec_l01In_eq, Option.bind_some, List.drop_eq_nil_of_le (by omega)]
    cases decide (4 ≤ (pages.length : Int) ∧ (pages.length : Int) ≤ 40) <;> rfl
  | succ d ih =>
    intro i hi
    have hd : late.drop i = rd_T74 late (i : Int) :: late.drop (i + 1) := drop_rdOf z74 late i (by omega)
    rw [hd, List.any_cons]
    by_cases c1 : 0 ≤ (rd_T74 late (i : Int)).f0 ∧ (rd_T74 late (i : Int)).f0 ≤ wrap64 ((pages.length : Int) - 1)
    · rw [decide_eq_true c1]
      by_cases c2 : ((rd_T74 late (i : Int)).f1.size : Int) > 240
      · rw [decide_eq_true c2]
        refine ev_end fun k => ?_
        rw [spec_DiskOk.l1, if_pos (by omega), if_pos (by omega), spec_l01In_eq, Option.bind_some, decide_eq_true c1, if_pos rfl, if_pos c2]
        rfl
      · rw [decide_eq_false c2]
        refine ev_go (ih (i + 1) (by omega)) fun k => ?_
        rw [spec_DiskOk.l1, if_pos (by omega), if_pos (by omega), spec_l01In_eq, Option.bind_some, decide_eq_true c1, if_pos rfl, if_neg c2, w64 (n := (i : Int) + 1) (by omega) (by omega)]
        rfl
    · rw [decide_eq_false c1]
      refine ev_end fun k => ?_
      rw [spec_DiskOk.l1, if_pos (by omega), if_pos (by omega), spec_l01In_eq, Option.bind_some, decide_eq_false c1, if_neg (by decide)]
      rfl
theorem spec_DiskOk_pages (pages : List ByteArray) (late : List S74) (hp : pages.length ≤ 1048576) (hl : late.length ≤ 1048576) : ∀ (d i : Nat), i + d = pages.length → Ev (fun k => spec_DiskOk.l0 k (i : Int) pages late) (!((pages.drop i).any fun s => decide ((s.size : Int) > 240)) && (!(late.any fun p => !decide (0 ≤ p.f0 ∧ p.f0 ≤ wrap64 ((pages.length : Int) - 1)) || decide ((p.f1.size : Int) > 240)) && (decide (4 ≤ (pages.length : Int) ∧ (pages.length : Int) ≤ 40) && decide ((late.length : Int) ≤ 200)))) := by
  intro d
  induction d with
  | zero =>
    intro i hi
    rw [List.drop_eq_nil_of_le (by omega)]
    refine ev_go (spec_DiskOk_late pages late hp hl late.length 0 (by omega)) fun k => ?_
    rw [spec_DiskOk.l0, if_neg (by omega)]
    rfl
  | succ d ih =>
    intro i hi
    rw [drop_rdOf ByteArray.empty pages i (by omega), List.any_cons]
    by_cases c : ((rdOf ByteArray.empty pages (i : Int)).size : Int) > 240
    · rw [decide_eq_true c]
      refine ev_end fun k => ?_
      rw [spec_DiskOk.l0, if_pos (by omega), if_pos (by omega), if_pos c]
      rfl
    · rw [decide_eq_false c, Bool.false_or]
      refine ev_go (ih (i + 1) (by omega)) fun k => ?_
      rw [spec_DiskOk.l0, if_pos (by omega), if_pos (by omega), if_neg c, w64 (by omega) (by omega)]
      rfl
theorem spec_DiskOk_fev (pages : List ByteArray) (late : List S74) (hp : pages.length ≤ 1048576) (hl : late.length ≤ 1048576) : Ev (fun k => spec_DiskOk.f k pages late) (dokR pages late) := by
  have h := spec_DiskOk_pages pages late hp hl pages.length 0 (by omega)
  rw [List.drop_zero] at h
  unfold dokR
  generalize (pages.any fun s => decide ((s.size : Int) > 240)) = a at h ⊢
  generalize (late.any fun p => !decide (0 ≤ p.f0 ∧ p.f0 ≤ wrap64 ((pages.length : Int) - 1)) || decide ((p.f1.size : Int) > 240)) = b at h ⊢
  generalize decide (4 ≤ (pages.length : Int) ∧ (pages.length : Int) ≤ 40) = c at h ⊢
  generalize decide ((late.length : Int) ≤ 200) = e at h ⊢
  have : (!a && (!b && (c && e))) = (c && e && !a && !b) := by cases a <;> cases b <;> cases c <;> cases e <;> rfl
  rw [← this]
  exact h
theorem spec_l03Copy_eq (P : List ByteArray) (L : List S74) (hp : P.length ≤ 1048577) (hl : L.length ≤ 1048577) : spec_l03Copy.f P L = some (P, L) := by
  unfold spec_l03Copy.f
  rw [Option.bind_some, if_pos (by simp only [List.length_nil]; omega), Option.bind_some, if_pos (by simp only [List.length_nil]; omega)]
  rfl
theorem spec_WritePage_fev (P : List ByteArray) (L : List S74) (page : Int) (text : ByteArray) (hp : P.length ≤ 1048576) (hl : L.length ≤ 1048576) : Ev (fun k => spec_WritePage.f k P L page text) (wpR P L page text) := by
  obtain ⟨K, e⟩ := spec_DiskOk_fev P L hp hl
  refine ⟨K, fun k hk => ?_⟩
  dsimp only at e ⊢
  unfold spec_WritePage.f wpR
  rw [spec_l03Copy_eq P L (by omega) (by omega), Option.bind_some, e k hk, Option.bind_some]
  by_cases c1 : dokR P L = true
  · obtain ⟨_, _, g3, _⟩ := dokR_tells P L c1
    rw [if_pos c1, spec_l01In_eq, Option.bind_some, w64 (by omega) (by omega)]
    by_cases c2 : 0 ≤ page ∧ page < (P.length : Int)
    · rw [decide_eq_true (by omega), if_pos rfl]
      by_cases c3 : text.size ≤ 240
      · rw [if_neg (by omega)]
        by_cases c4 : L.length < 200
        · rw [if_neg (by omega), if_pos (by show L.length < _; omega), if_pos ⟨c1, c2, c3, c4⟩]
        · rw [if_pos (by omega), if_neg (fun h => c4 h.2.2.2)]
      · rw [if_pos (by omega), if_neg (fun h => c3 h.2.2.1)]
    · rw [decide_eq_false (by omega), if_neg (by decide), if_neg (fun h => c2 h.2.1)]
  · rw [if_neg c1, if_neg (fun h => c1 h.1)]
theorem spec_l01Byte_draws (b : List Int) (hb : b.length ≤ 140737488351232) (i h : Int) (hi : 0 ≤ i) : ∃ x i' h' : Int, spec_l01Byte.f b i h = some (x, i', h') ∧ 0 ≤ x ∧ x ≤ 255 ∧ 0 ≤ i' := by
  unfold spec_l01Byte.f
  by_cases c : i < (b.length : Int)
  · rw [if_pos c, if_pos hi, w64 (n := i + 1) (by omega) (by omega)]
    have hr := fun y => i64_and_range y 255 (by omega) (by omega)
    exact ⟨_, _, _, rfl, (hr _).1, (hr _).2, by omega⟩
  · rw [if_neg c]
    have hr := fun y => i64_and_range y 255 (by omega) (by omega)
    exact ⟨_, _, _, rfl, (hr _).1, (hr _).2, hi⟩
theorem spec_l01Below_draws (b : List Int) (hb : b.length ≤ 140737488351232) (i h n : Int) (hi : 0 ≤ i) : ∃ x i' h' : Int, spec_l01Below.f b i h n = some (x, i', h') ∧ (0 < n → 0 ≤ x ∧ x < n) ∧ 0 ≤ i' ∧ 0 ≤ x ∧ (n ≤ 0 → x = 0) := by
  unfold spec_l01Below.f
  by_cases c : n ≤ 0
  · rw [if_pos c]
    exact ⟨0, i, h, rfl, fun hn => by omega, hi, by omega, fun _ => rfl⟩
  · rw [if_neg c]
    obtain ⟨x1, i1, h1, e1, l1, u1, p1⟩ := spec_l01Byte_draws b hb i h hi
    by_cases c2 : n ≤ 256
    · rw [if_pos c2, e1, Option.bind_some, if_neg (by omega)]
      have ht : Int.tmod x1 n = x1 % n := Int.tmod_eq_emod_of_nonneg l1
      have g1 := Int.emod_nonneg x1 (by omega : n ≠ 0)
      have g2 := Int.emod_lt_of_pos x1 (by omega : 0 < n)
      exact ⟨_, _, _, rfl, fun _ => by simp only; rw [ht]; exact ⟨g1, g2⟩, p1, by simp only; rw [ht]; exact g1, fun h => absurd h c⟩
    · rw [if_neg c2, e1, Option.bind_some]
      obtain ⟨x2, i2, h2, e2, l2, u2, p2⟩ := spec_l01Byte_draws b hb i1 h1 p1
      obtain ⟨x3, i3, h3, e3, l3, u3, p3⟩ := spec_l01Byte_draws b hb i2 h2 p2
      obtain ⟨x4, i4, h4, e4, l4, u4, p4⟩ := spec_l01Byte_draws b hb i3 h3 p3
      rw [e2, Option.bind_some, e3, Option.bind_some, e4, Option.bind_some, if_neg (by omega)]
      simp only
      rw [w64 (n := x1 * 16777216) (by omega) (by omega), w64 (n := x2 * 65536) (by omega) (by omega), w64 (n := x1 * 16777216 + _) (by omega) (by omega), w64 (n := x3 * 256) (by omega) (by omega), w64 (n := x1 * 16777216 + x2 * 65536 + _) (by omega) (by omega), w64 (by omega) (by omega)]
      have ht : Int.tmod (x1 * 16777216 + x2 * 65536 + x3 * 256 + x4) n = (x1 * 16777216 + x2 * 65536 + x3 * 256 + x4) % n := Int.tmod_eq_emod_of_nonneg (by omega)
      have g1 := Int.emod_nonneg (x1 * 16777216 + x2 * 65536 + x3 * 256 + x4) (by omega : n ≠ 0)
      have g2 := Int.emod_lt_of_pos (x1 * 16777216 + x2 * 65536 + x3 * 256 + x4) (by omega : 0 < n)
      exact ⟨_, _, _, rfl, fun _ => by rw [ht]; exact ⟨g1, g2⟩, p4, by rw [ht]; exact g1, fun h => absurd h c⟩
def dnR (n : Int) : List ByteArray × List S74 × Bool := if 4 ≤ n ∧ n ≤ 40 then (List.replicate n.toNat ⟨#[]⟩, [], true) else ([], [], false)
theorem dnR_lengths (n : Int) : (dnR n).1.length ≤ 40 ∧ (dnR n).2.1.length = 0 := by
  unfold dnR
  split <;> simp
  omega
theorem spec_DiskNew_eq (n : Int) : spec_DiskNew.f n = some (dnR n) := by
  unfold spec_DiskNew.f spec_l01In.f dnR
  by_cases c : 4 ≤ n ∧ n ≤ 40
  · rw [if_pos c, if_pos c.1, Option.bind_some, decide_eq_true c.2, if_pos rfl, if_pos (by omega), if_pos (by omega)]
  · rw [if_neg c]
    by_cases c1 : n ≥ 4
    · rw [if_pos c1, Option.bind_some, decide_eq_false (by omega), if_neg (by decide)]
    · rw [if_neg c1, Option.bind_some, if_neg (by decide)]
theorem spec_l01Once_draws (b : List Int) (hb : b.length ≤ 140737488351232) (i h n : Int) (hi : 0 ≤ i) : ∃ (x : Bool) (i' h' : Int), spec_l01Once.f b i h n = some (x, i', h') ∧ 0 ≤ i' := by
  obtain ⟨x, i', h', e, _, p, _⟩ := spec_l01Below_draws b hb i h n hi
  unfold spec_l01Once.f
  rw [e, Option.bind_some]
  exact ⟨_, _, _, rfl, p⟩
theorem spec_l01Text_loop (b : List Int) (hb : b.length ≤ 140737488351232) (n : Nat) (hn : n ≤ 5000) : ∀ (d j : Nat) (xs : List Int) (i h : Int), j + d = n → xs.length = j → 0 ≤ i → ∃ (s : ByteArray) (i' h' : Int), Ev (fun k => spec_l01Text.l0 k (n : Int) xs (j : Int) b i h) (s, i', h') ∧ s.size = n ∧ 0 ≤ i' := by
  intro d
  induction d with
  | zero =>
    intro j xs i h hj hx hi
    refine ⟨strOfNums xs, i, h, ev_end fun k => ?_, by rw [strOfNums_size]; omega, hi⟩
    rw [spec_l01Text.l0, if_neg (by omega)]
  | succ d ih =>
    intro j xs i h hj hx hi
    obtain ⟨x, i1, h1, e, _, _, p⟩ := spec_l01Byte_draws b hb i h hi
    obtain ⟨s, i', h', e2, hs, hp⟩ := ih (j + 1) (xs ++ [x % 256]) i1 h1 (by omega) (by simp [hx]) p
    refine ⟨s, i', h', ev_go e2 fun k => ?_, hs, hp⟩
    rw [spec_l01Text.l0, if_pos (by omega), e, Option.bind_some, if_pos (by omega), w64 (by omega) (by omega)]
    rfl
theorem spec_l01Text_draws (b : List Int) (hb : b.length ≤ 140737488351232) (i h n : Int) (hi : 0 ≤ i) (hn : 0 ≤ n) : ∃ (s : ByteArray) (i' h' : Int), Ev (fun k => spec_l01Text.f k b i h n) (s, i', h') ∧ s.size ≤ 5000 ∧ (s.size : Int) ≤ n ∧ 0 ≤ i' := by
  by_cases c : n > 5000
  · obtain ⟨s, i', h', e, hs, hp⟩ := spec_l01Text_loop b hb 5000 (by omega) 5000 0 [] i h (by omega) rfl hi
    refine ⟨s, i', h', ev_go e fun k => ?_, by omega, by omega, hp⟩
    unfold spec_l01Text.f
    rw [if_pos c, spec_l01Text.j0]
    rfl
  · obtain ⟨m, rfl⟩ := Int.eq_ofNat_of_zero_le hn
    obtain ⟨s, i', h', e, hs, hp⟩ := spec_l01Text_loop b hb m (by omega) m 0 [] i h (by omega) rfl hi
    refine ⟨s, i', h', ev_go e fun k => ?_, by omega, by omega, hp⟩
    unfold spec_l01Text.f
    rw [if_neg c, spec_l01Text.j0]
    rfl
theorem wpR_draw {P : List ByteArray} {L : List S74} (h : dokR P L = true) (page : Int) (text : ByteArray) : dokR (wpR P L page text).1 (wpR P L page text).2.1 = true ∧ (wpR P L page text).2.1.length ≤ L.length + 1 := by
  unfold wpR
  by_cases c : dokR P L = true ∧ (0 ≤ page ∧ page < (P.length : Int)) ∧ text.size ≤ 240 ∧ L.length < 200
  · rw [if_pos c]
    exact ⟨dokR_write h ⟨page, text⟩ c.2.2.2 c.2.1.1 c.2.1.2 c.2.2.1, by simp⟩
  · rw [if_neg c]
    exact ⟨h, by dsimp only; omega⟩
theorem spec_l03Disk_loop (b : List Int) (hb : b.length ≤ 140737488351232) : ∀ (d i : Nat) (P : List ByteArray) (L : List S74) (u h : Int), i + d = 9 → dokR P L = true → L.length ≤ i → 0 ≤ u → ∃ (P' : List ByteArray) (L' : List S74) (u' h' : Int), Ev (fun k => spec_l03Disk.l0 k (i : Int) b u h P L) (P', L', u', h') ∧ dokR P' L' = true ∧ L'.length ≤ 9 ∧ 0 ≤ u' := by
  intro d
  induction d with
  | zero =>
    intro i P L u h hi hd hl hu
    obtain ⟨x, u1, h1, e1, r1, p1, _⟩ := spec_l01Below_draws b hb u h 9 hu
    have r1 := r1 (by omega)
    refine ⟨P, L, u1, h1, ev_end fun k => ?_, hd, by omega, p1⟩
    rw [spec_l03Disk.l0, e1, Option.bind_some, if_neg (by dsimp only; omega)]
  | succ d ih =>
    intro i P L u h hi hd hl hu
    obtain ⟨x, u1, h1, e1, r1, p1, _⟩ := spec_l01Below_draws b hb u h 9 hu
    have r1 := r1 (by omega)
    obtain ⟨k1, k2, k3, _⟩ := dokR_tells P L hd
    by_cases c : (i : Int) < x
    · obtain ⟨y, u2, h2, e2, p2⟩ := spec_l01Once_draws b hb u1 h1 4 p1
      cases y with
      | true =>
        obtain ⟨P', L', u', h', ⟨K, e⟩, q1, q2, q3⟩ := ih (i + 1) (syncL P L) [] u2 h2 (by omega) (dokR_sync hd) (by simp) p2
        obtain ⟨K2, e4⟩ := spec_SyncDisk_fev P L (by omega) (by omega)
        refine ⟨P', L', u', h', ev_succ ⟨K + K2, fun k hk => ?_⟩, q1, q2, q3⟩
        dsimp only at e e4
        rw [spec_l03Disk.l0, e1, Option.bind_some, if_pos c]
        dsimp only
        rw [e2, Option.bind_some, if_pos rfl, e4 k (by omega), Option.bind_some, w64 (by omega) (by omega)]
        exact e k (by omega)
      | false =>
        obtain ⟨y, u3, h3, e3, r3, p3, _⟩ := spec_l01Below_draws b hb u2 h2 6 p2
        obtain ⟨z, u4, h4, e4, r4, p4, _⟩ := spec_l01Below_draws b hb u3 h3 6 p3
        have r4 := r4 (by omega)
        obtain ⟨s, u5, h5, ⟨K5, e5⟩, s1, s2, p5⟩ := spec_l01Text_draws b hb u4 h4 z p4 r4.1
        obtain ⟨K6, e6⟩ := spec_WritePage_fev P L y s (by omega) (by omega)
        have hw := wpR_draw hd y s
        obtain ⟨P', L', u', h', ⟨K, e⟩, q1, q2, q3⟩ := ih (i + 1) (wpR P L y s).1 (wpR P L y s).2.1 u5 h5 (by omega) hw.1 (by omega) p5
        refine ⟨P', L', u', h', ev_succ ⟨K + K5 + K6, fun k hk => ?_⟩, q1, q2, q3⟩
        dsimp only at e e5 e6
        rw [spec_l03Disk.l0, e1, Option.bind_some, if_pos c]
        dsimp only
        rw [e2, Option.bind_some, if_neg (by simp)]
        dsimp only
        rw [e3, Option.bind_some]
        dsimp only
        rw [e4, Option.bind_some]
        dsimp only
        rw [e5 k (by omega), Option.bind_some]
        dsimp only
        rw [e6 k (by omega), Option.bind_some, w64 (by omega) (by omega)]
        exact e k (by omega)
    · refine ⟨P, L, u1, h1, ev_end fun k => ?_, hd, by omega, p1⟩
      rw [spec_l03Disk.l0, e1, Option.bind_some, if_neg c]
theorem spec_l03Disk_draws (b : List Int) (hb : b.length ≤ 140737488351232) (i h : Int) (hi : 0 ≤ i) : ∃ (P : List ByteArray) (L : List S74) (i' h' : Int), Ev (fun k => spec_l03Disk.f k b i h) (P, L, i', h') ∧ dokR P L = true ∧ L.length ≤ 9 ∧ 0 ≤ i' := by
  obtain ⟨x, u1, h1, e1, r1, p1, _⟩ := spec_l01Below_draws b hb i h 4 hi
  have r1 := r1 (by omega)
  have hn : dnR (4 + x) = (List.replicate (4 + x).toNat ⟨#[]⟩, [], true) := by unfold dnR; rw [if_pos (by omega)]
  have hd : dokR (List.replicate (4 + x).toNat (⟨#[]⟩ : ByteArray)) ([] : List S74) = true :=
    dokR_mk _ _ (by simp; omega) (by simp; omega) (by simp) (by intro s hs; rw [(List.mem_replicate.1 hs).2]; decide) (by intro p hp; cases hp)
  obtain ⟨P, L, u', h', ⟨K, e⟩, q1, q2, q3⟩ := spec_l03Disk_loop b hb 9 0 _ _ u1 h1 (by omega) hd (by simp) p1
  refine ⟨P, L, u', h', ⟨K, fun k hk => ?_⟩, q1, q2, q3⟩
  dsimp only at e ⊢
  unfold spec_l03Disk.f
  rw [e1, Option.bind_some, w64 (by dsimp only; omega) (by dsimp only; omega), spec_DiskNew_eq, Option.bind_some, hn]
  exact e k hk
theorem spec_l01New_loop (b : List Int) (hb : b.length ≤ 140737488351232) : ∀ (d i : Nat) (h : Int), i + d = b.length → ∃ h' : Int, Ev (fun k => spec_l01New.l0 k b h (i : Int)) (b, 0, h') := by
  intro d
  induction d with
  | zero =>
    intro i h hi
    exact ⟨h, ev_end fun k => by rw [spec_l01New.l0, if_neg (by omega)]⟩
  | succ d ih =>
    intro i h hi
    by_cases c : i < 4000
    · obtain ⟨h', e⟩ := ih (i + 1) (Go.bits .and .i64 (wrap64 ((wrap64 ((wrap64 (h * 131)) + (wrap64 (rd b (i : Int))))) + 7)) 1073741823) (by omega)
      refine ⟨h', ev_go e fun k => ?_⟩
      rw [spec_l01New.l0, if_pos (by omega), if_pos (by omega), if_pos (by omega), w64 (n := (i : Int) + 1) (by omega) (by omega)]
      rfl
    · exact ⟨h, ev_end fun k => by rw [spec_l01New.l0, if_pos (by omega), if_neg (by omega)]⟩
theorem spec_l01New_draws (b : List Int) (hb : b.length ≤ 140737488351232) : ∃ h : Int, Ev (fun k => spec_l01New.f k b) (b, 0, h) :=
  spec_l01New_loop b hb b.length 0 _ (by omega)
theorem spec_DrawDisk_draws (b : List Int) (hb : b.length ≤ 140737488351232) : ∃ (P : List ByteArray) (L : List S74), Ev (fun k => spec_DrawDisk.f k b) (P, L) ∧ dokR P L = true ∧ L.length ≤ 9 := by
  obtain ⟨h, K, e⟩ := spec_l01New_draws b hb
  obtain ⟨P, L, i1, h1, ⟨K1, e1⟩, q1, q2, _⟩ := spec_l03Disk_draws b hb 0 h (Int.le_refl 0)
  refine ⟨P, L, ⟨K + K1, fun k hk => ?_⟩, q1, q2⟩
  dsimp only at e e1 ⊢
  unfold spec_DrawDisk.f
  rw [e k (by omega), Option.bind_some]
  dsimp only
  rw [e1 k (by omega), Option.bind_some]
theorem spec_DrawPlaces_loop (b : List Int) (hb : b.length ≤ 140737488351232) : ∀ (d : Nat) (l : List Int) (u h : Int), l.length + d = 12 → (∀ x ∈ l, 0 ≤ x ∧ x < 10000) → 0 ≤ u → ∃ l' : List Int, Ev (fun k => spec_DrawPlaces.l0 k l (l.length : Int) b u h) l' ∧ l'.length = 12 ∧ ∀ x ∈ l', 0 ≤ x ∧ x < 10000 := by
  intro d
  induction d with
  | zero =>
    intro l u h hl hx hu
    refine ⟨l, ev_end fun k => ?_, by omega, hx⟩
    rw [spec_DrawPlaces.l0, if_neg (by omega)]
  | succ d ih =>
    intro l u h hl hx hu
    obtain ⟨x, u1, h1, e1, r1, p1, _⟩ := spec_l01Below_draws b hb u h 10000 hu
    have r1 := r1 (by omega)
    obtain ⟨l', e, q1, q2⟩ := ih (l ++ [x]) u1 h1 (by simp; omega) (by
      intro y hy
      rcases List.mem_append.1 hy with hy | hy
      · exact hx y hy
      · rw [List.mem_singleton.1 hy]; exact r1) p1
    refine ⟨l', ev_go e fun k => ?_, q1, q2⟩
    rw [spec_DrawPlaces.l0, if_pos (by omega), e1, Option.bind_some, if_pos (by omega), w64 (by omega) (by omega)]
    simp
theorem spec_DrawPlaces_draws (b : List Int) (hb : b.length ≤ 140737488351232) : ∃ l : List Int, Ev (fun k => spec_DrawPlaces.f k b) l ∧ l.length = 12 ∧ ∀ x ∈ l, 0 ≤ x ∧ x < 10000 := by
  obtain ⟨h, K, e⟩ := spec_l01New_draws b hb
  obtain ⟨x, u1, h1, e1, _, _, p1⟩ := spec_l01Byte_draws b hb 0 h (Int.le_refl 0)
  obtain ⟨l, ⟨K1, e2⟩, q1, q2⟩ := spec_DrawPlaces_loop b hb 12 [] u1 h1 (by simp) (by intro x hx; cases hx) p1
  refine ⟨l, ⟨K + K1, fun k hk => ?_⟩, q1, q2⟩
  dsimp only at e e2 ⊢
  unfold spec_DrawPlaces.f
  rw [e k (by omega), Option.bind_some, e1, Option.bind_some]
  exact e2 k (by omega)
theorem laws_sameTexts_loop (a : List ByteArray) (hb : a.length ≤ 9223372036854775807) : ∀ (d i : Nat), i + d = a.length → Ev (fun k => laws_sameTexts.l0 k a a (i : Int)) true := by
  intro d
  induction d with
  | zero =>
    intro i hi
    refine ev_end fun k => ?_
    rw [laws_sameTexts.l0, if_neg (by omega)]
  | succ d ih =>
    intro i hi
    refine ev_go (ih (i + 1) (by omega)) fun k => ?_
    rw [laws_sameTexts.l0, if_pos (by omega), if_pos (by omega), if_pos (by omega), if_pos rfl, w64 (by omega) (by omega)]
    rfl
theorem laws_sameTexts_same (a : List ByteArray) (hb : a.length ≤ 9223372036854775807) : Ev (fun k => laws_sameTexts.f k a a) true := by
  refine Ev.congr (fun k => ?_) (laws_sameTexts_loop a hb a.length 0 (by omega))
  unfold laws_sameTexts.f
  rw [if_pos rfl]
  rfl
theorem laws_sameDisk_loop (a : List ByteArray) (b : List S74) (hb : b.length ≤ 9223372036854775807) : ∀ (d i : Nat), i + d = b.length → Ev (fun k => laws_sameDisk.l0 k (i : Int) a b a b) true := by
  intro d
  induction d with
  | zero =>
    intro i hi
    refine ev_end fun k => ?_
    rw [laws_sameDisk.l0, if_neg (by omega)]
  | succ d ih =>
    intro i hi
    refine ev_go (ih (i + 1) (by omega)) fun k => ?_
    rw [laws_sameDisk.l0, if_pos (by omega), if_pos (by omega), if_pos (by omega), if_neg (by simp), w64 (by omega) (by omega)]
    rfl
theorem laws_sameDisk_same (a : List ByteArray) (b : List S74) (ha : a.length ≤ 9223372036854775807) (hb : b.length ≤ 9223372036854775807) : Ev (fun k => laws_sameDisk.f k a b a b) true := by
  obtain ⟨K1, e1⟩ := laws_sameTexts_same a ha
  obtain ⟨K2, e2⟩ := laws_sameDisk_loop a b hb b.length 0 (by omega)
  dsimp only at e1 e2
  refine ev_succ ⟨K1 + K2, fun k hk => ?_⟩
  unfold laws_sameDisk.f
  rw [e1 (k + 1) (by omega), Option.bind_some, if_pos rfl, bne_self_eq_false, laws_sameDisk.j0, if_neg (by decide)]
  exact e2 k (by omega)
theorem impl_in_eq (x a b : Int) : impl_in.f x a b = some (decide (a ≤ x ∧ x ≤ b)) := in_dec x a b
theorem impl_isPage_eq (P : List ByteArray) (L : List S74) (page : Int) (hp : P.length ≤ 1048577) : impl_isPage.f P L page = some (decide (0 ≤ page ∧ page < (P.length : Int))) := by
  unfold impl_isPage.f
  rw [impl_in_eq, Option.bind_some, w64 (by omega) (by omega)]
  congr 1
  apply decide_eq_decide.2
  omega
theorem impl_DiskOk_eq (pages : List ByteArray) (late : List S74) : impl_DiskOk.f pages late = some (dokR pages late) := rfl
theorem slices_Clone_string_string_eq (l : List ByteArray) (h : l.length ≤ 1048577) : slices_Clone_string_string.f l = some l := by unfold slices_Clone_string_string.f; rw [if_pos (by omega)]
theorem impl_Put_eq (l : List S74) (h : l.length ≤ 1048577) : impl_Put.f l = some l := by unfold impl_Put.f; rw [if_pos (by omega)]
theorem impl_cloneDisk_eq (P : List ByteArray) (L : List S74) (hp : P.length ≤ 1048577) (hl : L.length ≤ 1048577) : impl_cloneDisk.f P L = some (P, L) := by
  unfold impl_cloneDisk.f
  rw [slices_Clone_string_string_eq P hp, Option.bind_some, impl_Put_eq L hl, Option.bind_some]
theorem half_size (n : Nat) (h : n ≤ 240) : wrap64 ((n : Int) / 2) = ((n / 2 : Nat) : Int) := by rw [w64 (by omega) (by omega)]; omega
theorem impl_FallDisk_loop (left : List Bool) (torn : Int) (P0 : List ByteArray) (L : List S74) (hok : dokR P0 L = true) (hl : left.length ≤ 1048576) : ∀ (d i : Nat) (P : List ByteArray), i + d = L.length → P.length = P0.length → Ev (fun k => impl_FallDisk.l0 k left torn L (L.length : Int) (i : Int) P L) (fallL left torn i P (L.drop i), []) := by
  obtain ⟨h1, h2, h3, h4, h5⟩ := dokR_tells P0 L hok
  intro d
  induction d with
  | zero =>
    intro i P hi _
    refine ev_end fun k => ?_
    rw [impl_FallDisk.l0, if_neg (by omega), List.drop_eq_nil_of_le (by omega)]
    rfl
  | succ d ih =>
    intro i P hi hP
    have hd : L.drop i = rd_T74 L (i : Int) :: L.drop (i + 1) := drop_rdOf z74 L i (by omega)
    have hx : 0 ≤ (rd_T74 L (i : Int)).f0 ∧ (rd_T74 L (i : Int)).f0 < (P0.length : Int) ∧ (rd_T74 L (i : Int)).f1.size ≤ 240 := h5 _ (rdOf_mem z74 L i (by omega))
    have hs := half_size _ hx.2.2
    rw [hd]
    unfold fallL
    refine ev_go (f := fun k => impl_FallDisk.j1 k left torn (i : Int) L (L.length : Int) (i : Int) (!(rdOf false left (i : Int))) P L (rd_T74 L (i : Int)).f0 (rd_T74 L (i : Int)).f1) ?_ fun k => ?_
    · cases hq : rdOf false left (i : Int) with
      | false =>
        rw [if_neg (by decide)]
        refine ev_go (ih (i + 1) P (by omega) hP) fun k => ?_
        rw [impl_FallDisk.j1, if_pos (by decide), w64 (by omega) (by omega)]
        rfl
      | true =>
        rw [if_pos rfl]
        refine ev_go (ih (i + 1) _ (by omega) (by rw [List.length_set]; exact hP)) fun k => ?_
        rw [impl_FallDisk.j1, if_neg (by decide), w64 (n := (i : Int) + 1) (by omega) (by omega)]
        by_cases c : (i : Int) = torn
        · rw [if_pos c, if_pos c, hs, if_pos (by omega), if_pos (by omega), if_pos hx.1, if_pos (by omega), Int.toNat_natCast]
          rfl
        · rw [if_neg c, if_neg c, if_pos hx.1, if_pos (by omega)]
          rfl
    · rw [impl_FallDisk.l0, if_pos (by omega), if_pos (by omega), if_pos (by omega)]
      by_cases c : (i : Int) ≥ (left.length : Int)
      · have e : rdOf false left (i : Int) = false := by unfold rdOf; rw [Int.toNat_natCast]; simp [List.getD, Nat.not_lt.2 (show left.length ≤ i by omega)]
        rw [if_pos c, e]
        rfl
      · rw [if_neg c, if_pos (by omega)]
theorem impl_FallDisk_fev (P : List ByteArray) (L : List S74) (left : List Bool) (torn : Int) (hp : P.length ≤ 1048576) (hl : L.length ≤ 1048576) (hf : left.length ≤ 1048576) : Ev (fun k => impl_FallDisk.f k P L left torn) (fallR P L left torn) := by
  unfold fallR
  by_cases c : dokR P L = true
  · rw [if_pos c]
    have h := impl_FallDisk_loop left torn P L c hf L.length 0 P (by omega) rfl
    rw [List.drop_zero] at h
    refine Ev.congr (fun k => ?_) h
    unfold impl_FallDisk.f
    rw [impl_cloneDisk_eq P L (by omega) (by omega), Option.bind_some, impl_DiskOk_eq, Option.bind_some, if_pos c]
    rfl
  · rw [if_neg c]
    refine ev_some fun k => ?_
    unfold impl_FallDisk.f
    rw [impl_cloneDisk_eq P L (by omega) (by omega), Option.bind_some, impl_DiskOk_eq, Option.bind_some, if_neg c]
theorem spec_l03Left_loop (b : List Int) (hb : b.length ≤ 140737488351232) : ∀ (d : Nat) (l : List Bool) (u h : Int), l.length + d = 12 → 0 ≤ u → ∃ (l' : List Bool) (u' h' : Int), Ev (fun k => spec_l03Left.l0 k l (l.length : Int) b u h) (l', u', h') ∧ l'.length ≤ 12 ∧ 0 ≤ u' := by
  intro d
  induction d with
  | zero =>
    intro l u h hl hu
    obtain ⟨x, u1, h1, e1, r1, p1, _⟩ := spec_l01Below_draws b hb u h 12 hu
    have r1 := r1 (by omega)
    refine ⟨l, u1, h1, ev_end fun k => ?_, by omega, p1⟩
    rw [spec_l03Left.l0, e1, Option.bind_some, if_neg (by dsimp only; omega)]
  | succ d ih =>
    intro l u h hl hu
    obtain ⟨x, u1, h1, e1, r1, p1, _⟩ := spec_l01Below_draws b hb u h 12 hu
    have r1 := r1 (by omega)
    by_cases c : (l.length : Int) < x
    · obtain ⟨y, u2, h2, e2, p2⟩ := spec_l01Once_draws b hb u1 h1 2 p1
      obtain ⟨l', u', h', e, q1, q2⟩ := ih (l ++ [y]) u2 h2 (by simp; omega) p2
      refine ⟨l', u', h', ev_go e fun k => ?_, q1, q2⟩
      rw [spec_l03Left.l0, e1, Option.bind_some, if_pos c]
      dsimp only
      rw [e2, Option.bind_some, if_pos (by omega), w64 (by omega) (by omega)]
      simp
    · refine ⟨l, u1, h1, ev_end fun k => ?_, by omega, p1⟩
      rw [spec_l03Left.l0, e1, Option.bind_some, if_neg c]
theorem spec_l03Left_draws (b : List Int) (hb : b.length ≤ 140737488351232) (i h : Int) (hi : 0 ≤ i) : ∃ (l : List Bool) (i' h' : Int), Ev (fun k => spec_l03Left.f k b i h) (l, i', h') ∧ l.length ≤ 12 ∧ 0 ≤ i' :=
  spec_l03Left_loop b hb 12 [] i h (by simp) hi
theorem spec_DrawLeft_draws (b : List Int) (hb : b.length ≤ 140737488351232) : ∃ l : List Bool, Ev (fun k => spec_DrawLeft.f k b) l ∧ l.length ≤ 12 := by
  obtain ⟨h, K, e⟩ := spec_l01New_draws b hb
  obtain ⟨l, i1, h1, ⟨K1, e1⟩, q1, _⟩ := spec_l03Left_draws b hb 0 h (Int.le_refl 0)
  refine ⟨l, ⟨K + K1, fun k hk => ?_⟩, q1⟩
  dsimp only at e e1 ⊢
  unfold spec_DrawLeft.f
  rw [e k (by omega), Option.bind_some]
  dsimp only
  rw [e1 k (by omega), Option.bind_some]
theorem spec_l01PickInt_draws (b : List Int) (hb : b.length ≤ 140737488351232) (i h : Int) (hi : 0 ≤ i) (l : List Int) (hl : 0 < l.length) : ∃ (x i' h' : Int), spec_l01PickInt.f b i h l = some (x, i', h') ∧ x ∈ l ∧ 0 ≤ i' := by
  obtain ⟨x, i', h', e, r, p, _⟩ := spec_l01Below_draws b hb i h (l.length : Int) hi
  have r' := r (by omega)
  unfold spec_l01PickInt.f
  rw [e, Option.bind_some, if_pos r'.1, if_pos r'.2]
  obtain ⟨m, rfl⟩ := Int.eq_ofNat_of_zero_le r'.1
  exact ⟨_, _, _, rfl, rd_mem l m (by have := r'.2; omega), p⟩
theorem spec_l01Long_loop (n : Nat) (x : Int) : ∀ (d i : Nat) (l : List Int), i + d = n → l.length = n → n ≤ 1048576 → ∃ s : ByteArray, Ev (fun k => spec_l01Long.l0 k (n : Int) x l (i : Int)) s ∧ s.size = n := by
  intro d
  induction d with
  | zero =>
    intro i l hi hl hn
    exact ⟨strOfNums l, ev_end fun k => by rw [spec_l01Long.l0, if_neg (by omega)], by rw [strOfNums_size, hl]⟩
  | succ d ih =>
    intro i l hi hl hn
    obtain ⟨s, e, es⟩ := ih (i + 1) (l.set i x) (by omega) (by simpa using hl) hn
    refine ⟨s, ev_go e fun k => ?_, es⟩
    rw [spec_l01Long.l0, if_pos (by omega), if_pos (by omega), if_pos (by omega), Int.toNat_natCast, w64 (by omega) (by omega)]
    rfl
theorem spec_l01Long_draws (n x : Int) (h0 : 0 ≤ n) (h1 : n ≤ 1048576) : ∃ s : ByteArray, Ev (fun k => spec_l01Long.f k n x) s ∧ (s.size : Int) = n := by
  obtain ⟨m, rfl⟩ := Int.eq_ofNat_of_zero_le h0
  obtain ⟨s, e, es⟩ := spec_l01Long_loop m x m 0 (List.replicate m 0) (by omega) (by simp) (by omega)
  refine ⟨s, Ev.congr (fun k => ?_) e, by omega⟩
  unfold spec_l01Long.f
  rw [if_pos h0, Int.toNat_natCast, if_pos (by omega)]
  rfl
theorem spec_l03Any_draws (b : List Int) (hb : b.length ≤ 140737488351232) (i h : Int) (hi : 0 ≤ i) : ∃ (A : List ByteArray) (B : List S74) (i' h' : Int), Ev (fun k => spec_l03Any.f k b i h) (A, B, i', h') ∧ A.length ≤ 40 ∧ B.length ≤ 10 ∧ 0 ≤ i' := by
  obtain ⟨P, L, i1, h1, ⟨K, e1⟩, hd, hl, p1⟩ := spec_l03Disk_draws b hb i h hi
  obtain ⟨k1, k2, k3, _⟩ := dokR_tells P L hd
  obtain ⟨x, i2, h2, e2, r2, p2, _⟩ := spec_l01Below_draws b hb i1 h1 12 p1
  have e3 := spec_l03Copy_eq P L (by omega) (by omega)
  dsimp only at e1
  by_cases c0 : x = 0
  · obtain ⟨y, i3, h3, e4, r4, p4, _⟩ := spec_l01Below_draws b hb i2 h2 4 p2
    have r4 := r4 (by omega)
    refine ⟨P.take y.toNat, L, i3, h3, ⟨K, fun k hk => ?_⟩, by rw [List.length_take]; omega, by omega, p4⟩
    dsimp only
    unfold spec_l03Any.f
    rw [e1 k hk, Option.bind_some, e3, Option.bind_some, e2, Option.bind_some, if_pos c0]
    dsimp only
    rw [e4, Option.bind_some, if_pos (by omega), if_pos (by dsimp only; omega)]
  · by_cases c1 : x = 1
    · obtain ⟨y, i3, h3, e4, m4, p4⟩ := spec_l01PickInt_draws b hb i2 h2 p2 ([(-1), 0, 40] : List Int) (by simp)
      refine ⟨P, L ++ [⟨y, ⟨#[120]⟩⟩], i3, h3, ⟨K, fun k hk => ?_⟩, k2, by simp; omega, p4⟩
      dsimp only
      unfold spec_l03Any.f
      rw [e1 k hk, Option.bind_some, e3, Option.bind_some, e2, Option.bind_some, if_neg c0, if_pos c1]
      dsimp only
      rw [e4, Option.bind_some, if_pos (by omega)]
    · by_cases c2 : x = 2
      · obtain ⟨y, i3, h3, e4, r4, p4, _⟩ := spec_l01Below_draws b hb i2 h2 2 p2
        have r4 := r4 (by omega)
        obtain ⟨s, ⟨K5, e5⟩, s1⟩ := spec_l01Long_draws (240 + y) 65 (by omega) (by omega)
        refine ⟨P.set 0 s, L, i3, h3, ⟨K + K5, fun k hk => ?_⟩, by simp; omega, by omega, p4⟩
        dsimp only at e5 ⊢
        unfold spec_l03Any.f
        rw [e1 k (by omega), Option.bind_some, e3, Option.bind_some, e2, Option.bind_some, if_neg c0, if_neg c1, if_pos c2]
        dsimp only
        rw [e4, Option.bind_some, w64 (by dsimp only; omega) (by dsimp only; omega)]
        dsimp only
        rw [e5 k (by omega), Option.bind_some, if_pos (by omega)]
        rfl
      · refine ⟨P, L, i2, h2, ⟨K, fun k hk => ?_⟩, k2, by omega, p2⟩
        dsimp only
        unfold spec_l03Any.f
        rw [e1 k hk, Option.bind_some, e3, Option.bind_some, e2, Option.bind_some, if_neg c0, if_neg c1, if_neg c2]
theorem spec_DrawFallDisk_draws (b : List Int) (hb : b.length ≤ 140737488351232) : ∃ (A : List ByteArray) (B : List S74) (l : List Bool) (t : Int), Ev (fun k => spec_DrawFallDisk.f k b) (A, B, l, t) ∧ A.length ≤ 40 ∧ B.length ≤ 10 ∧ l.length ≤ 12 := by
  obtain ⟨h, K, e⟩ := spec_l01New_draws b hb
  obtain ⟨l, i1, h1, ⟨K1, e1⟩, q1, p1⟩ := spec_l03Left_draws b hb 0 h (Int.le_refl 0)
  obtain ⟨t, i2, h2, e2, _, p2⟩ := spec_l01PickInt_draws b hb i1 h1 p1 ([(-1), (-1), 0, 1, 2, 5] : List Int) (by simp)
  obtain ⟨A, B, i3, h3, ⟨K3, e3⟩, q2, q3, _⟩ := spec_l03Any_draws b hb i2 h2 p2
  refine ⟨A, B, l, t, ⟨K + K1 + K3, fun k hk => ?_⟩, q2, q3, q1⟩
  dsimp only at e e1 e3 ⊢
  unfold spec_DrawFallDisk.f
  rw [e k (by omega), Option.bind_some]
  dsimp only
  rw [e1 k (by omega), Option.bind_some]
  dsimp only
  rw [e2, Option.bind_some]
  dsimp only
  rw [e3 k (by omega), Option.bind_some]
theorem half_size' (n : Nat) (h : n ≤ 240) : wrap64 ((n : Int) / 2) = ((n / 2 : Nat) : Int) := by rw [w64 (by omega) (by omega)]; omega
theorem spec_FallDisk_loop (left : List Bool) (torn : Int) (P0 : List ByteArray) (L : List S74) (hok : dokR P0 L = true) (hl : left.length ≤ 1048576) : ∀ (d i : Nat) (P : List ByteArray), i + d = L.length → P.length = P0.length → Ev (fun k => spec_FallDisk.l0 k left torn (i : Int) P0 L P) (fallL left torn i P (L.drop i), []) := by
  obtain ⟨h1, h2, h3, h4, h5⟩ := dokR_tells P0 L hok
  intro d
  induction d with
  | zero =>
    intro i P hi _
    refine ev_end fun k => ?_
    rw [spec_FallDisk.l0, if_neg (by omega), List.drop_eq_nil_of_le (by omega)]
    rfl
  | succ d ih =>
    intro i P hi hP
    have hd : L.drop i = rd_T74 L (i : Int) :: L.drop (i + 1) := drop_rdOf z74 L i (by omega)
    have hx : 0 ≤ (rd_T74 L (i : Int)).f0 ∧ (rd_T74 L (i : Int)).f0 < (P0.length : Int) ∧ (rd_T74 L (i : Int)).f1.size ≤ 240 := h5 _ (rdOf_mem z74 L i (by omega))
    have hs := half_size' _ hx.2.2
    rw [hd]
    unfold fallL
    refine ev_go (f := fun k => spec_FallDisk.j1 k left torn (i : Int) (!(rdOf false left (i : Int))) P0 L P) ?_ fun k => ?_
    · cases hq : rdOf false left (i : Int) with
      | false =>
        rw [if_neg (by decide)]
        refine ev_go (ih (i + 1) P (by omega) hP) fun k => ?_
        rw [spec_FallDisk.j1, if_pos (by decide), w64 (by omega) (by omega)]
        rfl
      | true =>
        rw [if_pos rfl]
        refine ev_go (ih (i + 1) _ (by omega) (by rw [List.length_set]; exact hP)) fun k => ?_
        rw [spec_FallDisk.j1, if_neg (by decide), w64 (n := (i : Int) + 1) (by omega) (by omega), if_pos (by omega), if_pos (by omega)]
        by_cases c : (i : Int) = torn
        · rw [if_pos c, if_pos c, hs, if_pos (by omega), if_pos (by omega), if_pos hx.1, if_pos (by omega), Int.toNat_natCast]
          rfl
        · rw [if_neg c, if_neg c, if_pos hx.1, if_pos (by omega)]
          rfl
    · rw [spec_FallDisk.l0, if_pos (by omega)]
      by_cases c : (i : Int) ≥ (left.length : Int)
      · have e : rdOf false left (i : Int) = false := by unfold rdOf; rw [Int.toNat_natCast]; simp [List.getD, Nat.not_lt.2 (show left.length ≤ i by omega)]
        rw [if_pos c, e]
        rfl
      · rw [if_neg c, if_pos (by omega), if_pos (by omega)]
theorem spec_FallDisk_fev (P : List ByteArray) (L : List S74) (left : List Bool) (torn : Int) (hp : P.length ≤ 1048576) (hl : L.length ≤ 1048576) (hf : left.length ≤ 1048576) : Ev (fun k => spec_FallDisk.f k P L left torn) (fallR P L left torn) := by
  unfold fallR
  obtain ⟨K1, e1⟩ := spec_DiskOk_fev P L hp hl
  by_cases c : dokR P L = true
  · rw [if_pos c]
    obtain ⟨K2, e2⟩ := spec_FallDisk_loop left torn P L c hf L.length 0 P (by omega) rfl
    rw [List.drop_zero] at e2
    refine ⟨K1 + K2, fun k hk => ?_⟩
    dsimp only at e1 e2 ⊢
    unfold spec_FallDisk.f
    rw [e1 k (by omega), Option.bind_some, if_pos c, Option.bind_some, if_pos (by simp only [List.length_nil]; omega)]
    exact e2 k (by omega)
  · rw [if_neg c]
    refine ⟨K1, fun k hk => ?_⟩
    dsimp only at e1 ⊢
    unfold spec_FallDisk.f
    rw [e1 k hk, Option.bind_some, if_neg c, spec_l03Copy_eq P L (by omega) (by omega), Option.bind_some]
end Go.Proofs.Ytbjlpmhhcigkdaa.VFnFalls
namespace Go.Proofs.Ytbjlpmhhcigkdaa.Pure
open Go.Proofs.Ytbjlpmhhcigkdaa.VFnFalls
set_option linter.unusedVariables false
set_option linter.unusedSimpArgs false
open Go Go.RowKit Go.Proofs.YtbjlpmhhcigkdaaW.PrintWords Go.Proofs.YtbjlpmhhcigkdaaW.PrintLast Go.Proofs.YtbjlpmhhcigkdaaW.PrintMore
theorem rdFalse_lt {l : List Bool} {j : Nat} (h : rdOf false l (j : Int) = true) : j < l.length := by
  by_cases c : j < l.length
  · exact c
  · have : rdOf false l (j : Int) = false := by
      unfold rdOf
      rw [Int.toNat_natCast, List.getD_eq_getElem?_getD, List.getElem?_eq_none (by omega)]
      rfl
    rw [this] at h
    cases h
theorem laws_FnFalls_inner (b : List Int) (left : List Bool) (torn : Int) (P : List ByteArray) (L : List S74) (hd : dokR P L = true) (F : List ByteArray) (hF : F.length = P.length) (i : Nat) (hi : i < P.length) (rest : Ev (fun k => laws_FnFalls.l0 k b left torn (wrap64 ((i : Int) + 1)) P L F []) true) : ∀ (d j : Nat) (same : Bool), j + d = L.length → (same = true ∨ ∃ k, j ≤ k ∧ ∃ h : k < L.length, fellAt (rdOf ByteArray.empty F (i : Int)) (i : Int) left torn (k : Int) L[k]) → Ev (fun k => laws_FnFalls.l1 k b left torn (i : Int) same (j : Int) P L F []) true := by
  obtain ⟨k1, k2, k3, k4, k5⟩ := dokR_tells P L hd
  intro d
  induction d with
  | zero =>
    intro j same hj hs
    have hs : same = true := by
      rcases hs with hs | ⟨k, h1, h2, _⟩
      · exact hs
      · omega
    subst hs
    refine ev_go rest fun k => ?_
    rw [laws_FnFalls.l1, if_neg (by omega), if_pos rfl]
  | succ d ih =>
    intro j same hj hs
    have hjl : j < L.length := by omega
    have hx : rd_T74 L (j : Int) = L[j] := rdOf_get z74 L j hjl
    have hz := (k5 _ (List.getElem_mem hjl)).2.2
    have hw : wrap64 ((j : Int) + 1) = ((j + 1 : Nat) : Int) := by rw [w64 (by omega) (by omega)]; rfl
    have go : ∀ s' : Bool, (s' = true ∨ ∃ k, j + 1 ≤ k ∧ ∃ h : k < L.length, fellAt (rdOf ByteArray.empty F (i : Int)) (i : Int) left torn (k : Int) L[k]) → (∀ k, laws_FnFalls.l1 (k + 1) b left torn (i : Int) same (j : Int) P L F [] = laws_FnFalls.l1 k b left torn (i : Int) s' ((j + 1 : Nat) : Int) P L F []) → Ev (fun k => laws_FnFalls.l1 k b left torn (i : Int) same (j : Int) P L F []) true :=
      fun s' h1 h2 => ev_go (ih (j + 1) s' (by omega) h1) h2
    have later : same = true ∨ (∃ k, j + 1 ≤ k ∧ ∃ h : k < L.length, fellAt (rdOf ByteArray.empty F (i : Int)) (i : Int) left torn (k : Int) L[k]) ∨ fellAt (rdOf ByteArray.empty F (i : Int)) (i : Int) left torn (j : Int) L[j] := by
      rcases hs with hs | ⟨k, h1, h2, h3⟩
      · exact Or.inl hs
      · by_cases c : k = j
        · subst c; exact Or.inr (Or.inr h3)
        · exact Or.inr (Or.inl ⟨k, by omega, h2, h3⟩)
    by_cases c1 : L[j].f0 = (i : Int)
    · by_cases c2 : rdOf false left (j : Int) = true
      · have hl := rdFalse_lt c2
        cases same with
        | true =>
          refine go true (Or.inl rfl) fun k => ?_
          rw [laws_FnFalls.l1, if_pos (by omega), if_pos (by omega), hx, if_pos c1, if_pos (by omega), if_pos c2, if_pos rfl, hw]
        | false =>
          by_cases c3 : (rdOf ByteArray.empty F (i : Int)).toList = L[j].f1.toList
          · refine go true (Or.inl rfl) fun k => ?_
            rw [laws_FnFalls.l1, if_pos (by omega), if_pos (by omega), hx, if_pos c1, if_pos (by omega), if_pos c2, if_neg (by decide), if_pos (by omega), if_pos (by omega), if_pos c3, hw]
          · by_cases c4 : (j : Int) = torn
            · refine go ((rdOf ByteArray.empty F (i : Int)).toList == (L[j].f1.extract 0 (L[j].f1.size / 2)).toList) ?_ fun k => ?_
              · rcases later with h | h | h
                · cases h
                · exact Or.inr h
                · rcases h.2.2 with h | h
                  · exact absurd (by rw [h]) c3
                  · left; rw [h.2]; simp
              · rw [laws_FnFalls.l1, if_pos (by omega), if_pos (by omega), hx, if_pos c1, if_pos (by omega), if_pos c2, if_neg (by decide), if_pos (by omega), if_pos (by omega), if_neg c3, if_pos c4, half_size _ hz, if_pos (by omega), if_pos (by omega), hw, Int.toNat_natCast]
            · refine go false ?_ fun k => ?_
              · rcases later with h | h | h
                · cases h
                · exact Or.inr h
                · rcases h.2.2 with h | h
                  · exact absurd (by rw [h]) c3
                  · exact absurd h.1 c4
              · rw [laws_FnFalls.l1, if_pos (by omega), if_pos (by omega), hx, if_pos c1, if_pos (by omega), if_pos c2, if_neg (by decide), if_pos (by omega), if_pos (by omega), if_neg c3, if_neg c4, hw]
      · refine go same ?_ fun k => ?_
        · rcases later with h | h | h
          · exact Or.inl h
          · exact Or.inr h
          · exact absurd h.2.1 c2
        · by_cases c3 : (j : Int) < (left.length : Int)
          · rw [laws_FnFalls.l1, if_pos (by omega), if_pos (by omega), hx, if_pos c1, if_pos c3, if_neg c2, hw]
          · rw [laws_FnFalls.l1, if_pos (by omega), if_pos (by omega), hx, if_pos c1, if_neg c3, hw]
    · refine go same ?_ fun k => ?_
      · rcases later with h | h | h
        · exact Or.inl h
        · exact Or.inr h
        · exact absurd h.1 c1
      · rw [laws_FnFalls.l1, if_pos (by omega), if_pos (by omega), hx, if_neg c1, hw]
theorem fallR_lens (P : List ByteArray) (L : List S74) (left : List Bool) (torn : Int) : (fallR P L left torn).1.length = P.length ∧ (fallR P L left torn).2.length ≤ L.length := by
  unfold fallR
  split
  · exact ⟨fallL_length _ _ _ _ _, Nat.zero_le _⟩
  · exact ⟨rfl, Nat.le_refl _⟩
theorem laws_FnFalls_outer (b : List Int) (hb : b.length ≤ 140737488351232) (left : List Bool) (torn : Int) (P : List ByteArray) (L : List S74) (hd : dokR P L = true) : ∀ (d i : Nat), i + d = P.length → Ev (fun k => laws_FnFalls.l0 k b left torn (i : Int) P L (fallL left torn 0 P L) []) true := by
  obtain ⟨k1, k2, k3, k4, k5⟩ := dokR_tells P L hd
  have hF : (fallL left torn 0 P L).length = P.length := fallL_length _ _ _ _ _
  intro d
  induction d with
  | zero =>
    intro i hi
    obtain ⟨A, B, l2, t2, ⟨K1, e1⟩, hA, hB, hl⟩ := spec_DrawFallDisk_draws b hb
    obtain ⟨K2, e2⟩ := impl_FallDisk_fev P L [] (-1) (by omega) (by omega) (by simp)
    have g2 : fallR P L [] (-1) = (P, []) := by unfold fallR; rw [if_pos hd, fallL_none]
    obtain ⟨K3, e3⟩ := laws_sameTexts_same P (by omega)
    obtain ⟨K4, e4⟩ := impl_FallDisk_fev A B l2 t2 (by omega) (by omega) (by omega)
    obtain ⟨K5, e5⟩ := spec_FallDisk_fev A B l2 t2 (by omega) (by omega) (by omega)
    have hf := fallR_lens A B l2 t2
    obtain ⟨K6, e6⟩ := laws_sameDisk_same (fallR A B l2 t2).1 (fallR A B l2 t2).2 (by omega) (by omega)
    dsimp only at e1 e2 e3 e4 e5 e6
    refine ev_succ ⟨K1 + K2 + K3 + K4 + K5 + K6, fun k hk => ?_⟩
    rw [laws_FnFalls.l0, if_neg (by omega), e2 k (by omega), Option.bind_some, g2, e1 k (by omega), Option.bind_some, if_pos (by rfl), if_pos (by omega)]
    dsimp only
    rw [e3 k (by omega), Option.bind_some, if_pos rfl, e4 k (by omega), Option.bind_some, e5 k (by omega), Option.bind_some, e6 k (by omega), Option.bind_some]
  | succ d ih =>
    intro i hi
    have h0 := fallL_read left torn (i : Int) (by omega) L 0 P (by omega) (fun x hx => (k5 x hx).1)
    have rest := ih (i + 1) (by omega)
    have hw : wrap64 ((i : Int) + 1) = ((i + 1 : Nat) : Int) := by rw [w64 (by omega) (by omega)]; rfl
    rw [← hw] at rest
    refine ev_go (laws_FnFalls_inner b left torn P L hd _ hF i (by omega) rest L.length 0 ((rdOf ByteArray.empty (fallL left torn 0 P L) (i : Int)).toList == (rdOf ByteArray.empty P (i : Int)).toList) (by omega) ?_) fun k => ?_
    · rcases h0 with h | ⟨k, h1, h2⟩
      · left; rw [h]; simp
      · right
        refine ⟨k, Nat.zero_le _, h1, ?_⟩
        simpa using h2
    · rw [laws_FnFalls.l0, if_pos (by omega), if_pos (by omega), if_pos (by omega)]
      rfl
theorem FnFalls : laws_FnFalls.Pure := by
  intro b _ hb _
  have hb' : b.length ≤ 140737488351232 := by omega
  obtain ⟨P, L, ⟨K1, e1⟩, hd, hl⟩ := spec_DrawDisk_draws b hb'
  obtain ⟨left, ⟨K2, e2⟩, l1⟩ := spec_DrawLeft_draws b hb'
  obtain ⟨l, ⟨K3, e3⟩, l2, _⟩ := spec_DrawPlaces_draws b hb'
  obtain ⟨k1, k2, k3, k4, k5⟩ := dokR_tells P L hd
  generalize ht : wrap64 ((Int.tmod (rd l 0) 8) - 1) = torn
  obtain ⟨K4, e4⟩ := impl_FallDisk_fev P L left torn (by omega) (by omega) (by omega)
  have g4 : fallR P L left torn = (fallL left torn 0 P L, []) := by unfold fallR; rw [if_pos hd]
  obtain ⟨K5, e5⟩ := laws_FnFalls_outer b hb' left torn P L hd P.length 0 (by omega)
  dsimp only at e1 e2 e3 e4 e5
  refine ⟨K1 + K2 + K3 + K4 + K5, ?_⟩
  unfold laws_FnFalls.f laws_big.f
  rw [Option.bind_some]
  by_cases c : (b.length : Int) > 1048576
  · rw [if_pos (decide_eq_true c)]
  · rw [if_neg (by simp only [decide_eq_true_eq]; exact c), e1 _ (by omega), Option.bind_some, e2 _ (by omega), Option.bind_some, e3 _ (by omega), Option.bind_some, if_pos (by omega), ht]
    dsimp only
    rw [e4 _ (by omega), Option.bind_some, g4]
    exact e5 _ (by omega)
end Go.Proofs.Ytbjlpmhhcigkdaa.Pure
