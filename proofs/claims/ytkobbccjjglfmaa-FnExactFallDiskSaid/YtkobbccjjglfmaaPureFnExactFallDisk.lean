/- The printed form of FnExactFallDisk answers true at every input that its bounds let in; no other conditions. -/
import Derived.Test.YtkobbccjjglfmaaVFnExactFallDiskx10
import Derived.Test.YtkobbccjjglfmaaG
import Derived.Lib.Bytealg
namespace Go.Proofs.Ytkobbccjjglfmaa.VFnExactFallDisk
set_option linter.unusedVariables false
set_option linter.unusedSimpArgs false
open Go Go.RowKit Go.Proofs.YtkobbccjjglfmaaW.PrintWords Go.Proofs.YtkobbccjjglfmaaW.PrintLast Go.Proofs.YtkobbccjjglfmaaW.PrintMore
theorem w64 {n : Int} (h : -9223372036854775808 ≤ n) (h' : n ≤ 9223372036854775807) : wrap64 n = n := by
  unfold wrap64; omega
theorem ev_some {α : Type} {g : Nat → Option α} {r : α} (h : ∀ k, g k = some r) : Ev g r := ⟨0, fun k _ => h k⟩
theorem ev_succ {α : Type} {g : Nat → Option α} {r : α} (h : ∃ K, ∀ k, K ≤ k → g (k + 1) = some r) : Ev g r := by
  obtain ⟨K, h⟩ := h
  refine ⟨K + 1, fun k hk => ?_⟩
  obtain ⟨m, rfl⟩ : ∃ m, k = m + 1 := ⟨k - 1, by omega⟩
  exact h m (by omega)
/-- One round that goes on. -/
theorem ev_go {α : Type} {g f : Nat → Option α} {r : α} (hf : Ev f r) (h : ∀ k, g (k + 1) = f k) : Ev g r := Ev.step h hf
/-- One round that ends. -/
theorem ev_end {α : Type} {g : Nat → Option α} {r : α} (h : ∀ k, g (k + 1) = some r) : Ev g r := ev_succ ⟨0, fun k _ => h k⟩
/-- One call, then the rest. -/
theorem ev_call {α β : Type} {g : Nat → Option α} {f : Nat → Option β} {c : Nat → β → Option α} {b : β} {r : α} (hf : Ev f b) (hc : Ev (fun k => c k b) r) (h : ∀ k, g k = (f k).bind (c k)) : Ev g r :=
  Ev.congr h (Ev.bind hf hc)
/-- One round with one call in it. -/
theorem ev_go_call {α β : Type} {g : Nat → Option α} {f : Nat → Option β} {c : Nat → β → Option α} {b : β} {r : α} (hf : Ev f b) (hc : Ev (fun k => c k b) r) (h : ∀ k, g (k + 1) = (f k).bind (c k)) : Ev g r :=
  Ev.step h (Ev.bind hf hc)
theorem strOfNums_bytesOf (s : ByteArray) : strOfNums (bytesOf s) = s := by
  apply ByteArray.ext
  apply Array.toList_inj.1
  rw [strOfNums_data]
  unfold bytesOf
  rw [List.map_map]
  conv => rhs; rw [← List.map_id s.data.toList]
  apply List.map_congr_left
  intro b _
  simp
theorem bytesOf_extract (s : ByteArray) (a b : Nat) : bytesOf (s.extract a b) = ((bytesOf s).drop a).take (b - a) := by
  unfold bytesOf
  rw [ByteArray.data_extract, Array.toList_extract, List.extract_eq_take_drop, List.map_take, List.map_drop]
theorem bytesOf_inj {s t : ByteArray} (h : bytesOf s = bytesOf t) : s = t := by
  rw [← strOfNums_bytesOf s, ← strOfNums_bytesOf t, h]
section
variable {α β : Type}
theorem drop_rdOf (d : α) (xs : List α) (i : Nat) (h : i < xs.length) : xs.drop i = rdOf d xs (i : Int) :: xs.drop (i + 1) := by
  rw [List.drop_eq_getElem_cons h]
  congr 1
  unfold rdOf
  rw [Int.toNat_natCast]
  simp [List.getD, h]
theorem rdOf_get (d : α) (xs : List α) (i : Nat) (h : i < xs.length) : rdOf d xs (i : Int) = xs[i] := by
  unfold rdOf
  rw [Int.toNat_natCast]
  simp [List.getD, h]
theorem rdOf_mem (d : α) (xs : List α) (i : Nat) (h : i < xs.length) : rdOf d xs (i : Int) ∈ xs := by
  rw [rdOf_get d xs i h]; exact List.getElem_mem h
theorem set_mid (pre t : List α) (x v : α) (i : Nat) (h : pre.length = i) : (pre ++ x :: t).set i v = pre ++ v :: t := by
  subst h
  rw [List.set_append_right _ _ (Nat.le_refl _)]
  simp
theorem rdOf_mid (d : α) (pre t : List α) (x : α) (i : Nat) (h : pre.length = i) : rdOf d (pre ++ x :: t) (i : Int) = x := by
  subst h
  unfold rdOf
  rw [Int.toNat_natCast]
  simp [List.getD]
/-- What is left of a measure behind a list. -/
def szL (w : α → Int) : List α → Int → Int
  | [], left => left
  | x :: t, left => if left - w x < 0 then -1 else szL w t (left - w x)
def szR (w : α → Int) (l : List α) (left : Int) : Int := if left - (l.length : Int) < 0 then -1 else szL w l (left - (l.length : Int))
def sumW (w : α → Int) : List α → Int
  | [] => 0
  | x :: t => w x + sumW w t
theorem sumW_nonneg (w : α → Int) (l : List α) (h : ∀ x ∈ l, 0 ≤ w x) : 0 ≤ sumW w l := by
  induction l with
  | nil => exact Int.le_refl 0
  | cons x t ih =>
    have h1 := h x (by simp)
    have h2 := ih (fun y hy => h y (by simp [hy]))
    unfold sumW
    omega
theorem szL_tells (w : α → Int) (l : List α) (h : ∀ x ∈ l, 0 ≤ w x) : ∀ left : Int, 0 ≤ szL w l left → szL w l left = left - sumW w l := by
  induction l with
  | nil => intro left _; unfold szL sumW; omega
  | cons x t ih =>
    intro left hl
    unfold szL at hl ⊢
    unfold sumW
    split
    · rename_i hc; rw [if_pos hc] at hl; omega
    · rename_i hc
      rw [if_neg hc] at hl
      rw [ih (fun y hy => h y (by simp [hy])) _ hl]
      omega
theorem szR_tells (w : α → Int) (l : List α) (h : ∀ x ∈ l, 0 ≤ w x) (left : Int) (hl : 0 ≤ szR w l left) : szR w l left = left - (l.length : Int) - sumW w l ∧ 0 ≤ sumW w l := by
  unfold szR at hl ⊢
  have h0 := sumW_nonneg w l h
  split
  · rename_i hc; rw [if_pos hc] at hl; omega
  · rename_i hc
    rw [if_neg hc] at hl
    exact ⟨szL_tells w l h _ hl, h0⟩
theorem szR_le (w : α → Int) (l : List α) (h : ∀ x ∈ l, 0 ≤ w x) (left : Int) (h0 : 0 ≤ szR w l left) : szR w l left ≤ left := by
  have := szR_tells w l h left h0
  omega
end
def mtB (n : Nat) (acc : ByteArray) : ByteArray := if n = 0 then (⟨#[109]⟩ : ByteArray) ++ acc else mtB (n / 10) (strOfNums [(48 + (n : Int) % 10) % 256] ++ acc)
termination_by n
decreasing_by omega
def mtR (k : Int) : ByteArray := if k ≤ 0 then ⟨#[109, 48]⟩ else mtB k.toNat ⟨#[]⟩
theorem mtB_zero (acc : ByteArray) : mtB 0 acc = (⟨#[109]⟩ : ByteArray) ++ acc := by rw [mtB, if_pos rfl]
theorem mtB_pos {n : Nat} (h : n ≠ 0) (acc : ByteArray) : mtB n acc = mtB (n / 10) (strOfNums [(48 + (n : Int) % 10) % 256] ++ acc) := by rw [mtB, if_neg h]
def marksS (k : Int) : Nat → List ByteArray
  | 0 => []
  | n + 1 => mtR k :: marksS (k + 1) n
theorem marksS_length (n : Nat) : ∀ k, (marksS k n).length = n := by
  induction n with
  | zero => intro k; rfl
  | succ n ih => intro k; unfold marksS; rw [List.length_cons, ih]
def bwt (s : ByteArray) : Int := (s.size : Int)
theorem bwt_nonneg (s : ByteArray) : 0 ≤ bwt s := by unfold bwt; omega
theorem in_dec (x a b : Int) : (if x ≥ a then some (decide (x ≤ b)) else some false) = some (decide (a ≤ x ∧ x ≤ b)) := by
  by_cases c : x ≥ a
  · rw [if_pos c]
    congr 1
    by_cases d : x ≤ b
    · rw [decide_eq_true d, decide_eq_true ⟨c, d⟩]
    · rw [decide_eq_false d, decide_eq_false (fun h => d h.2)]
  · rw [if_neg c, decide_eq_false (fun h => c h.1)]
def Took (s : ByteArray) (a b : Int) (x : ByteArray) : Prop := 0 ≤ a ∧ b ≤ (s.size : Int) ∧ b = a + (x.size : Int) ∧ (bytesOf s).drop a.toNat = bytesOf x ++ (bytesOf s).drop b.toNat
theorem Took.extract {s : ByteArray} {a b : Int} {x : ByteArray} (h : Took s a b x) : s.extract a.toNat b.toNat = x := by
  obtain ⟨h1, h2, h3, h4⟩ := h
  apply bytesOf_inj
  rw [bytesOf_extract, h4, show b.toNat - a.toNat = (bytesOf x).length by rw [bytesOf_length]; omega, List.take_left']
  rfl
theorem take_succ_rdOf {α : Type} (d : α) (l : List α) (i : Nat) (h : i < l.length) : l.take (i + 1) = l.take i ++ [rdOf d l (i : Int)] := by
  rw [rdOf_get d l i h]; exact List.take_succ_eq_append_getElem h
/-- The text that was written last to a page, among the first n that are late. -/
def rpL (page : Int) (base : ByteArray) (late : List S115) : Nat → ByteArray
  | 0 => base
  | n + 1 => if (rd_T115 late (n : Int)).f0 = page then (rd_T115 late (n : Int)).f1 else rpL page base late n
def rpR (pages : List ByteArray) (late : List S115) (page : Int) : ByteArray :=
  if 0 ≤ page ∧ page < (pages.length : Int) then rpL page (rdOf ByteArray.empty pages page) late late.length else ⟨#[]⟩
def marksPut (k : Int) : Nat → List S115
  | 0 => []
  | n + 1 => ⟨k, mtR (k + 1)⟩ :: marksPut (k + 2) n
theorem marksPut_length (n : Nat) : ∀ k, (marksPut k n).length = n := by
  induction n with
  | zero => intro k; rfl
  | succ n ih => intro k; unfold marksPut; rw [List.length_cons, ih]
def dokR (pages : List ByteArray) (late : List S115) : Bool :=
  decide (4 ≤ (pages.length : Int) ∧ (pages.length : Int) ≤ 40) && decide ((late.length : Int) ≤ 200) && !(pages.any fun s => decide ((s.size : Int) > 240)) && !(late.any fun p => !decide (0 ≤ p.f0 ∧ p.f0 ≤ wrap64 ((pages.length : Int) - 1)) || decide ((p.f1.size : Int) > 240))
theorem dokR_tells (pages : List ByteArray) (late : List S115) (h : dokR pages late = true) : 4 ≤ pages.length ∧ pages.length ≤ 40 ∧ late.length ≤ 200 ∧ (∀ s ∈ pages, s.size ≤ 240) ∧ ∀ p ∈ late, 0 ≤ p.f0 ∧ p.f0 < (pages.length : Int) ∧ p.f1.size ≤ 240 := by
  unfold dokR at h
  simp only [Bool.and_eq_true, decide_eq_true_eq, Bool.not_eq_true', List.any_eq_false, Bool.or_eq_true, not_or, Bool.not_eq_true, Bool.not_eq_false'] at h
  obtain ⟨⟨⟨h1, h2⟩, h3⟩, h4⟩ := h
  refine ⟨by omega, by omega, by omega, fun s hs => ?_, fun p hp => ?_⟩
  · have := h3 s hs; omega
  · have h5 := h4 p hp
    rw [w64 (by omega) (by omega)] at h5
    have h6 : 0 ≤ p.f0 ∧ p.f0 ≤ (pages.length : Int) - 1 := of_decide_eq_true (Bool.of_not_eq_false h5.1)
    have h7 := h5.2
    omega
theorem dokR_mk (pages : List ByteArray) (late : List S115) (h1 : 4 ≤ pages.length) (h2 : pages.length ≤ 40) (h3 : late.length ≤ 200) (h4 : ∀ s ∈ pages, s.size ≤ 240) (h5 : ∀ p ∈ late, 0 ≤ p.f0 ∧ p.f0 < (pages.length : Int) ∧ p.f1.size ≤ 240) : dokR pages late = true := by
  unfold dokR
  rw [decide_eq_true (⟨by omega, by omega⟩ : 4 ≤ (pages.length : Int) ∧ (pages.length : Int) ≤ 40), decide_eq_true (by omega : (late.length : Int) ≤ 200)]
  have a1 : (pages.any fun s => decide ((s.size : Int) > 240)) = false := by
    rw [List.any_eq_false]
    intro s hs
    have := h4 s hs
    rw [decide_eq_false (by omega)]; decide
  have a2 : (late.any fun p => !decide (0 ≤ p.f0 ∧ p.f0 ≤ wrap64 ((pages.length : Int) - 1)) || decide ((p.f1.size : Int) > 240)) = false := by
    rw [List.any_eq_false]
    intro p hp
    obtain ⟨g1, g2, g3⟩ := h5 p hp
    rw [w64 (by omega) (by omega), decide_eq_true (⟨g1, by omega⟩ : 0 ≤ p.f0 ∧ p.f0 ≤ (pages.length : Int) - 1), decide_eq_false (by omega)]
    decide
  rw [a1, a2]
  rfl
def setPg (P : List ByteArray) (x : S115) : List ByteArray := if 0 ≤ x.f0 ∧ x.f0 < (P.length : Int) then P.set x.f0.toNat x.f1 else P
def syncL : List ByteArray → List S115 → List ByteArray
  | P, [] => P
  | P, x :: t => syncL (setPg P x) t
theorem setPg_length (P : List ByteArray) (x : S115) : (setPg P x).length = P.length := by unfold setPg; split <;> simp
theorem syncL_length (L : List S115) : ∀ P, (syncL P L).length = P.length := by
  induction L with
  | nil => intro P; rfl
  | cons x t ih => intro P; unfold syncL; rw [ih, setPg_length]
theorem syncL_append (a b : List S115) : ∀ P, syncL P (a ++ b) = syncL (syncL P a) b := by
  induction a with
  | nil => intro P; rfl
  | cons x t ih => intro P; exact ih _
theorem rdOf_set (P : List ByteArray) (j : Nat) (v : ByteArray) (page : Int) (h0 : 0 ≤ page) (h : page < (P.length : Int)) : rdOf ByteArray.empty (P.set j v) page = if (j : Int) = page then v else rdOf ByteArray.empty P page := by
  obtain ⟨i, rfl⟩ := Int.eq_ofNat_of_zero_le h0
  rw [rdOf_get _ _ i (by rw [List.length_set]; omega), rdOf_get _ _ i (by omega), List.getElem_set]
  by_cases c : j = i
  · rw [if_pos c, if_pos (by omega)]
  · rw [if_neg c, if_neg (by omega)]
theorem setPg_read (P : List ByteArray) (x : S115) (page : Int) (h0 : 0 ≤ page) (h : page < (P.length : Int)) : rdOf ByteArray.empty (setPg P x) page = if x.f0 = page then x.f1 else rdOf ByteArray.empty P page := by
  unfold setPg
  by_cases c : 0 ≤ x.f0 ∧ x.f0 < (P.length : Int)
  · rw [if_pos c, rdOf_set P _ _ page h0 h, Int.toNat_of_nonneg c.1]
  · rw [if_neg c, if_neg (by omega)]
theorem syncL_take (P : List ByteArray) (L : List S115) (page : Int) (h0 : 0 ≤ page) (h : page < (P.length : Int)) : ∀ n, n ≤ L.length → rdOf ByteArray.empty (syncL P (L.take n)) page = rpL page (rdOf ByteArray.empty P page) L n := by
  intro n
  induction n with
  | zero => intro _; rfl
  | succ n ih =>
    intro hn
    rw [take_succ_rdOf z115 L n (by omega), syncL_append]
    show rdOf ByteArray.empty (setPg (syncL P (L.take n)) _) page = _
    rw [setPg_read _ _ page h0 (by rw [syncL_length]; exact h), ih (by omega)]
    rfl
theorem syncL_read (P : List ByteArray) (L : List S115) (page : Int) (h0 : 0 ≤ page) (h : page < (P.length : Int)) : rdOf ByteArray.empty (syncL P L) page = rpR P L page := by
  have := syncL_take P L page h0 h L.length (Nat.le_refl _)
  rw [List.take_length] at this
  rw [this]
  unfold rpR
  rw [if_pos ⟨h0, h⟩]
theorem rpL_prefix (page : Int) (base : ByteArray) (l m : List S115) : ∀ n, n ≤ l.length → rpL page base (l ++ m) n = rpL page base l n := by
  intro n
  induction n with
  | zero => intro _; rfl
  | succ n ih =>
    intro hn
    unfold rpL
    have e1 : rd_T115 (l ++ m) (n : Int) = rd_T115 l (n : Int) := by
      show rdOf z115 (l ++ m) (n : Int) = rdOf z115 l (n : Int)
      rw [rdOf_get _ _ n (by rw [List.length_append]; omega), rdOf_get _ _ n (by omega), List.getElem_append_left (by omega)]
    rw [e1, ih (by omega)]
theorem rpR_write (P : List ByteArray) (L : List S115) (x : S115) (page : Int) (h0 : 0 ≤ page) (h : page < (P.length : Int)) : rpR P (L ++ [x]) page = if x.f0 = page then x.f1 else rpR P L page := by
  unfold rpR
  rw [if_pos (show 0 ≤ page ∧ page < (P.length : Int) from ⟨h0, h⟩), if_pos (show 0 ≤ page ∧ page < (P.length : Int) from ⟨h0, h⟩), List.length_append, List.length_singleton]
  show (if (rd_T115 (L ++ [x]) (L.length : Int)).f0 = page then (rd_T115 (L ++ [x]) (L.length : Int)).f1 else rpL page (rdOf ByteArray.empty P page) (L ++ [x]) L.length) = _
  have e1 : rd_T115 (L ++ [x]) (L.length : Int) = x := by
    show rdOf z115 (L ++ [x]) (L.length : Int) = x
    exact rdOf_mid z115 L [] x _ rfl
  rw [e1, rpL_prefix _ _ L [x] L.length (Nat.le_refl _)]
theorem mem_set_le {P : List ByteArray} {j : Nat} {v : ByteArray} {m : Nat} (h : ∀ s ∈ P, s.size ≤ m) (hv : v.size ≤ m) : ∀ s ∈ P.set j v, s.size ≤ m := by
  intro s hs
  rcases List.mem_or_eq_of_mem_set hs with h1 | h1
  · exact h s h1
  · rw [h1]; exact hv
theorem syncL_small (m : Nat) (L : List S115) : ∀ P : List ByteArray, (∀ s ∈ P, s.size ≤ m) → (∀ p ∈ L, p.f1.size ≤ m) → ∀ s ∈ syncL P L, s.size ≤ m := by
  induction L with
  | nil => intro P h _; exact h
  | cons x t ih =>
    intro P h g
    refine ih _ ?_ (fun p hp => g p (by simp [hp]))
    unfold setPg
    split
    · exact mem_set_le h (g x (by simp))
    · exact h
theorem dokR_sync {P : List ByteArray} {L : List S115} (h : dokR P L = true) : dokR (syncL P L) [] = true := by
  obtain ⟨h1, h2, h3, h4, h5⟩ := dokR_tells P L h
  refine dokR_mk _ _ (by rw [syncL_length]; exact h1) (by rw [syncL_length]; exact h2) (Nat.zero_le _) (syncL_small 240 L P h4 (fun p hp => (h5 p hp).2.2)) (fun p hp => by cases hp)
theorem dokR_write {P : List ByteArray} {L : List S115} (h : dokR P L = true) (x : S115) (hl : L.length < 200) (h0 : 0 ≤ x.f0) (h1 : x.f0 < (P.length : Int)) (h2 : x.f1.size ≤ 240) : dokR P (L ++ [x]) = true := by
  obtain ⟨g1, g2, g3, g4, g5⟩ := dokR_tells P L h
  refine dokR_mk _ _ g1 g2 (by rw [List.length_append, List.length_singleton]; omega) g4 (fun p hp => ?_)
  rcases List.mem_append.1 hp with hp | hp
  · exact g5 p hp
  · rw [List.mem_singleton.1 hp]; exact ⟨h0, h1, h2⟩
def wpR (P : List ByteArray) (L : List S115) (page : Int) (text : ByteArray) : List ByteArray × List S115 × Bool :=
  if dokR P L = true ∧ (0 ≤ page ∧ page < (P.length : Int)) ∧ text.size ≤ 240 ∧ L.length < 200 then (P, L ++ [⟨page, text⟩], true) else (P, L, false)
/-- What falls: of what is late that which is left, torn at one place. -/
def fallL (left : List Bool) (torn : Int) : Nat → List ByteArray → List S115 → List ByteArray
  | _, P, [] => P
  | i, P, x :: t => fallL left torn (i + 1) (if rdOf false left (i : Int) = true then P.set x.f0.toNat (if (i : Int) = torn then x.f1.extract 0 (x.f1.size / 2) else x.f1) else P) t
theorem fallL_length (left : List Bool) (torn : Int) (L : List S115) : ∀ i P, (fallL left torn i P L).length = P.length := by
  induction L with
  | nil => intro i P; rfl
  | cons x t ih => intro i P; unfold fallL; rw [ih]; split <;> simp
def fallR (P : List ByteArray) (L : List S115) (left : List Bool) (torn : Int) : List ByteArray × List S115 :=
  if dokR P L = true then (fallL left torn 0 P L, []) else (P, L)
/-- What fell on a page was kept there, or late, whole or half. -/
def fellAt (val : ByteArray) (page : Int) (left : List Bool) (torn : Int) (k : Int) (x : S115) : Prop := x.f0 = page ∧ rdOf false left k = true ∧ (val = x.f1 ∨ (k = torn ∧ val = x.f1.extract 0 (x.f1.size / 2)))
theorem fallL_read (left : List Bool) (torn : Int) (page : Int) (h0 : 0 ≤ page) (L : List S115) : ∀ (i : Nat) (P : List ByteArray), page < (P.length : Int) → (∀ x ∈ L, 0 ≤ x.f0) → rdOf ByteArray.empty (fallL left torn i P L) page = rdOf ByteArray.empty P page ∨ ∃ k, ∃ h : k < L.length, fellAt (rdOf ByteArray.empty (fallL left torn i P L) page) page left torn ((i + k : Nat) : Int) L[k] := by
  induction L with
  | nil => intro i P _ _; exact .inl rfl
  | cons x t ih =>
    intro i P h hx
    unfold fallL
    rcases ih (i + 1) (if rdOf false left (i : Int) = true then P.set x.f0.toNat (if (i : Int) = torn then x.f1.extract 0 (x.f1.size / 2) else x.f1) else P) (by
      have e : (if rdOf false left (i : Int) = true then P.set x.f0.toNat (if (i : Int) = torn then x.f1.extract 0 (x.f1.size / 2) else x.f1) else P).length = P.length := by split <;> simp
      rw [e]; exact h) (fun y hy => hx y (by simp [hy])) with h1 | ⟨k, hk, h1⟩
    · rw [h1]
      by_cases c : rdOf false left (i : Int) = true
      · rw [if_pos c, rdOf_set P _ _ page h0 h, Int.toNat_of_nonneg (hx x (by simp))]
        by_cases e : x.f0 = page
        · rw [if_pos e]
          refine .inr ⟨0, by simp, e, c, ?_⟩
          show (if (i : Int) = torn then x.f1.extract 0 (x.f1.size / 2) else x.f1) = x.f1 ∨ _
          by_cases q : (i : Int) = torn
          · rw [if_pos q]; exact .inr ⟨q, rfl⟩
          · rw [if_neg q]; exact .inl rfl
        · rw [if_neg e]; exact .inl rfl
      · rw [if_neg c]; exact .inl rfl
    · refine .inr ⟨k + 1, by simp; omega, ?_⟩
      rw [show i + (k + 1) = i + 1 + k by omega]
      exact h1
theorem fallL_none (torn : Int) (L : List S115) : ∀ (i : Nat) (P : List ByteArray), fallL [] torn i P L = P := by
  induction L with
  | nil => intro i P; rfl
  | cons x t ih =>
    intro i P
    unfold fallL
    have : rdOf false ([] : List Bool) (i : Int) = false := by unfold rdOf; simp
    rw [this, if_neg (by decide)]
    exact ih _ _
theorem laws_szStringS_loop (l : List ByteArray) (hb : l.length ≤ 9223372036854775807) (hw : ∀ x ∈ l, 0 ≤ bwt x ∧ bwt x ≤ 9223372036854775807) : ∀ (d i : Nat) (left : Int), i + d = l.length → 0 ≤ left → left ≤ 9223372036854775807 → Ev (fun k => laws_szStringS.l0 k l left (i : Int)) (szL bwt (l.drop i) left) := by
  intro d
  induction d with
  | zero =>
    intro i left hi h0 h1
    refine ev_end fun k => ?_
    rw [laws_szStringS.l0, if_neg (by omega), List.drop_eq_nil_of_le (by omega)]
    rfl
  | succ d ih =>
    intro i left hi h0 h1
    have hx := hw _ (rdOf_mem ByteArray.empty l i (by omega))
    rw [drop_rdOf ByteArray.empty l i (by omega)]
    unfold szL
    have hu : bwt (rdOf ByteArray.empty l (i : Int)) = ((rdOf ByteArray.empty l (i : Int)).size : Int) := rfl
    by_cases c : left - bwt (rdOf ByteArray.empty l (i : Int)) < 0
    · rw [if_pos c]
      refine ev_end fun k => ?_
      rw [hu] at c hx
      rw [laws_szStringS.l0, if_pos (by omega), if_pos (by omega), w64 (by omega) (by omega), if_pos c]
    · rw [if_neg c]
      rw [hu] at c hx ⊢
      refine ev_go (ih (i + 1) _ (by omega) (by omega) (by omega)) fun k => ?_
      rw [laws_szStringS.l0, if_pos (by omega), if_pos (by omega), w64 (n := left - _) (by omega) (by omega), if_neg c, w64 (n := (i : Int) + 1) (by omega) (by omega)]
      rfl
theorem laws_szStringS_fev (l : List ByteArray) (hb : l.length ≤ 9223372036854775807) (hw : ∀ x ∈ l, 0 ≤ bwt x ∧ bwt x ≤ 9223372036854775807) (left : Int) (h0 : 0 ≤ left) (h1 : left ≤ 9223372036854775807) : Ev (fun k => laws_szStringS.f k l left) (szR bwt l left) := by
  unfold szR
  by_cases c : left - (l.length : Int) < 0
  · rw [if_pos c]
    refine ev_some fun k => ?_
    unfold laws_szStringS.f
    rw [w64 (by omega) (by omega), if_pos c]
  · rw [if_neg c]
    refine Ev.congr (fun k => ?_) (laws_szStringS_loop l hb hw l.length 0 (left - (l.length : Int)) (by omega) (by omega) (by omega))
    unfold laws_szStringS.f
    rw [w64 (by omega) (by omega), if_neg c]
    rfl
theorem laws_szPut_eq (a : Int) (b : ByteArray) (left : Int) (h0 : 0 ≤ left) (h1 : left ≤ 9223372036854775807) (hs : (b.size : Int) ≤ 9223372036854775807) : laws_szPut.f a b left = some (if left - (b.size : Int) < 0 then -1 else left - (b.size : Int)) := by
  unfold laws_szPut.f
  rw [w64 (by omega) (by omega)]
  split <;> rfl
def wPut (x : S172) : Int := (x.f1.size : Int)
theorem laws_szPutS_loop (l : List S172) (hb : l.length ≤ 9223372036854775807) (hw : ∀ x ∈ l, 0 ≤ wPut x ∧ wPut x ≤ 9223372036854775807) : ∀ (d i : Nat) (left : Int), i + d = l.length → 0 ≤ left → left ≤ 9223372036854775807 → Ev (fun k => laws_szPutS.l0 k l left (i : Int)) (szL wPut (l.drop i) left) := by
  intro d
  induction d with
  | zero =>
    intro i left hi h0 h1
    refine ev_end fun k => ?_
    rw [laws_szPutS.l0, if_neg (by omega), List.drop_eq_nil_of_le (by omega)]
    rfl
  | succ d ih =>
    intro i left hi h0 h1
    have hx := hw _ (rdOf_mem z172 l i (by omega))
    rw [drop_rdOf z172 l i (by omega)]
    unfold szL
    have hu : wPut (rdOf z172 l (i : Int)) = ((rd_T172 l (i : Int)).f1.size : Int) := rfl
    by_cases c : left - wPut (rdOf z172 l (i : Int)) < 0
    · rw [if_pos c]
      refine ev_end fun k => ?_
      rw [hu] at c hx
      rw [laws_szPutS.l0, if_pos (by omega), if_pos (by omega), laws_szPut_eq _ _ _ h0 h1 hx.2, Option.bind_some, if_pos c, if_pos (by decide)]
    · rw [if_neg c]
      rw [hu] at c hx ⊢
      refine ev_go (ih (i + 1) _ (by omega) (by omega) (by omega)) fun k => ?_
      rw [laws_szPutS.l0, if_pos (by omega), if_pos (by omega), laws_szPut_eq _ _ _ h0 h1 hx.2, Option.bind_some, if_neg c, if_neg c, w64 (n := (i : Int) + 1) (by omega) (by omega)]
      rfl
theorem laws_szPutS_fev (l : List S172) (hb : l.length ≤ 9223372036854775807) (hw : ∀ x ∈ l, 0 ≤ wPut x ∧ wPut x ≤ 9223372036854775807) (left : Int) (h0 : 0 ≤ left) (h1 : left ≤ 9223372036854775807) : Ev (fun k => laws_szPutS.f k l left) (szR wPut l left) := by
  unfold szR
  by_cases c : left - (l.length : Int) < 0
  · rw [if_pos c]
    refine ev_some fun k => ?_
    unfold laws_szPutS.f
    rw [w64 (by omega) (by omega), if_pos c]
  · rw [if_neg c]
    refine Ev.congr (fun k => ?_) (laws_szPutS_loop l hb hw l.length 0 (left - (l.length : Int)) (by omega) (by omega) (by omega))
    unfold laws_szPutS.f
    rw [w64 (by omega) (by omega), if_neg c]
    rfl
def szDiskR (a : List ByteArray) (b : List S172) (left : Int) : Int := if szR bwt a left < 0 then -1 else if szR wPut b (szR bwt a left) < 0 then -1 else szR wPut b (szR bwt a left)
theorem laws_szDisk_fev (a : List ByteArray) (b : List S172) (ha : a.length ≤ 9223372036854775807) (hb : b.length ≤ 9223372036854775807) (ha' : ∀ x ∈ a, x.size ≤ 9223372036854775807) (hb' : ∀ x ∈ b, x.f1.size ≤ 9223372036854775807) (left : Int) (h0 : 0 ≤ left) (h1 : left ≤ 9223372036854775807) : Ev (fun k => laws_szDisk.f k a b left) (szDiskR a b left) := by
  have w1 : ∀ x ∈ a, 0 ≤ bwt x ∧ bwt x ≤ 9223372036854775807 := fun x hx => ⟨bwt_nonneg x, by have := ha' x hx; unfold bwt; omega⟩
  have w2 : ∀ x ∈ b, 0 ≤ wPut x ∧ wPut x ≤ 9223372036854775807 := fun x hx => ⟨Int.natCast_nonneg _, Int.ofNat_le.2 (hb' x hx)⟩
  unfold szDiskR
  refine ev_call (laws_szStringS_fev a ha w1 left h0 h1) ?_ (fun k => rfl)
  by_cases c : szR bwt a left < 0
  · rw [if_pos c]
    exact ev_some fun k => by rw [if_pos c]
  · rw [if_neg c]
    have hle := szR_le bwt a (fun x hx => (w1 x hx).1) left (by omega)
    refine ev_call (laws_szPutS_fev b hb w2 _ (by omega) (by omega)) ?_ (fun k => if_neg c)
    refine ev_some fun k => ?_
    split <;> rfl
theorem szDiskR_tells (a : List ByteArray) (b : List S172) (left : Int) (h : 0 ≤ szDiskR a b left) : (a.length : Int) + sumW bwt a + (b.length : Int) + sumW wPut b ≤ left ∧ 0 ≤ sumW bwt a ∧ 0 ≤ sumW wPut b := by
  unfold szDiskR at h
  by_cases c : szR bwt a left < 0
  · rw [if_pos c] at h; omega
  · rw [if_neg c] at h
    have h1 := szR_tells bwt a (fun x _ => bwt_nonneg x) left (by omega)
    by_cases c2 : szR wPut b (szR bwt a left) < 0
    · rw [if_pos c2] at h; omega
    · rw [if_neg c2] at h
      have h2 := szR_tells wPut b (fun x _ => Int.natCast_nonneg _) _ (by omega : 0 ≤ szR wPut b (szR bwt a left))
      omega
theorem spec_l01In_eq (x a b : Int) : spec_l01In.f x a b = some (decide (a ≤ x ∧ x ≤ b)) := in_dec x a b
theorem spec_DiskOk_late (pages : List ByteArray) (late : List S115) (hp : pages.length ≤ 1048576) (hl : late.length ≤ 1048576) : ∀ (d i : Nat), i + d = late.length → Ev (fun k => spec_DiskOk.l1 k (i : Int) pages late) (!((late.drop i).any fun p => !decide (0 ≤ p.f0 ∧ p.f0 ≤ wrap64 ((pages.length : Int) - 1)) || decide ((p.f1.size : Int) > 240)) && (decide (4 ≤ (pages.length : Int) ∧ (pages.length : Int) ≤ 40) && decide ((late.length : Int) ≤ 200))) := by
  intro d
  induction d with
  | zero =>
    intro i hi
    refine ev_end fun k => ?_
    rw [spec_DiskOk.l1, if_neg (by omega), spec_l01In_eq, Option.bind_some, List.drop_eq_nil_of_le (by omega)]
    cases decide (4 ≤ (pages.length : Int) ∧ (pages.length : Int) ≤ 40) <;> rfl
  | succ d ih =>
    intro i hi
    have hd : late.drop i = rd_T115 late (i : Int) :: late.drop (i + 1) := drop_rdOf z115 late i (by omega)
    rw [hd, List.any_cons]
    by_cases c1 : 0 ≤ (rd_T115 late (i : Int)).f0 ∧ (rd_T115 late (i : Int)).f0 ≤ wrap64 ((pages.length : Int) - 1)
    · rw [decide_eq_true c1]
      by_cases c2 : ((rd_T115 late (i : Int)).f1.size : Int) > 240
      · rw [decide_eq_true c2]
        refine ev_end fun k => ?_
        rw [spec_DiskOk.l1, if_pos (by omega), if_pos (by omega), spec_l01In_eq, Option.bind_some, decide_eq_true c1, if_pos rfl, if_pos c2]
        rfl
      · rw [decide_eq_false c2]
        refine ev_go (ih (i + 1) (by omega)) fun k => ?_
        rw [spec_DiskOk.l1, if_pos (by omega), if_pos (by omega), spec_l01In_eq, Option.bind_some, decide_eq_true c1, if_pos rfl, if_neg c2, w64 (n := (i : Int) + 1) (by omega) (by omega)]
        rfl
    · rw [decide_eq_false c1]
      refine ev_end fun k => ?_
      rw [spec_DiskOk.l1, if_pos (by omega), if_pos (by omega), spec_l01In_eq, Option.bind_some, decide_eq_false c1, if_neg (by decide)]
      rfl
theorem spec_DiskOk_pages (pages : List ByteArray) (late : List S115) (hp : pages.length ≤ 1048576) (hl : late.length ≤ 1048576) : ∀ (d i : Nat), i + d = pages.length → Ev (fun k => spec_DiskOk.l0 k (i : Int) pages late) (!((pages.drop i).any fun s => decide ((s.size : Int) > 240)) && (!(late.any fun p => !decide (0 ≤ p.f0 ∧ p.f0 ≤ wrap64 ((pages.length : Int) - 1)) || decide ((p.f1.size : Int) > 240)) && (decide (4 ≤ (pages.length : Int) ∧ (pages.length : Int) ≤ 40) && decide ((late.length : Int) ≤ 200)))) := by
  intro d
  induction d with
  | zero =>
    intro i hi
    rw [List.drop_eq_nil_of_le (by omega)]
    refine ev_go (spec_DiskOk_late pages late hp hl late.length 0 (by omega)) fun k => ?_
    rw [spec_DiskOk.l0, if_neg (by omega)]
    rfl
  | succ d ih =>
    intro i hi
    rw [drop_rdOf ByteArray.empty pages i (by omega), List.any_cons]
    by_cases c : ((rdOf ByteArray.empty pages (i : Int)).size : Int) > 240
    · rw [decide_eq_true c]
      refine ev_end fun k => ?_
      rw [spec_DiskOk.l0, if_pos (by omega), if_pos (by omega), if_pos c]
      rfl
    · rw [decide_eq_false c, Bool.false_or]
      refine ev_go (ih (i + 1) (by omega)) fun k => ?_
      rw [spec_DiskOk.l0, if_pos (by omega), if_pos (by omega), if_neg c, w64 (by omega) (by omega)]
      rfl
theorem spec_DiskOk_fev (pages : List ByteArray) (late : List S115) (hp : pages.length ≤ 1048576) (hl : late.length ≤ 1048576) : Ev (fun k => spec_DiskOk.f k pages late) (dokR pages late) := by
  have h := spec_DiskOk_pages pages late hp hl pages.length 0 (by omega)
  rw [List.drop_zero] at h
  unfold dokR
  generalize (pages.any fun s => decide ((s.size : Int) > 240)) = a at h ⊢
  generalize (late.any fun p => !decide (0 ≤ p.f0 ∧ p.f0 ≤ wrap64 ((pages.length : Int) - 1)) || decide ((p.f1.size : Int) > 240)) = b at h ⊢
  generalize decide (4 ≤ (pages.length : Int) ∧ (pages.length : Int) ≤ 40) = c at h ⊢
  generalize decide ((late.length : Int) ≤ 200) = e at h ⊢
  have : (!a && (!b && (c && e))) = (c && e && !a && !b) := by cases a <;> cases b <;> cases c <;> cases e <;> rfl
  rw [← this]
  exact h
theorem spec_l03Copy_eq (P : List ByteArray) (L : List S115) (hp : P.length ≤ 1048577) (hl : L.length ≤ 1048577) : spec_l03Copy.f P L = some (P, L) := by
  unfold spec_l03Copy.f
  rw [Option.bind_some, if_pos (by simp only [List.length_nil]; omega), Option.bind_some, if_pos (by simp only [List.length_nil]; omega)]
  rfl
theorem half_size' (n : Nat) (h : n ≤ 240) : wrap64 ((n : Int) / 2) = ((n / 2 : Nat) : Int) := by rw [w64 (by omega) (by omega)]; omega
theorem spec_FallDisk_loop (left : List Bool) (torn : Int) (P0 : List ByteArray) (L : List S115) (hok : dokR P0 L = true) (hl : left.length ≤ 1048576) : ∀ (d i : Nat) (P : List ByteArray), i + d = L.length → P.length = P0.length → Ev (fun k => spec_FallDisk.l0 k left torn (i : Int) P0 L P) (fallL left torn i P (L.drop i), []) := by
  obtain ⟨h1, h2, h3, h4, h5⟩ := dokR_tells P0 L hok
  intro d
  induction d with
  | zero =>
    intro i P hi _
    refine ev_end fun k => ?_
    rw [spec_FallDisk.l0, if_neg (by omega), List.drop_eq_nil_of_le (by omega)]
    rfl
  | succ d ih =>
    intro i P hi hP
    have hd : L.drop i = rd_T115 L (i : Int) :: L.drop (i + 1) := drop_rdOf z115 L i (by omega)
    have hx : 0 ≤ (rd_T115 L (i : Int)).f0 ∧ (rd_T115 L (i : Int)).f0 < (P0.length : Int) ∧ (rd_T115 L (i : Int)).f1.size ≤ 240 := h5 _ (rdOf_mem z115 L i (by omega))
    have hs := half_size' _ hx.2.2
    rw [hd]
    unfold fallL
    refine ev_go (f := fun k => spec_FallDisk.j1 k left torn (i : Int) (!(rdOf false left (i : Int))) P0 L P) ?_ fun k => ?_
    · cases hq : rdOf false left (i : Int) with
      | false =>
        rw [if_neg (by decide)]
        refine ev_go (ih (i + 1) P (by omega) hP) fun k => ?_
        rw [spec_FallDisk.j1, if_pos (by decide), w64 (by omega) (by omega)]
        rfl
      | true =>
        rw [if_pos rfl]
        refine ev_go (ih (i + 1) _ (by omega) (by rw [List.length_set]; exact hP)) fun k => ?_
        rw [spec_FallDisk.j1, if_neg (by decide), w64 (n := (i : Int) + 1) (by omega) (by omega), if_pos (by omega), if_pos (by omega)]
        by_cases c : (i : Int) = torn
        · rw [if_pos c, if_pos c, hs, if_pos (by omega), if_pos (by omega), if_pos hx.1, if_pos (by omega), Int.toNat_natCast]
          rfl
        · rw [if_neg c, if_neg c, if_pos hx.1, if_pos (by omega)]
          rfl
    · rw [spec_FallDisk.l0, if_pos (by omega)]
      by_cases c : (i : Int) ≥ (left.length : Int)
      · have e : rdOf false left (i : Int) = false := by unfold rdOf; rw [Int.toNat_natCast]; simp [List.getD, Nat.not_lt.2 (show left.length ≤ i by omega)]
        rw [if_pos c, e]
        rfl
      · rw [if_neg c, if_pos (by omega), if_pos (by omega)]
theorem spec_FallDisk_fev (P : List ByteArray) (L : List S115) (left : List Bool) (torn : Int) (hp : P.length ≤ 1048576) (hl : L.length ≤ 1048576) (hf : left.length ≤ 1048576) : Ev (fun k => spec_FallDisk.f k P L left torn) (fallR P L left torn) := by
  unfold fallR
  obtain ⟨K1, e1⟩ := spec_DiskOk_fev P L hp hl
  by_cases c : dokR P L = true
  · rw [if_pos c]
    obtain ⟨K2, e2⟩ := spec_FallDisk_loop left torn P L c hf L.length 0 P (by omega) rfl
    rw [List.drop_zero] at e2
    refine ⟨K1 + K2, fun k hk => ?_⟩
    dsimp only at e1 e2 ⊢
    unfold spec_FallDisk.f
    rw [e1 k (by omega), Option.bind_some, if_pos c, Option.bind_some, if_pos (by simp only [List.length_nil]; omega)]
    exact e2 k (by omega)
  · rw [if_neg c]
    refine ⟨K1, fun k hk => ?_⟩
    dsimp only at e1 ⊢
    unfold spec_FallDisk.f
    rw [e1 k hk, Option.bind_some, if_neg c, spec_l03Copy_eq P L (by omega) (by omega), Option.bind_some]
theorem laws_toStringS_loop (l : List ByteArray) (hb : l.length ≤ 1048576) : ∀ (d i : Nat) (pre rest : List ByteArray), i + d = l.length → pre.length = i → rest.length = d → Ev (fun k => laws_toStringS.l0 k l (pre ++ rest) (i : Int)) (pre ++ (l.drop i).map (fun x => x)) := by
  intro d
  induction d with
  | zero =>
    intro i pre rest hi hp hr
    refine ev_end fun k => ?_
    rw [laws_toStringS.l0, if_neg (by omega), List.drop_eq_nil_of_le (by omega), List.eq_nil_of_length_eq_zero hr]
    rfl
  | succ d ih =>
    intro i pre rest hi hp hr
    obtain ⟨x, t, rfl⟩ : ∃ x t, rest = x :: t := by
      cases rest with
      | nil => simp at hr
      | cons x t => exact ⟨x, t, rfl⟩
    rw [drop_rdOf ByteArray.empty l i (by omega), List.map_cons]
    have hn := ih (i + 1) (pre ++ [(fun x => x) (rdOf ByteArray.empty l (i : Int))]) t (by omega) (by simp; omega) (by simp at hr; omega)
    rw [List.append_assoc, List.singleton_append, List.append_assoc, List.singleton_append] at hn
    refine ev_go hn fun k => ?_
    rw [laws_toStringS.l0, if_pos (by omega), if_pos (by omega), if_pos (by rw [List.length_append, List.length_cons]; rw [List.length_cons] at hr; omega), Int.toNat_natCast, set_mid pre t x _ i hp, w64 (by omega) (by omega)]
    rfl
theorem laws_toStringS_fev (l : List ByteArray) (hb : l.length ≤ 1048576) : Ev (fun k => laws_toStringS.f k l) (l.map (fun x => x)) := by
  have := laws_toStringS_loop l hb l.length 0 [] (List.replicate l.length (⟨#[]⟩ : ByteArray)) (by omega) rfl (by simp)
  refine Ev.congr (fun k => ?_) this
  unfold laws_toStringS.f
  rw [if_pos (by omega), if_pos (by omega)]
  rfl
theorem laws_toPut_eq (a : Int) (b : ByteArray) : laws_toPut.f a b = some (a, b) := rfl
def convPut (x : S172) : S115 := ⟨x.f0, x.f1⟩
theorem laws_toPutS_loop (l : List S172) (hb : l.length ≤ 1048576) : ∀ (d i : Nat) (pre rest : List S115), i + d = l.length → pre.length = i → rest.length = d → Ev (fun k => laws_toPutS.l0 k l (pre ++ rest) (i : Int)) (pre ++ (l.drop i).map convPut) := by
  intro d
  induction d with
  | zero =>
    intro i pre rest hi hp hr
    refine ev_end fun k => ?_
    rw [laws_toPutS.l0, if_neg (by omega), List.drop_eq_nil_of_le (by omega), List.eq_nil_of_length_eq_zero hr]
    rfl
  | succ d ih =>
    intro i pre rest hi hp hr
    obtain ⟨x, t, rfl⟩ : ∃ x t, rest = x :: t := by
      cases rest with
      | nil => simp at hr
      | cons x t => exact ⟨x, t, rfl⟩
    rw [drop_rdOf z172 l i (by omega), List.map_cons]
    have hn := ih (i + 1) (pre ++ [convPut (rdOf z172 l (i : Int))]) t (by omega) (by simp; omega) (by simp at hr; omega)
    rw [List.append_assoc, List.singleton_append, List.append_assoc, List.singleton_append] at hn
    refine ev_go hn fun k => ?_
    rw [laws_toPutS.l0, if_pos (by omega), if_pos (by omega), laws_toPut_eq, Option.bind_some, if_pos (by rw [List.length_append, List.length_cons]; rw [List.length_cons] at hr; omega), Int.toNat_natCast, set_mid pre t x _ i hp, w64 (by omega) (by omega)]
    rfl
theorem laws_toPutS_fev (l : List S172) (hb : l.length ≤ 1048576) : Ev (fun k => laws_toPutS.f k l) (l.map convPut) := by
  have := laws_toPutS_loop l hb l.length 0 [] (List.replicate l.length z115) (by omega) rfl (by simp)
  refine Ev.congr (fun k => ?_) this
  unfold laws_toPutS.f
  rw [if_pos (by omega), if_pos (by omega)]
  rfl
theorem laws_toDisk_fev (a : List ByteArray) (b : List S172) (ha : a.length ≤ 1048576) (hb : b.length ≤ 1048576) : Ev (fun k => laws_toDisk.f k a b) (a, b.map convPut) := by
  have h := laws_toStringS_fev a ha
  rw [List.map_id'] at h
  exact ev_call h (ev_call (laws_toPutS_fev b hb) (c := fun _ t => some (a, t)) (Ev.now _) (fun _ => rfl)) (fun _ => rfl)
theorem laws_toBoolS_loop (l : List Bool) (hb : l.length ≤ 1048576) : ∀ (d i : Nat) (pre rest : List Bool), i + d = l.length → pre.length = i → rest.length = d → Ev (fun k => laws_toBoolS.l0 k l (pre ++ rest) (i : Int)) (pre ++ (l.drop i).map (fun x => x)) := by
  intro d
  induction d with
  | zero =>
    intro i pre rest hi hp hr
    refine ev_end fun k => ?_
    rw [laws_toBoolS.l0, if_neg (by omega), List.drop_eq_nil_of_le (by omega), List.eq_nil_of_length_eq_zero hr]
    rfl
  | succ d ih =>
    intro i pre rest hi hp hr
    obtain ⟨x, t, rfl⟩ : ∃ x t, rest = x :: t := by
      cases rest with
      | nil => simp at hr
      | cons x t => exact ⟨x, t, rfl⟩
    rw [drop_rdOf false l i (by omega), List.map_cons]
    have hn := ih (i + 1) (pre ++ [(fun x => x) (rdOf false l (i : Int))]) t (by omega) (by simp; omega) (by simp at hr; omega)
    rw [List.append_assoc, List.singleton_append, List.append_assoc, List.singleton_append] at hn
    refine ev_go hn fun k => ?_
    rw [laws_toBoolS.l0, if_pos (by omega), if_pos (by omega), if_pos (by rw [List.length_append, List.length_cons]; rw [List.length_cons] at hr; omega), Int.toNat_natCast, set_mid pre t x _ i hp, w64 (by omega) (by omega)]
    rfl
theorem laws_toBoolS_fev (l : List Bool) (hb : l.length ≤ 1048576) : Ev (fun k => laws_toBoolS.f k l) (l.map (fun x => x)) := by
  have := laws_toBoolS_loop l hb l.length 0 [] (List.replicate l.length false) (by omega) rfl (by simp)
  refine Ev.congr (fun k => ?_) this
  unfold laws_toBoolS.f
  rw [if_pos (by omega), if_pos (by omega)]
  rfl
theorem slices_Clone_string_string_eq (l : List ByteArray) (h : l.length ≤ 1048577) : slices_Clone_string_string.f l = some l := by unfold slices_Clone_string_string.f; rw [if_pos (by omega)]
theorem impl_Put_eq (l : List S115) (h : l.length ≤ 1048577) : impl_Put.f l = some l := by unfold impl_Put.f; rw [if_pos (by omega)]
theorem impl_cloneDisk_eq (P : List ByteArray) (L : List S115) (hp : P.length ≤ 1048577) (hl : L.length ≤ 1048577) : impl_cloneDisk.f P L = some (P, L) := by
  unfold impl_cloneDisk.f
  rw [slices_Clone_string_string_eq P hp, Option.bind_some, impl_Put_eq L hl, Option.bind_some]
theorem impl_in_eq (x a b : Int) : impl_in.f x a b = some (decide (a ≤ x ∧ x ≤ b)) := in_dec x a b
theorem impl_isPage_eq (P : List ByteArray) (L : List S115) (page : Int) (hp : P.length ≤ 1048577) : impl_isPage.f P L page = some (decide (0 ≤ page ∧ page < (P.length : Int))) := by
  unfold impl_isPage.f
  rw [impl_in_eq, Option.bind_some, w64 (by omega) (by omega)]
  congr 1
  apply decide_eq_decide.2
  omega
theorem impl_DiskOk_eq (pages : List ByteArray) (late : List S115) : impl_DiskOk.f pages late = some (dokR pages late) := rfl
theorem half_size (n : Nat) (h : n ≤ 240) : wrap64 ((n : Int) / 2) = ((n / 2 : Nat) : Int) := by rw [w64 (by omega) (by omega)]; omega
theorem impl_FallDisk_loop (left : List Bool) (torn : Int) (P0 : List ByteArray) (L : List S115) (hok : dokR P0 L = true) (hl : left.length ≤ 1048576) : ∀ (d i : Nat) (P : List ByteArray), i + d = L.length → P.length = P0.length → Ev (fun k => impl_FallDisk.l0 k left torn L (L.length : Int) (i : Int) P L) (fallL left torn i P (L.drop i), []) := by
  obtain ⟨h1, h2, h3, h4, h5⟩ := dokR_tells P0 L hok
  intro d
  induction d with
  | zero =>
    intro i P hi _
    refine ev_end fun k => ?_
    rw [impl_FallDisk.l0, if_neg (by omega), List.drop_eq_nil_of_le (by omega)]
    rfl
  | succ d ih =>
    intro i P hi hP
    have hd : L.drop i = rd_T115 L (i : Int) :: L.drop (i + 1) := drop_rdOf z115 L i (by omega)
    have hx : 0 ≤ (rd_T115 L (i : Int)).f0 ∧ (rd_T115 L (i : Int)).f0 < (P0.length : Int) ∧ (rd_T115 L (i : Int)).f1.size ≤ 240 := h5 _ (rdOf_mem z115 L i (by omega))
    have hs := half_size _ hx.2.2
    rw [hd]
    unfold fallL
    refine ev_go (f := fun k => impl_FallDisk.j1 k left torn (i : Int) L (L.length : Int) (i : Int) (!(rdOf false left (i : Int))) P L (rd_T115 L (i : Int)).f0 (rd_T115 L (i : Int)).f1) ?_ fun k => ?_
    · cases hq : rdOf false left (i : Int) with
      | false =>
        rw [if_neg (by decide)]
        refine ev_go (ih (i + 1) P (by omega) hP) fun k => ?_
        rw [impl_FallDisk.j1, if_pos (by decide), w64 (by omega) (by omega)]
        rfl
      | true =>
        rw [if_pos rfl]
        refine ev_go (ih (i + 1) _ (by omega) (by rw [List.length_set]; exact hP)) fun k => ?_
        rw [impl_FallDisk.j1, if_neg (by decide), w64 (n := (i : Int) + 1) (by omega) (by omega)]
        by_cases c : (i : Int) = torn
        · rw [if_pos c, if_pos c, hs, if_pos (by omega), if_pos (by omega), if_pos hx.1, if_pos (by omega), Int.toNat_natCast]
          rfl
        · rw [if_neg c, if_neg c, if_pos hx.1, if_pos (by omega)]
          rfl
    · rw [impl_FallDisk.l0, if_pos (by omega), if_pos (by omega), if_pos (by omega)]
      by_cases c : (i : Int) ≥ (left.length : Int)
      · have e : rdOf false left (i : Int) = false := by unfold rdOf; rw [Int.toNat_natCast]; simp [List.getD, Nat.not_lt.2 (show left.length ≤ i by omega)]
        rw [if_pos c, e]
        rfl
      · rw [if_neg c, if_pos (by omega)]
theorem impl_FallDisk_fev (P : List ByteArray) (L : List S115) (left : List Bool) (torn : Int) (hp : P.length ≤ 1048576) (hl : L.length ≤ 1048576) (hf : left.length ≤ 1048576) : Ev (fun k => impl_FallDisk.f k P L left torn) (fallR P L left torn) := by
  unfold fallR
  by_cases c : dokR P L = true
  · rw [if_pos c]
    have h := impl_FallDisk_loop left torn P L c hf L.length 0 P (by omega) rfl
    rw [List.drop_zero] at h
    refine Ev.congr (fun k => ?_) h
    unfold impl_FallDisk.f
    rw [impl_cloneDisk_eq P L (by omega) (by omega), Option.bind_some, impl_DiskOk_eq, Option.bind_some, if_pos c]
    rfl
  · rw [if_neg c]
    refine ev_some fun k => ?_
    unfold impl_FallDisk.f
    rw [impl_cloneDisk_eq P L (by omega) (by omega), Option.bind_some, impl_DiskOk_eq, Option.bind_some, if_neg c]
theorem laws_eqStringS_loop (a : List ByteArray) (hb : a.length ≤ 9223372036854775807) : ∀ (d i : Nat), i + d = a.length → Ev (fun k => laws_eqStringS.l0 k a a (i : Int)) true := by
  intro d
  induction d with
  | zero =>
    intro i hi
    refine ev_end fun k => ?_
    rw [laws_eqStringS.l0, if_neg (by omega)]
  | succ d ih =>
    intro i hi
    refine ev_go (ih (i + 1) (by omega)) fun k => ?_
    rw [laws_eqStringS.l0, if_pos (by omega), if_pos (by omega), if_pos (by omega), if_pos rfl, w64 (by omega) (by omega)]
    rfl
theorem laws_eqStringS_same (a : List ByteArray) (hb : a.length ≤ 9223372036854775807) : Ev (fun k => laws_eqStringS.f k a a) true := by
  refine Ev.congr (fun k => ?_) (laws_eqStringS_loop a hb a.length 0 (by omega))
  unfold laws_eqStringS.f
  rw [if_pos rfl]
  rfl
theorem laws_eqPut_same (a : Int) (b : ByteArray) : laws_eqPut.f a b a b = some true := by
  unfold laws_eqPut.f
  rw [if_pos rfl, if_pos rfl]
theorem laws_eqPutS_loop (a : List S115) (hb : a.length ≤ 9223372036854775807) : ∀ (d i : Nat), i + d = a.length → Ev (fun k => laws_eqPutS.l0 k a a (i : Int)) true := by
  intro d
  induction d with
  | zero =>
    intro i hi
    refine ev_end fun k => ?_
    rw [laws_eqPutS.l0, if_neg (by omega)]
  | succ d ih =>
    intro i hi
    refine ev_go (ih (i + 1) (by omega)) fun k => ?_
    rw [laws_eqPutS.l0, if_pos (by omega), if_pos (by omega), if_pos (by omega), laws_eqPut_same, Option.bind_some, if_pos rfl, w64 (by omega) (by omega)]
    rfl
theorem laws_eqPutS_same (a : List S115) (hb : a.length ≤ 9223372036854775807) : Ev (fun k => laws_eqPutS.f k a a) true := by
  refine Ev.congr (fun k => ?_) (laws_eqPutS_loop a hb a.length 0 (by omega))
  unfold laws_eqPutS.f
  rw [if_pos rfl]
  rfl
theorem laws_eqDisk_same (a : List ByteArray) (b : List S115) (ha : a.length ≤ 9223372036854775807) (hb : b.length ≤ 9223372036854775807) : Ev (fun k => laws_eqDisk.f k a b a b) true :=
  ev_call (laws_eqStringS_same a ha) (ev_call (laws_eqPutS_same b hb) (ev_some fun _ => by rw [if_pos rfl]) (fun _ => if_pos rfl)) (fun _ => rfl)
theorem laws_eqBoolS_loop (a : List Bool) (hb : a.length ≤ 9223372036854775807) : ∀ (d i : Nat), i + d = a.length → Ev (fun k => laws_eqBoolS.l0 k a a (i : Int)) true := by
  intro d
  induction d with
  | zero =>
    intro i hi
    refine ev_end fun k => ?_
    rw [laws_eqBoolS.l0, if_neg (by omega)]
  | succ d ih =>
    intro i hi
    refine ev_go (ih (i + 1) (by omega)) fun k => ?_
    rw [laws_eqBoolS.l0, if_pos (by omega), if_pos (by omega), if_pos (by omega), bne_self_eq_false, if_neg (by decide), w64 (by omega) (by omega)]
    rfl
theorem laws_eqBoolS_same (a : List Bool) (hb : a.length ≤ 9223372036854775807) : Ev (fun k => laws_eqBoolS.f k a a) true := by
  refine Ev.congr (fun k => ?_) (laws_eqBoolS_loop a hb a.length 0 (by omega))
  unfold laws_eqBoolS.f
  rw [if_pos rfl]
  rfl
theorem laws_markText_loop : ∀ (n : Nat) (acc : ByteArray), acc.size + n ≤ 4611686018427387904 → Ev (fun k => laws_markText.l0 k (n : Int) acc) (mtB n acc) := by
  intro n
  induction n using Nat.strongRecOn with
  | ind n ih =>
    intro acc h
    by_cases c : n = 0
    · subst c
      rw [mtB_zero]
      refine ev_end fun k => ?_
      rw [laws_markText.l0, if_neg (by omega), if_pos (by omega)]
    · rw [mtB_pos c]
      have hsz : (strOfNums [(48 + (n : Int) % 10) % 256]).size = 1 := by rw [strOfNums_size]; rfl
      refine ev_go (ih (n / 10) (by omega) (strOfNums [(48 + (n : Int) % 10) % 256] ++ acc) (by rw [ByteArray.size_append]; omega)) fun k => ?_
      have e1 : wrap64 (Int.tdiv (n : Int) 10) = ((n / 10 : Nat) : Int) := by rw [Int.tdiv_eq_ediv_of_nonneg (by omega), w64 (by omega) (by omega)]; omega
      have e2 : wrap64 (48 + Int.tmod (n : Int) 10) = 48 + (n : Int) % 10 := by rw [Int.tmod_eq_emod_of_nonneg (by omega), w64 (by omega) (by omega)]
      rw [laws_markText.l0, if_pos (by omega), Option.bind_some, e1, e2, if_pos (by rw [hsz]; omega)]
theorem laws_markText_fev (k : Int) (h : k ≤ 4611686018427387904) : Ev (fun f => laws_markText.f f k) (mtR k) := by
  unfold mtR
  by_cases c : k ≤ 0
  · rw [if_pos c]
    exact ev_some fun f => by unfold laws_markText.f; rw [if_pos c]
  · rw [if_neg c]
    have := laws_markText_loop k.toNat ⟨#[]⟩ (by have : (⟨#[]⟩ : ByteArray).size = 0 := rfl; omega)
    rw [Int.toNat_of_nonneg (by omega)] at this
    refine Ev.congr (fun f => ?_) this
    unfold laws_markText.f
    rw [if_neg c]
theorem laws_markStringS_loop : ∀ (d i : Nat) (pre rest : List ByteArray) (k : Int), pre.length = i → rest.length = d → i + d ≤ 1048576 → 0 ≤ k → k + d ≤ 4611686018427387904 → Ev (fun f => laws_markStringS.l0 f (pre ++ rest) k (i : Int)) (k + d, pre ++ marksS k d) := by
  intro d
  induction d with
  | zero =>
    intro i pre rest k hp hr hl h0 h1
    refine ev_end fun f => ?_
    rw [List.eq_nil_of_length_eq_zero hr, laws_markStringS.l0, if_neg (by rw [List.append_nil]; omega)]
    simp [marksS]
  | succ d ih =>
    intro i pre rest k hp hr hl h0 h1
    obtain ⟨x, t, rfl⟩ : ∃ x t, rest = x :: t := by
      cases rest with
      | nil => simp at hr
      | cons x t => exact ⟨x, t, rfl⟩
    have hn := ih (i + 1) (pre ++ [mtR k]) t (k + 1) (by simp; omega) (by simp at hr; omega) (by omega) (by omega) (by omega)
    rw [List.append_assoc, List.singleton_append, List.append_assoc, List.singleton_append, show k + 1 + (d : Int) = k + ((d + 1 : Nat) : Int) by omega] at hn
    refine ev_go_call (laws_markText_fev k (by omega)) (c := fun f t125 => (if (0 : Int) ≤ (i : Int) then (laws_markStringS.l0 f ((pre ++ x :: t).set ((i : Int)).toNat t125) (wrap64 (k + 1)) (wrap64 ((i : Int) + 1))) else (none))) ?_ (fun f => ?_)
    · refine Ev.congr (fun f => ?_) hn
      rw [if_pos (by omega), Int.toNat_natCast, set_mid pre t x _ i hp, w64 (by omega) (by omega), w64 (by omega) (by omega)]
      rfl
    · rw [laws_markStringS.l0, if_pos (by rw [List.length_append, List.length_cons]; omega)]
theorem laws_markStringS_fev (l : List ByteArray) (k : Int) (hl : l.length ≤ 1048576) (h0 : 0 ≤ k) (h1 : k ≤ 1099511627776) : Ev (fun f => laws_markStringS.f f l k) (k + l.length, marksS k l.length) :=
  laws_markStringS_loop l.length 0 [] l k rfl rfl (by omega) h0 (by omega)
theorem laws_markPutS_loop : ∀ (d i : Nat) (pre rest : List S115) (k : Int), pre.length = i → rest.length = d → i + d ≤ 1048576 → 0 ≤ k → k + 2 * d ≤ 4611686018427387904 → Ev (fun f => laws_markPutS.l0 f (pre ++ rest) k (i : Int)) (k + 2 * d, pre ++ marksPut k d) := by
  intro d
  induction d with
  | zero =>
    intro i pre rest k hp hr hl h0 h1
    refine ev_end fun f => ?_
    rw [List.eq_nil_of_length_eq_zero hr, laws_markPutS.l0, if_neg (by rw [List.append_nil]; omega)]
    simp [marksPut]
  | succ d ih =>
    intro i pre rest k hp hr hl h0 h1
    obtain ⟨x, t, rfl⟩ : ∃ x t, rest = x :: t := by
      cases rest with
      | nil => simp at hr
      | cons x t => exact ⟨x, t, rfl⟩
    have hn := ih (i + 1) (pre ++ [⟨k, mtR (k + 1)⟩]) t (k + 2) (by simp; omega) (by simp at hr; omega) (by omega) (by omega) (by omega)
    rw [List.append_assoc, List.singleton_append, List.append_assoc, List.singleton_append, show k + 2 + 2 * (d : Int) = k + 2 * ((d + 1 : Nat) : Int) by omega] at hn
    obtain ⟨K1, e1⟩ := laws_markText_fev (k + 1) (by omega)
    obtain ⟨K2, e2⟩ := hn
    dsimp only at e1 e2
    refine ev_succ ⟨K1 + K2, fun f hf => ?_⟩
    rw [laws_markPutS.l0, if_pos (by rw [List.length_append, List.length_cons]; omega), if_pos (by omega), Option.bind_some, w64 (n := k + 1) (by omega) (by omega), e1 f (by omega), Option.bind_some, Int.toNat_natCast, set_mid pre t x _ i hp, set_mid pre t _ _ i hp, w64 (n := k + 1 + 1) (by omega) (by omega), w64 (n := (i : Int) + 1) (by omega) (by omega)]
    have e3 : (rd_T115 (pre ++ (⟨k, (rd_T115 (pre ++ x :: t) (i : Int)).f1⟩ : S115) :: t) (i : Int)).f0 = k := congrArg S115.f0 (rdOf_mid z115 pre t _ i hp)
    rw [e3, show k + 1 + 1 = k + 2 by omega]
    exact e2 f (by omega)
theorem laws_markPutS_fev (l : List S115) (k : Int) (hl : l.length ≤ 1048576) (h0 : 0 ≤ k) (h1 : k ≤ 1099511627776) : Ev (fun f => laws_markPutS.f f l k) (k + 2 * l.length, marksPut k l.length) :=
  laws_markPutS_loop l.length 0 [] l k rfl rfl (by omega) h0 (by omega)
theorem laws_markDisk_fev (a : List ByteArray) (b : List S115) (k : Int) (ha : a.length ≤ 1048576) (hb : b.length ≤ 1048576) (h0 : 0 ≤ k) (h1 : k ≤ 1073741824) : Ev (fun f => laws_markDisk.f f a b k) (k + a.length + 2 * b.length, marksS k a.length, marksPut (k + a.length) b.length) := by
  obtain ⟨K1, e1⟩ := laws_markStringS_fev a k ha h0 (by omega)
  obtain ⟨K2, e2⟩ := laws_markPutS_fev b (k + a.length) hb (by omega) (by omega)
  dsimp only at e1 e2
  refine ⟨K1 + K2, fun f hf => ?_⟩
  dsimp only
  unfold laws_markDisk.f
  rw [e1 f (by omega), Option.bind_some, e2 f (by omega), Option.bind_some]
theorem laws_markBoolS_loop : ∀ (d i : Nat) (l : List Bool) (k : Int), i + d = l.length → l.length ≤ 1048576 → 0 ≤ k → k + d ≤ 4611686018427387904 → ∃ l', Ev (fun f => laws_markBoolS.l0 f l k (i : Int)) (k + d, l') := by
  intro d
  induction d with
  | zero =>
    intro i l k hi _ _ _
    refine ⟨l, ev_end fun f => ?_⟩
    rw [laws_markBoolS.l0, if_neg (by omega)]
    simp
  | succ d ih =>
    intro i l k hi hl h0 h1
    obtain ⟨l', h⟩ := ih (i + 1) (l.set i ((Int.tmod k 3) == 0)) (k + 1) (by rw [List.length_set]; omega) (by rw [List.length_set]; exact hl) (by omega) (by omega)
    refine ⟨l', ?_⟩
    rw [show k + 1 + (d : Int) = k + ((d + 1 : Nat) : Int) by omega] at h
    refine ev_go h fun f => ?_
    rw [laws_markBoolS.l0, if_pos (by omega), if_pos (by omega), Int.toNat_natCast, w64 (n := k + 1) (by omega) (by omega), w64 (n := (i : Int) + 1) (by omega) (by omega)]
    rfl
theorem laws_markBoolS_fev (l : List Bool) (k : Int) (hl : l.length ≤ 1048576) (h0 : 0 ≤ k) (h1 : k ≤ 1099511627776) : ∃ l', Ev (fun f => laws_markBoolS.f f l k) (k + l.length, l') :=
  laws_markBoolS_loop l.length 0 l k (by omega) hl h0 (by omega)
theorem laws_heldStringS_loop (l : List ByteArray) (hl : l.length ≤ 1048576) : ∀ (d i : Nat) (k : Int), i + d = l.length → l.drop i = marksS k d → 0 ≤ k → k + d ≤ 4611686018427387904 → Ev (fun f => laws_heldStringS.l0 f l k (i : Int)) (k + d) := by
  intro d
  induction d with
  | zero =>
    intro i k hi hd h0 h1
    refine ev_end fun f => ?_
    rw [laws_heldStringS.l0, if_neg (by omega)]
    simp
  | succ d ih =>
    intro i k hi hd h0 h1
    rw [drop_rdOf ByteArray.empty l i (by omega)] at hd
    unfold marksS at hd
    obtain ⟨hx, ht⟩ := List.cons.inj hd
    have hn := ih (i + 1) (k + 1) (by omega) ht (by omega) (by omega)
    rw [show k + 1 + (d : Int) = k + ((d + 1 : Nat) : Int) by omega] at hn
    refine ev_go_call (laws_markText_fev k (by omega)) (c := fun f t136 => (if (rdOf ByteArray.empty l (i : Int)).toList = t136.toList then (laws_heldStringS.l0 f l (wrap64 (k + 1)) (wrap64 ((i : Int) + 1))) else (some (-1)))) ?_ (fun f => ?_)
    · refine Ev.congr (fun f => ?_) hn
      rw [if_pos (by rw [hx]), w64 (by omega) (by omega), w64 (by omega) (by omega)]
      rfl
    · rw [laws_heldStringS.l0, if_pos (by omega), if_pos (by omega)]
theorem laws_heldStringS_fev (n : Nat) (k : Int) (hn : n ≤ 1048576) (h0 : 0 ≤ k) (h1 : k ≤ 1099511627776) : Ev (fun f => laws_heldStringS.f f (marksS k n) k) (k + n) :=
  laws_heldStringS_loop (marksS k n) (by rw [marksS_length]; exact hn) n 0 k (by rw [marksS_length]; omega) rfl h0 (by omega)
theorem laws_heldPutS_loop (l : List S115) (hl : l.length ≤ 1048576) : ∀ (d i : Nat) (k : Int), i + d = l.length → l.drop i = marksPut k d → 0 ≤ k → k + 2 * d ≤ 4611686018427387904 → Ev (fun f => laws_heldPutS.l0 f l k (i : Int)) (k + 2 * d) := by
  intro d
  induction d with
  | zero =>
    intro i k hi hd h0 h1
    refine ev_end fun f => ?_
    rw [laws_heldPutS.l0, if_neg (by omega)]
    simp
  | succ d ih =>
    intro i k hi hd h0 h1
    rw [drop_rdOf z115 l i (by omega)] at hd
    unfold marksPut at hd
    obtain ⟨hx, ht⟩ := List.cons.inj hd
    change rd_T115 l (i : Int) = _ at hx
    have hn := ih (i + 1) (k + 2) (by omega) ht (by omega) (by omega)
    rw [show k + 2 + 2 * (d : Int) = k + 2 * ((d + 1 : Nat) : Int) by omega] at hn
    obtain ⟨K1, e1⟩ := laws_markText_fev (k + 1) (by omega)
    obtain ⟨K2, e2⟩ := hn
    dsimp only at e1 e2
    refine ev_succ ⟨K1 + K2, fun f hf => ?_⟩
    rw [laws_heldPutS.l0, if_pos (by omega), if_pos (by omega), hx, if_pos rfl, w64 (n := k + 1) (by omega) (by omega), e1 f (by omega), Option.bind_some, if_pos rfl, w64 (n := k + 1 + 1) (by omega) (by omega), w64 (n := (i : Int) + 1) (by omega) (by omega), show k + 1 + 1 = k + 2 by omega]
    exact e2 f (by omega)
theorem laws_heldPutS_fev (n : Nat) (k : Int) (hn : n ≤ 1048576) (h0 : 0 ≤ k) (h1 : k ≤ 1099511627776) : Ev (fun f => laws_heldPutS.f f (marksPut k n) k) (k + 2 * n) :=
  laws_heldPutS_loop (marksPut k n) (by rw [marksPut_length]; exact hn) n 0 k (by rw [marksPut_length]; omega) rfl h0 (by omega)
theorem laws_heldDisk_fev (m n : Nat) (k : Int) (hm : m ≤ 1048576) (hn : n ≤ 1048576) (h0 : 0 ≤ k) (h1 : k ≤ 1073741824) : Ev (fun f => laws_heldDisk.f f (marksS k m) (marksPut (k + m) n) k) (k + m + 2 * n) := by
  obtain ⟨K1, e1⟩ := laws_heldStringS_fev m k hm h0 (by omega)
  obtain ⟨K2, e2⟩ := laws_heldPutS_fev n (k + m) hn (by omega) (by omega)
  dsimp only at e1 e2
  refine ⟨K1 + K2, fun f hf => ?_⟩
  dsimp only
  unfold laws_heldDisk.f
  rw [e1 f (by omega), Option.bind_some, if_neg (by omega), e2 f (by omega), Option.bind_some, if_neg (by omega)]
end Go.Proofs.Ytkobbccjjglfmaa.VFnExactFallDisk
namespace Go.Proofs.Ytkobbccjjglfmaa.Pure
open Go.Proofs.Ytkobbccjjglfmaa.VFnExactFallDisk
set_option linter.unusedVariables false
set_option linter.unusedSimpArgs false
open Go Go.RowKit Go.Proofs.YtkobbccjjglfmaaW.PrintWords Go.Proofs.YtkobbccjjglfmaaW.PrintLast Go.Proofs.YtkobbccjjglfmaaW.PrintMore
theorem fallR_lengths (P : List ByteArray) (L : List S115) (left : List Bool) (torn : Int) : (fallR P L left torn).1.length = P.length ∧ (fallR P L left torn).2.length ≤ L.length := by
  unfold fallR
  split
  · exact ⟨fallL_length _ _ _ _ _, Nat.zero_le _⟩
  · exact ⟨rfl, Nat.le_refl _⟩
theorem FnExactFallDisk (pages : List ByteArray) (late : List S172) (left : List Bool) (torn : Int) (h1 : pages.length ≤ 9223372036854775807) (h3 : ∀ x ∈ pages, x.size ≤ 9223372036854775807) (h2 : late.length ≤ 9223372036854775807) (h4 : ∀ x ∈ late, (Lit.int .i64 x.f0).wf = true ∧ x.f1.size ≤ 9223372036854775807) (_ : left.length ≤ 9223372036854775807) (_ : ∀ x ∈ left, True) (_ : (Lit.int .i64 torn).wf = true) : ∃ k, laws_FnExactFallDisk.f k pages late left torn = some true := by
  by_cases ct : (left.length : Int) > 1048576
  · exact ⟨0, by unfold laws_FnExactFallDisk.f; rw [if_pos ct]⟩
  · obtain ⟨K1, e1⟩ := laws_szDisk_fev pages late h1 h2 h3 (fun x hx => (h4 x hx).2) 1048576 (by omega) (by omega)
    dsimp only at e1
    by_cases c : szDiskR pages late 1048576 < 0
    · refine ⟨K1, ?_⟩
      unfold laws_FnExactFallDisk.f
      rw [if_neg ct, e1 _ (Nat.le_refl _), Option.bind_some, if_pos c]
    · have ht := szDiskR_tells pages late 1048576 (by omega)
      obtain ⟨K2, e2⟩ := laws_toDisk_fev pages late (by omega) (by omega)
      have hm : (late.map convPut).length = late.length := by simp
      generalize late.map convPut = L at hm e2
      obtain ⟨K0, e0⟩ := laws_toBoolS_fev left (by omega)
      rw [List.map_id'] at e0
      obtain ⟨K3, e3⟩ := spec_FallDisk_fev pages L left torn (by omega) (by omega) (by omega)
      obtain ⟨K4, e4⟩ := impl_FallDisk_fev pages L left torn (by omega) (by omega) (by omega)
      obtain ⟨hw1, hw2⟩ := fallR_lengths pages L left torn
      generalize fallR pages L left torn = r at e3 e4 hw1 hw2
      obtain ⟨P', L'⟩ := r
      dsimp only at hw1 hw2
      obtain ⟨K5, e5⟩ := laws_eqDisk_same pages L (by omega) (by omega)
      obtain ⟨K6, e6⟩ := laws_eqDisk_same P' L' (by omega) (by omega)
      obtain ⟨K7, e7⟩ := laws_markDisk_fev pages L 1 (by omega) (by omega) (by omega) (by omega)
      obtain ⟨K8, e8⟩ := laws_markDisk_fev P' L' 1 (by omega) (by omega) (by omega) (by omega)
      obtain ⟨K9, e9⟩ := laws_heldDisk_fev P'.length L'.length 1 (by omega) (by omega) (by omega) (by omega)
      obtain ⟨K10, e10⟩ := laws_eqBoolS_same left (by omega)
      obtain ⟨l', K11, e11⟩ := laws_markBoolS_fev left (1 + (pages.length : Int) + 2 * (L.length : Int)) (by omega) (by omega) (by omega)
      dsimp only at e0 e2 e3 e4 e5 e6 e7 e8 e9 e10 e11
      refine ⟨K0 + K1 + K2 + K3 + K4 + K5 + K6 + K7 + K8 + K9 + K10 + K11 + 1, ?_⟩
      unfold laws_FnExactFallDisk.f
      rw [if_neg ct, e1 _ (by omega), Option.bind_some, if_neg c, e2 _ (by omega), Option.bind_some, e0 _ (by omega), Option.bind_some, e3 _ (by omega), Option.bind_some, Option.bind_some, Option.bind_some, e4 _ (by omega), Option.bind_some, e6 _ (by omega), Option.bind_some, if_pos rfl, Option.bind_some, e5 _ (by omega), Option.bind_some, if_pos rfl, Option.bind_some, e10 _ (by omega), Option.bind_some, if_pos rfl, e7 _ (by omega), Option.bind_some, e11 _ (by omega), Option.bind_some, if_neg (by dsimp only; omega), Option.bind_some]
      rw [laws_FnExactFallDisk.j0, if_neg (by decide), e8 _ (by omega), Option.bind_some, e9 _ (by omega), Option.bind_some, if_neg (by omega), if_pos rfl, e2 _ (by omega), Option.bind_some, e0 _ (by omega), Option.bind_some, e4 _ (by omega), Option.bind_some, e6 _ (by omega), Option.bind_some, if_pos rfl, Option.bind_some, if_neg (by omega), if_pos rfl]
end Go.Proofs.Ytkobbccjjglfmaa.Pure
