-- The words that this claim uses, cut by a program of this repo (wip/wprune.py) out of what print.sh printed.
import Derived.Test.YteokilffbcbllaaZFnBestWMore
namespace Go.Proofs.Yteokilffbcbllaa
open Go Go.RowKit Go.Proofs.YteokilffbcbllaaW.PrintWords
theorem bl_tot (x : List UInt8) : ∀ y : List UInt8, (Op.bytesLess x y || x == y) = !(Op.bytesLess y x) := by
  induction x with
  | nil => intro y; cases y <;> rfl
  | cons a x ih =>
    intro y
    cases y with
    | nil => rfl
    | cons b y =>
      have h := ih y
      show ((a < b || (a == b && Op.bytesLess x y)) || (a :: x == b :: y)) = !(b < a || (b == a && Op.bytesLess y x))
      rw [List.cons_beq_cons]
      by_cases c : a = b
      · subst c
        simp only [UInt8.lt_irrefl, decide_false, Bool.false_or, beq_self_eq_true, Bool.true_and]
        exact h
      · have c1 : (a == b) = false := by simp [c]
        have c2 : (b == a) = false := by simp [Ne.symm c]
        rw [c1, c2]
        simp only [Bool.false_and, Bool.or_false]
        have : a.toNat ≠ b.toNat := fun h => c (UInt8.toNat_inj.1 h)
        by_cases c3 : a < b
        · have c4 : ¬ b < a := by rw [UInt8.lt_iff_toNat_lt] at c3 ⊢; omega
          simp [c3, c4]
        · have c4 : b < a := by rw [UInt8.lt_iff_toNat_lt] at c3 ⊢; omega
          simp [c3, c4]
theorem str_leq (t : TypeId) (a b : ByteArray) : binOp .leq t (.string a) (.string b) = pure (.bool (!(Op.bytesLess b.toList a.toList))) := by
  simp [binOp, Op.stringOp, bl_tot]
theorem str_gtr (t : TypeId) (a b : ByteArray) : binOp .gtr t (.string a) (.string b) = pure (.bool (Op.bytesLess b.toList a.toList)) := by
  simp [binOp, Op.stringOp, bl_tot]
theorem str_geq (t : TypeId) (a b : ByteArray) : binOp .geq t (.string a) (.string b) = pure (.bool (!(Op.bytesLess a.toList b.toList))) := by
  simp [binOp, Op.stringOp]
theorem str_lss (t : TypeId) (a b : ByteArray) : binOp .lss t (.string a) (.string b) = pure (.bool (Op.bytesLess a.toList b.toList)) := by
  simp [binOp, Op.stringOp]
def idxP {α : Type} (p : α → Bool) : List α → Int → Int
  | [], _ => -1
  | x :: t, i => if p x = true then i else idxP p t (i + 1)
theorem idxP_lo {α : Type} (p : α → Bool) (l : List α) : ∀ i : Int, 0 ≤ i → (0 ≤ idxP p l i ↔ l.any p = true) := by
  induction l with
  | nil => intro i _; simp [idxP]
  | cons x t ih =>
    intro i h
    unfold idxP
    by_cases c : p x = true
    · rw [if_pos c, List.any_cons, c]; simp [h]
    · rw [if_neg c, ih (i + 1) (by omega), List.any_cons]
      simp [c]
theorem idxP_any {α : Type} (p : α → Bool) (l : List α) : decide (0 ≤ idxP p l 0) = l.any p := by
  have := idxP_lo p l 0 (Int.le_refl 0)
  cases h : l.any p
  · rw [h] at this; exact decide_eq_false (fun h2 => by cases this.1 h2)
  · exact decide_eq_true (this.2 h)
def bzL : Nat → Nat → List Bool
  | 0, _ => []
  | n + 1, k => (k % 2 == 1) :: bzL n (k / 2)
def bz (n k : Nat) : Array Bool := ⟨bzL n k⟩
theorem qa {α : Type} (l : List α) (i : Nat) (a : α) : l.toArray.setIfInBounds i a = (l.set i a).toArray := List.setIfInBounds_toArray l i a
theorem qb {α : Type} {l : List α} {a b : α} : (a :: l).set 0 b = b :: l := List.set_cons_zero
theorem qc {α : Type} {l : List α} {n : Nat} {a b : α} : (a :: l).set (n + 1) b = a :: l.set n b := List.set_cons_succ
theorem qd {α β : Type} {f : α → β} {l : List α} : l.toArray.map f = (l.map f).toArray := List.map_toArray
theorem qe {α β : Type} {f : α → β} {a : α} {l : List α} : (a :: l).map f = f a :: l.map f := List.map_cons
theorem qf {α β : Type} {f : α → β} : [].map f = [] := List.map_nil
theorem qg {α : Type} {i : Nat} {l : List α} : (l.drop i).length = l.length - i := List.length_drop
theorem qh {α : Type} {i : Nat} {l : List α} : (l.take i).length = min i l.length := List.length_take
end Go.Proofs.Yteokilffbcbllaa
