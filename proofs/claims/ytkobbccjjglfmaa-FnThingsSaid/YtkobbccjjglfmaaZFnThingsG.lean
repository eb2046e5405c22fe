-- The words that this claim uses, cut by a program of this repo (wip/wprune.py) out of what print.sh printed.
import Derived.Test.YtkobbccjjglfmaaZFnThingsWMore
namespace Go.Proofs.Ytkobbccjjglfmaa
open Go Go.RowKit Go.Proofs.YtkobbccjjglfmaaW.PrintWords
theorem bl_tot (x : List UInt8) : ∀ y : List UInt8, (Op.bytesLess x y || x == y) = !(Op.bytesLess y x) := by
  induction x with
  | nil => intro y; cases y <;> rfl
  | cons a x ih =>
    intro y
    cases y with
    | nil => rfl
    | cons b y =>
      have h := ih y
      show ((a < b || (a == b && Op.bytesLess x y)) || (a :: x == b :: y)) = !(b < a || (b == a && Op.bytesLess y x))
      rw [List.cons_beq_cons]
      by_cases c : a = b
      · subst c
        simp only [UInt8.lt_irrefl, decide_false, Bool.false_or, beq_self_eq_true, Bool.true_and]
        exact h
      · have c1 : (a == b) = false := by simp [c]
        have c2 : (b == a) = false := by simp [Ne.symm c]
        rw [c1, c2]
        simp only [Bool.false_and, Bool.or_false]
        have : a.toNat ≠ b.toNat := fun h => c (UInt8.toNat_inj.1 h)
        by_cases c3 : a < b
        · have c4 : ¬ b < a := by rw [UInt8.lt_iff_toNat_lt] at c3 ⊢; omega
          simp [c3, c4]
        · have c4 : b < a := by rw [UInt8.lt_iff_toNat_lt] at c3 ⊢; omega
          simp [c3, c4]
theorem str_leq (t : TypeId) (a b : ByteArray) : binOp .leq t (.string a) (.string b) = pure (.bool (!(Op.bytesLess b.toList a.toList))) := by
  simp [binOp, Op.stringOp, bl_tot]
theorem str_gtr (t : TypeId) (a b : ByteArray) : binOp .gtr t (.string a) (.string b) = pure (.bool (Op.bytesLess b.toList a.toList)) := by
  simp [binOp, Op.stringOp, bl_tot]
theorem str_geq (t : TypeId) (a b : ByteArray) : binOp .geq t (.string a) (.string b) = pure (.bool (!(Op.bytesLess a.toList b.toList))) := by
  simp [binOp, Op.stringOp]
theorem str_lss (t : TypeId) (a b : ByteArray) : binOp .lss t (.string a) (.string b) = pure (.bool (Op.bytesLess a.toList b.toList)) := by
  simp [binOp, Op.stringOp]
def idxP {α : Type} (p : α → Bool) : List α → Int → Int
  | [], _ => -1
  | x :: t, i => if p x = true then i else idxP p t (i + 1)
end Go.Proofs.Ytkobbccjjglfmaa
