/- What the rows of this seat list of package-level variables, as the walks use it: the powers of ten, the two errors of strconv, the table of white space; and that it stays in every later world. No conditions. -/
import Derived.Test.YteokilffbcbllaaDoorSh
import Derived.Test.YteokilffbcbllaaDoorRows
import Derived.Lib.LaidTab
import Derived.Stop.LaidErr
import Derived.LaidSub
import Derived.MakeChecks
import Derived.WalkSmall
namespace Go.Proofs.YteokilffbcbllaaDoor
open Go Go.RowKit

theorem cell_lt_ {P : Program} {w : World} {n : String} {g : Nat} {cs : Array Value} (hg : P.globalNamed n = some g) (hv : w.var? P n = some cs) : g < w.heap.size := by
  rcases Nat.lt_or_ge g w.heap.size with h' | h'
  · exact h'
  · unfold World.var? at hv
    simp only [hg, Option.bind_some] at hv
    rw [Array.getElem?_eq_none h'] at hv
    cases hv

theorem g10 : Tryd.prog.globalNamed "internal/strconv.uint64pow10" = some 5 := by kernel_rfl
theorem gSyn : Tryd.prog.globalNamed "strconv.ErrSyntax" = some 2 := by kernel_rfl
theorem gRan : Tryd.prog.globalNamed "strconv.ErrRange" = some 3 := by kernel_rfl
theorem gSpa : Tryd.prog.globalNamed "strings.asciiSpace" = some 0 := by kernel_rfl

/-- The powers of ten lie as strconv lays them. -/
def Tens (w : World) : Prop := Lib.TabIs Tryd.prog w "internal/strconv.uint64pow10" .u64 Lib.pow10Tab
/-- The table of white space lies as strings lays it. -/
def Spaces (w : World) : Prop := Lib.TabIs Tryd.prog w "strings.asciiSpace" .u8 Lib.asciiSpaceTab
/-- The powers of ten, and both errors are there. -/
def Nums (w : World) : Prop := Tens w ∧ (∃ tp p, w.var? Tryd.prog "strconv.ErrSyntax" = some #[.iface tp p]) ∧ (∃ tp p, w.var? Tryd.prog "strconv.ErrRange" = some #[.iface tp p])

theorem Tens.below {w w' : World} (h : Tens w) (hb : Below w.heap.size w w') : Tens w' := var?_below hb g10 (cell_lt_ g10 h) h
theorem Spaces.below {w w' : World} (h : Spaces w) (hb : Below w.heap.size w w') : Spaces w' := var?_below hb gSpa (cell_lt_ gSpa h) h
theorem Nums.below {w w' : World} (h : Nums w) (hb : Below w.heap.size w w') : Nums w' :=
  ⟨h.1.below hb, h.2.1.elim fun tp h => h.elim fun p h => ⟨tp, p, var?_below hb gSyn (cell_lt_ gSyn h) h⟩, h.2.2.elim fun tp h => h.elim fun p h => ⟨tp, p, var?_below hb gRan (cell_lt_ gRan h) h⟩⟩

theorem Nums.tens {w : World} (h : Nums w) : Tens w := h.1
theorem tens_of {l : List (String × DataW Unit)} {w : World} (h : laidMet Tryd.prog l w) (he : l.filter (fun x => x.1 == "internal/strconv.uint64pow10") = [("internal/strconv.uint64pow10", Lib.tabData .u64 Lib.pow10Tab)]) : Tens w := by
  have h1 := h.filter (fun x => x.1 == "internal/strconv.uint64pow10")
  rw [he] at h1
  exact Lib.tabIs_of_head g10 (t := 110) (e := 80) (n := 20) (by kernel_rfl) Tryd.underlying110 Tryd.underlying80 (by kernel_rfl) (by kernel_rfl) h1
theorem spaces_of {l : List (String × DataW Unit)} {w : World} (h : laidMet Tryd.prog l w) (he : l.filter (fun x => x.1 == "strings.asciiSpace") = [("strings.asciiSpace", Lib.tabData .u8 Lib.asciiSpaceTab)]) : Spaces w := by
  have h1 := h.filter (fun x => x.1 == "strings.asciiSpace")
  rw [he] at h1
  exact Lib.tabIs_of_head gSpa (t := 64) (e := 5) (n := 256) (by kernel_rfl) Tryd.underlying64 Tryd.underlying5 (by kernel_rfl) (by kernel_rfl) h1
theorem star_ : "*" ++ "errors.errorString" = "*errors.errorString" := by decide
theorem row105 (u : TypeId) (h : Tryd.prog.typeName? 3 u = some "*errors.errorString") : u = 105 :=
  typeName_ptr_named (nm := "errors.errorString") (by rw [star_]; kernel_rfl) (by kernel_rfl) (by decide) u (by rw [star_]; exact h)
theorem err_of {n : String} {g : Nat} {text : List UInt8} {l : List (String × DataW Unit)} {w : World} (hg : Tryd.prog.globalNamed n = some g) (hty : (Tryd.prog.globals[g]?).map (·.type) = some 44) (h : laidMet Tryd.prog l w)
    (he : l.filter (fun x => x.1 == n) = [(n, .iface "*errors.errorString" (.ptr (.agg [.lit (.string text)])))]) : ∃ tp p, w.var? Tryd.prog n = some #[.iface tp p] := by
  have h1 := h.filter (fun x => x.1 == n)
  rw [he] at h1
  obtain ⟨a0, s0, hv0, -, -, -⟩ := laid_sentinel h1 hg hty Tryd.underlying44 row105 Tryd.underlying105 Tryd.underlying107 rfl rfl Tryd.underlying9 (by kernel_rfl) (by kernel_rfl)
  exact ⟨_, _, hv0⟩

theorem tens_row {w : World} (h : laidMetH Tryd.prog Rows.fnExactDecimalRow.laid w) : Tens w := by
  rw [MakeChecks.laidMetH_plain _ _ _ (by kernel_rfl)] at h
  exact tens_of h (by kernel_rfl)
theorem nums_row {w : World} (h : laidMetH Tryd.prog Rows.fnNumbersRow.laid w) : Nums w := by
  rw [MakeChecks.laidMetH_plain _ _ _ (by kernel_rfl)] at h
  exact ⟨tens_of h (by kernel_rfl), err_of gSyn (by kernel_rfl) h (text := [105, 110, 118, 97, 108, 105, 100, 32, 115, 121, 110, 116, 97, 120]) (by kernel_rfl), err_of gRan (by kernel_rfl) h (text := [118, 97, 108, 117, 101, 32, 111, 117, 116, 32, 111, 102, 32, 114, 97, 110, 103, 101]) (by kernel_rfl)⟩
theorem spaces_row {w : World} (h : laidMetH Tryd.prog Rows.fnExactPartsOfRow.laid w) : Spaces w := by
  rw [MakeChecks.laidMetH_plain _ _ _ (by kernel_rfl)] at h
  exact spaces_of h (by kernel_rfl)
end Go.Proofs.YteokilffbcbllaaDoor
