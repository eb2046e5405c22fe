-- Written by a program of this repo (wip/myprint.py), over the kit's print; functions that the print does not take stand in it by hand-proved contracts.
import Derived.Test.YtkobbccjjglfmaaProg
import Derived.Below
import Derived.Deep.Draws
import Derived.Deep.AppendLies
import Derived.Maps.AppendAt
import Derived.OwnWalk
import Derived.Laws.BytesArg
import Derived.Laws.MakeOwn
import Derived.Laws.OwnMore
import Derived.Deep.OwnRows
import Derived.Tactics
import Derived.Lib.ConvBytes
import Derived.Laws.Slices
import Derived.WalkKit
import Derived.KernelRfl
import Derived.RowKit3
import Derived.Deep.LoopGhost
import Derived.Deep.QuietTactic
import Derived.BigQuiet
import Derived.WideLaws
import Derived.Deep.DeepCutAuto
import Derived.Deep.CutBlock
import Derived.Deep.RegionHeld3
import Derived.Laws.Rows
import Derived.Lib.AppendStr
import Derived.ArgAppend
import Derived.Laws.IdiomCopy
import Derived.OrdersHeld
import Derived.Laws.BitsLemmas
import Derived.RowKit
import Derived.Test.YtkobbccjjglfmaaG
import Derived.Shelf.Abstract
import Derived.Test.YtkobbccjjglfmaaWWords
import Derived.Test.YtkobbccjjglfmaaWLast
import Derived.Test.YtkobbccjjglfmaaWTab
import Derived.Test.YtkobbccjjglfmaaWFour
import Derived.Test.YtkobbccjjglfmaaWQPut
import Derived.Test.YtkobbccjjglfmaaWApart
import Derived.Test.YtkobbccjjglfmaaWArr
import Derived.Test.YtkobbccjjglfmaaWZeros
import Derived.Test.YtkobbccjjglfmaaWFoot
import Derived.Test.YtkobbccjjglfmaaWKept
import Derived.Test.YtkobbccjjglfmaaWShare
import Derived.Test.YtkobbccjjglfmaaWN
import Derived.Test.YtkobbccjjglfmaaWFootNe
import Derived.Test.YtkobbccjjglfmaaWAt
import Derived.Test.YtkobbccjjglfmaaWEqStruct
import Derived.Test.YtkobbccjjglfmaaWRepsOne
import Derived.Test.YtkobbccjjglfmaaWInv
import Derived.Test.YtkobbccjjglfmaaWInvWords
import Derived.Test.YtkobbccjjglfmaaWGuard
import Derived.Test.YtkobbccjjglfmaaWNEv
import Derived.Test.YtkobbccjjglfmaaWMore
namespace Go.Proofs.Ytkobbccjjglfmaa.VFnExactNodeText
open Go.RowKit Go.Proofs.YtkobbccjjglfmaaW.PrintWords Go.Proofs.YtkobbccjjglfmaaW.PrintLast Go.Proofs.YtkobbccjjglfmaaW.PrintMore
attribute [local go_sem] max2_int min2_int max_two min_two max_three min_three max_four min_four   -- for this text's walks alone
attribute [local go_sem high] str_leq str_gtr str_geq str_lss
set_option linter.unusedVariables false
set_option linter.unusedSimpArgs false



def errW : Option Int → Value
  | none => .nilIface
  | some c => .iface 0 (.int .i64 c)
theorem errW_none : errW none = .nilIface := rfl
theorem errW_some (c : Int) : errW (some c) = .iface 0 (.int .i64 c) := rfl

theorem info3 : (Try.prog.info? 3).map (fun i => (i.zero, i.size, i.bytes)) = some (some (.int .i64 0), 1, 8) := by kernel_rfl
theorem info5 : (Try.prog.info? 5).map (fun i => (i.zero, i.size, i.bytes)) = some (some (.int .u8 0), 1, 1) := by kernel_rfl
theorem info9 : (Try.prog.info? 9).map (fun i => (i.zero, i.size, i.bytes)) = some (some (.string ⟨#[]⟩), 1, 16) := by kernel_rfl
-- the values' own types

end Go.Proofs.Ytkobbccjjglfmaa.VFnExactNodeText
