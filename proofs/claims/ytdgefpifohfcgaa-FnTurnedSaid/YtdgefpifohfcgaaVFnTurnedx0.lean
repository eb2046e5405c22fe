-- Written by a program of this repo (wip/myprint.py), over the kit's print; functions that the print does not take stand in it by hand-proved contracts.
import Derived.Test.YtdgefpifohfcgaaProg
import Derived.Below
import Derived.Deep.Draws
import Derived.Deep.AppendLies
import Derived.Maps.AppendAt
import Derived.OwnWalk
import Derived.Laws.BytesArg
import Derived.Laws.MakeOwn
import Derived.Laws.OwnMore
import Derived.Deep.OwnRows
import Derived.Tactics
import Derived.Lib.ConvBytes
import Derived.Laws.Slices
import Derived.WalkKit
import Derived.KernelRfl
import Derived.RowKit3
import Derived.Deep.LoopGhost
import Derived.Deep.QuietTactic
import Derived.BigQuiet
import Derived.WideLaws
import Derived.Deep.DeepCutAuto
import Derived.Deep.CutBlock
import Derived.Deep.RegionHeld3
import Derived.Laws.Rows
import Derived.Lib.AppendStr
import Derived.ArgAppend
import Derived.Laws.IdiomCopy
import Derived.OrdersHeld
import Derived.Laws.BitsLemmas
import Derived.RowKit
import Derived.Test.YtdgefpifohfcgaaG
import Derived.Test.YtdgefpifohfcgaaWWords
import Derived.Test.YtdgefpifohfcgaaWLast
import Derived.Test.YtdgefpifohfcgaaWTab
import Derived.Test.YtdgefpifohfcgaaWFour
import Derived.Test.YtdgefpifohfcgaaWQPut
import Derived.Test.YtdgefpifohfcgaaWApart
import Derived.Test.YtdgefpifohfcgaaWArr
import Derived.Test.YtdgefpifohfcgaaWZeros
import Derived.Test.YtdgefpifohfcgaaWFoot
import Derived.Test.YtdgefpifohfcgaaWKept
import Derived.Test.YtdgefpifohfcgaaWShare
import Derived.Test.YtdgefpifohfcgaaWN
import Derived.Test.YtdgefpifohfcgaaWFootNe
import Derived.Test.YtdgefpifohfcgaaWAt
import Derived.Test.YtdgefpifohfcgaaWEqStruct
import Derived.Test.YtdgefpifohfcgaaWRepsOne
import Derived.Test.YtdgefpifohfcgaaWInv
import Derived.Test.YtdgefpifohfcgaaWInvWords
import Derived.Test.YtdgefpifohfcgaaWGuard
import Derived.Test.YtdgefpifohfcgaaWNEv
import Derived.Test.YtdgefpifohfcgaaWMore
namespace Go.Proofs.Ytdgefpifohfcgaa.VFnTurned
open Go.RowKit Go.Proofs.YtdgefpifohfcgaaW.PrintWords Go.Proofs.YtdgefpifohfcgaaW.PrintLast Go.Proofs.YtdgefpifohfcgaaW.PrintMore
attribute [local go_sem] max2_int min2_int max_two min_two max_three min_three max_four min_four   -- for this text's walks alone
attribute [local go_sem high] str_leq str_gtr str_geq str_lss
set_option linter.unusedVariables false
set_option linter.unusedSimpArgs false



def errW : Option Int → Value
  | none => .nilIface
  | some c => .iface 0 (.int .i64 c)
theorem errW_none : errW none = .nilIface := rfl
theorem errW_some (c : Int) : errW (some c) = .iface 0 (.int .i64 c) := rfl

theorem info3 : (Try.prog.info? 3).map (fun i => (i.zero, i.size, i.bytes)) = some (some (.int .i64 0), 1, 8) := by kernel_rfl
theorem info5 : (Try.prog.info? 5).map (fun i => (i.zero, i.size, i.bytes)) = some (some (.int .u8 0), 1, 1) := by kernel_rfl
-- the values' own types

end Go.Proofs.Ytdgefpifohfcgaa.VFnTurned
