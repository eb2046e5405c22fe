-- Written by a program of this repo (wip/myprint.py), over the kit's print; functions that the print does not take stand in it by hand-proved contracts.
import Derived.Test.YteokilffbcbllaaDoorProg
import Derived.Below
import Derived.Deep.Draws
import Derived.Deep.AppendLies
import Derived.Maps.AppendAt
import Derived.OwnWalk
import Derived.Laws.BytesArg
import Derived.Laws.MakeOwn
import Derived.Laws.OwnMore
import Derived.Deep.OwnRows
import Derived.Tactics
import Derived.Lib.ConvBytes
import Derived.Laws.Slices
import Derived.WalkKit
import Derived.KernelRfl
import Derived.RowKit3
import Derived.Deep.LoopGhost
import Derived.Deep.QuietTactic
import Derived.BigQuiet
import Derived.WideLaws
import Derived.Deep.DeepCutAuto
import Derived.Deep.CutBlock
import Derived.Deep.RegionHeld3
import Derived.Laws.Rows
import Derived.Lib.AppendStr
import Derived.ArgAppend
import Derived.Laws.IdiomCopy
import Derived.OrdersHeld
import Derived.Laws.BitsLemmas
import Derived.RowKit
import Derived.Test.YteokilffbcbllaaDoorG
import Derived.Test.YteokilffbcbllaaDoorL
import Derived.Test.YteokilffbcbllaaDoorSh
import Derived.Test.YteokilffbcbllaaDoorWWords
import Derived.Test.YteokilffbcbllaaDoorWLast
import Derived.Test.YteokilffbcbllaaDoorWTab
import Derived.Test.YteokilffbcbllaaDoorWFour
import Derived.Test.YteokilffbcbllaaDoorWQPut
import Derived.Test.YteokilffbcbllaaDoorWApart
import Derived.Test.YteokilffbcbllaaDoorWArr
import Derived.Test.YteokilffbcbllaaDoorWZeros
import Derived.Test.YteokilffbcbllaaDoorWFoot
import Derived.Test.YteokilffbcbllaaDoorWKept
import Derived.Test.YteokilffbcbllaaDoorWShare
import Derived.Test.YteokilffbcbllaaDoorWN
import Derived.Test.YteokilffbcbllaaDoorWFootNe
import Derived.Test.YteokilffbcbllaaDoorWAt
import Derived.Test.YteokilffbcbllaaDoorWEqStruct
import Derived.Test.YteokilffbcbllaaDoorWRepsOne
import Derived.Test.YteokilffbcbllaaDoorWInv
import Derived.Test.YteokilffbcbllaaDoorWInvWords
import Derived.Test.YteokilffbcbllaaDoorWGuard
import Derived.Test.YteokilffbcbllaaDoorWNEv
import Derived.Test.YteokilffbcbllaaDoorWMore
namespace Go.Proofs.YteokilffbcbllaaDoor.VFnExactPartsOf
open Go.RowKit Go.Proofs.YteokilffbcbllaaDoorW.PrintWords Go.Proofs.YteokilffbcbllaaDoorW.PrintLast Go.Proofs.YteokilffbcbllaaDoorW.PrintMore
attribute [local go_sem] max2_int min2_int max_two min_two max_three min_three max_four min_four   -- for this text's walks alone
attribute [local go_sem high] str_leq str_gtr str_geq str_lss
set_option linter.unusedVariables false
set_option linter.unusedSimpArgs false



def errW : Option Int → Value
  | none => .nilIface
  | some c => .iface 0 (.int .i64 c)
theorem errW_none : errW none = .nilIface := rfl
theorem errW_some (c : Int) : errW (some c) = .iface 0 (.int .i64 c) := rfl

theorem info5 : (Tryd.prog.info? 5).map (fun i => (i.zero, i.size, i.bytes)) = some (some (.int .u8 0), 1, 1) := by kernel_rfl
theorem info9 : (Tryd.prog.info? 9).map (fun i => (i.zero, i.size, i.bytes)) = some (some (.string ⟨#[]⟩), 1, 16) := by kernel_rfl
-- the values' own types

end Go.Proofs.YteokilffbcbllaaDoor.VFnExactPartsOf
