-- Written by a program of this repo (wip/myprint.py), over the kit's print; functions that the print does not take stand in it by hand-proved contracts.
import Derived.Test.YtkobbccjjglfmaaProg
import Derived.Below
import Derived.Deep.Draws
import Derived.Deep.AppendLies
import Derived.Maps.AppendAt
import Derived.OwnWalk
import Derived.Laws.BytesArg
import Derived.Laws.MakeOwn
import Derived.Laws.OwnMore
import Derived.Deep.OwnRows
import Derived.Tactics
import Derived.Lib.ConvBytes
import Derived.Laws.Slices
import Derived.WalkKit
import Derived.KernelRfl
import Derived.RowKit3
import Derived.Deep.LoopGhost
import Derived.Deep.QuietTactic
import Derived.BigQuiet
import Derived.WideLaws
import Derived.Deep.DeepCutAuto
import Derived.Deep.CutBlock
import Derived.Deep.RegionHeld3
import Derived.Laws.Rows
import Derived.Lib.AppendStr
import Derived.ArgAppend
import Derived.Laws.IdiomCopy
import Derived.OrdersHeld
import Derived.Laws.BitsLemmas
import Derived.RowKit
import Derived.Test.YtkobbccjjglfmaaZFnExactReadNodeG
import Derived.Shelf.Abstract
import Derived.Test.YtkobbccjjglfmaaZFnExactReadNodeWWords
import Derived.Test.YtkobbccjjglfmaaZFnExactReadNodeWLast
import Derived.Test.YtkobbccjjglfmaaZFnExactReadNodeWTab
import Derived.Test.YtkobbccjjglfmaaZFnExactReadNodeWFour
import Derived.Test.YtkobbccjjglfmaaZFnExactReadNodeWQPut
import Derived.Test.YtkobbccjjglfmaaZFnExactReadNodeWApart
import Derived.Test.YtkobbccjjglfmaaZFnExactReadNodeWArr
import Derived.Test.YtkobbccjjglfmaaZFnExactReadNodeWZeros
import Derived.Test.YtkobbccjjglfmaaZFnExactReadNodeWFoot
import Derived.Test.YtkobbccjjglfmaaZFnExactReadNodeWKept
import Derived.Test.YtkobbccjjglfmaaZFnExactReadNodeWShare
import Derived.Test.YtkobbccjjglfmaaZFnExactReadNodeWN
import Derived.Test.YtkobbccjjglfmaaZFnExactReadNodeWFootNe
import Derived.Test.YtkobbccjjglfmaaZFnExactReadNodeWAt
import Derived.Test.YtkobbccjjglfmaaZFnExactReadNodeWEqStruct
import Derived.Test.YtkobbccjjglfmaaZFnExactReadNodeWRepsOne
import Derived.Test.YtkobbccjjglfmaaZFnExactReadNodeWInv
import Derived.Test.YtkobbccjjglfmaaZFnExactReadNodeWInvWords
import Derived.Test.YtkobbccjjglfmaaZFnExactReadNodeWGuard
import Derived.Test.YtkobbccjjglfmaaZFnExactReadNodeWNEv
import Derived.Test.YtkobbccjjglfmaaZFnExactReadNodeWMore
namespace Go.Proofs.Ytkobbccjjglfmaa.VFnExactReadNode
open Go.RowKit Go.Proofs.YtkobbccjjglfmaaW.PrintWords Go.Proofs.YtkobbccjjglfmaaW.PrintLast Go.Proofs.YtkobbccjjglfmaaW.PrintMore
attribute [local go_sem] max2_int min2_int max_two min_two max_three min_three max_four min_four   -- for this text's walks alone
attribute [local go_sem high] str_leq str_gtr str_geq str_lss
set_option linter.unusedVariables false
set_option linter.unusedSimpArgs false



def errW : Option Int → Value
 | none => .nilIface
 | some c => .iface 0 (.int .i64 c)
theorem errW_none : errW none = .nilIface := rfl
theorem errW_some (c : Int) : errW (some c) = .iface 0 (.int .i64 c) := rfl

theorem info3 : (Try.prog.info? 3).map (fun i => (i.zero, i.size, i.bytes)) = some (some (.int .i64 0), 1, 8) := by kernel_rfl
theorem info5 : (Try.prog.info? 5).map (fun i => (i.zero, i.size, i.bytes)) = some (some (.int .u8 0), 1, 1) := by kernel_rfl
theorem info9 : (Try.prog.info? 9).map (fun i => (i.zero, i.size, i.bytes)) = some (some (.string ⟨#[]⟩), 1, 16) := by kernel_rfl
-- the values' own types

-- zz_short: short names
set_option linter.defProp false
def za := @blk_drewN
def zb := @blk_drew
def zc := @blk_alloc
def zd := @Kd.R_alloc
def ze := @Kd.R_drewN
def zf := @Kd.R_drew
def zg := @below_alloc
def zh := @pw_below_drewN
def zi := @below_drew1
def zj := @Aside0.mk
def zk := @below_size
def zl := @below_step
def zm := @Kd.R_mono
def zn := @Kd.R_far
def zo := @blk_below
def zp := @blk_put
def zq := @blk_cell
def zr := @below_set
def zs := @Kd.R_below
def zt := @Kd.R_types
def zu := @blk_frozen
end Go.Proofs.Ytkobbccjjglfmaa.VFnExactReadNode
