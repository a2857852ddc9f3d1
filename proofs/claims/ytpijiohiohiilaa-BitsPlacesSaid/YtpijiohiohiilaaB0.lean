/- Walks and rows of the laws of quoin: each Lean function here tells just what the Go function of its name answers. Conditions: none but those that a row itself names. Written by a program of this session (wip/reprint.py) over the kit print, and turned by it. -/
import Derived.Test.YtpijiohiohiilaaProg
import Derived.Below
import Derived.Deep.Draws
import Derived.Deep.AppendLies
import Derived.Maps.AppendAt
import Derived.OwnWalk
import Derived.Laws.BytesArg
import Derived.Laws.MakeOwn
import Derived.Laws.OwnMore
import Derived.Deep.OwnRows
import Derived.Tactics
import Derived.Lib.ConvBytes
import Derived.Laws.Slices
import Derived.WalkKit
import Derived.KernelRfl
import Derived.RowKit3
import Derived.Deep.LoopGhost
import Derived.Deep.QuietTactic
import Derived.BigQuiet
import Derived.WideLaws
import Derived.Deep.DeepCutAuto
import Derived.Deep.CutBlock
import Derived.Deep.RegionHeld3
import Derived.Laws.Rows
import Derived.Lib.AppendStr
import Derived.ArgAppend
import Derived.Laws.IdiomCopy
import Derived.OrdersHeld
import Derived.Laws.BitsLemmas
import Derived.RowKit
import Derived.Test.YtpijiohiohiilaaWWords
import Derived.Test.YtpijiohiohiilaaWLast
import Derived.Test.YtpijiohiohiilaaWTab
import Derived.Test.YtpijiohiohiilaaWFour
import Derived.Test.YtpijiohiohiilaaWQPut
import Derived.Test.YtpijiohiohiilaaWApart
import Derived.Test.YtpijiohiohiilaaWArr
import Derived.Test.YtpijiohiohiilaaWZeros
import Derived.Test.YtpijiohiohiilaaWFoot
import Derived.Test.YtpijiohiohiilaaWKept
import Derived.Test.YtpijiohiohiilaaWShare
import Derived.Test.YtpijiohiohiilaaWN
import Derived.Test.YtpijiohiohiilaaWFootNe
import Derived.Test.YtpijiohiohiilaaWAt
import Derived.Test.YtpijiohiohiilaaWEqStruct
import Derived.Test.YtpijiohiohiilaaWRepsOne
import Derived.Test.YtpijiohiohiilaaWInv
import Derived.Test.YtpijiohiohiilaaWInvWords
import Derived.Test.YtpijiohiohiilaaWGuard
import Derived.Test.YtpijiohiohiilaaWNEv
import Derived.Test.YtpijiohiohiilaaWMore
namespace Go.Proofs.Ytpijiohiohiilaa.B
open Go.RowKit Go.Proofs.YtpijiohiohiilaaW.PrintWords Go.Proofs.YtpijiohiohiilaaW.PrintLast Go.Proofs.YtpijiohiohiilaaW.PrintMore
attribute [local go_sem] max2_int min2_int max_two min_two max_three min_three max_four min_four   -- for this text's walks alone
set_option linter.unusedVariables false
set_option linter.unusedSimpArgs false



def errW : Option Int → Value
  | none => .nilIface
  | some c => .iface 0 (.int .i64 c)
theorem errW_none : errW none = .nilIface := rfl
theorem errW_some (c : Int) : errW (some c) = .iface 0 (.int .i64 c) := rfl

theorem info3 : (Try.prog.info? 3).map (fun i => (i.zero, i.size, i.bytes)) = some (some (.int .i64 0), 1, 8) := by kernel_rfl
-- the values' own types

end Go.Proofs.Ytpijiohiohiilaa.B
