/- What Go functions of this seat compute, as Lean functions (the word 'none': a panic, or the rounds are used up), each proved of the translation; no conditions. Written by the kit's print.py, called for this claim. -/
import Derived.Test.YtknhjeabldlimaaDoorProg
import Derived.Below
import Derived.Deep.Draws
import Derived.Deep.AppendLies
import Derived.Maps.AppendAt
import Derived.OwnWalk
import Derived.Laws.BytesArg
import Derived.Laws.MakeOwn
import Derived.Laws.OwnMore
import Derived.Deep.OwnRows
import Derived.Tactics
import Derived.Lib.ConvBytes
import Derived.Laws.Slices
import Derived.WalkKit
import Derived.KernelRfl
import Derived.RowKit3
import Derived.Deep.LoopGhost
import Derived.Deep.QuietTactic
import Derived.BigQuiet
import Derived.WideLaws
import Derived.Deep.DeepCutAuto
import Derived.Deep.CutBlock
import Derived.Deep.RegionHeld3
import Derived.Laws.Rows
import Derived.Lib.AppendStr
import Derived.ArgAppend
import Derived.Laws.IdiomCopy
import Derived.OrdersHeld
import Derived.Laws.BitsLemmas
import Derived.RowKit
import Derived.Test.YtknhjeabldlimaaDoorWWords
import Derived.Test.YtknhjeabldlimaaDoorWLast
import Derived.Test.YtknhjeabldlimaaDoorWTab
import Derived.Test.YtknhjeabldlimaaDoorWFour
import Derived.Test.YtknhjeabldlimaaDoorWQPut
import Derived.Test.YtknhjeabldlimaaDoorWApart
import Derived.Test.YtknhjeabldlimaaDoorWArr
import Derived.Test.YtknhjeabldlimaaDoorWZeros
import Derived.Test.YtknhjeabldlimaaDoorWFoot
import Derived.Test.YtknhjeabldlimaaDoorWKept
import Derived.Test.YtknhjeabldlimaaDoorWShare
import Derived.Test.YtknhjeabldlimaaDoorWN
import Derived.Test.YtknhjeabldlimaaDoorWFootNe
import Derived.Test.YtknhjeabldlimaaDoorWAt
import Derived.Test.YtknhjeabldlimaaDoorWEqStruct
import Derived.Test.YtknhjeabldlimaaDoorWRepsOne
import Derived.Test.YtknhjeabldlimaaDoorWInv
import Derived.Test.YtknhjeabldlimaaDoorWInvWords
import Derived.Test.YtknhjeabldlimaaDoorWGuard
import Derived.Test.YtknhjeabldlimaaDoorWNEv
import Derived.Test.YtknhjeabldlimaaDoorWMore
namespace Go.Proofs.YtknhjeabldlimaaDoor.QF
open Go.RowKit Go.Proofs.YtknhjeabldlimaaDoorW.PrintWords Go.Proofs.YtknhjeabldlimaaDoorW.PrintLast Go.Proofs.YtknhjeabldlimaaDoorW.PrintMore
attribute [local go_sem] max2_int min2_int max_two min_two max_three min_three max_four min_four   -- for this text's walks alone
set_option linter.unusedVariables false
set_option linter.unusedSimpArgs false



def errW : Option Int → Value
  | none => .nilIface
  | some c => .iface 0 (.int .i64 c)
theorem errW_none : errW none = .nilIface := rfl
theorem errW_some (c : Int) : errW (some c) = .iface 0 (.int .i64 c) := rfl

theorem info2 : (Tryd.prog.info? 2).map (fun i => (i.zero, i.size, i.bytes)) = some (some (.int .i64 0), 1, 8) := by kernel_rfl
-- the values' own types

end Go.Proofs.YtknhjeabldlimaaDoor.QF
