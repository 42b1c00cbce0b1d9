-- Laid by mix.py, a program of this session, with the kit's print.py; walks by hand come out of wip/over.
import Derived.Test.YtenbbfibampakaaProg
import Derived.Below
import Derived.Deep.Draws
import Derived.Deep.AppendLies
import Derived.Maps.AppendAt
import Derived.OwnWalk
import Derived.Laws.BytesArg
import Derived.Laws.MakeOwn
import Derived.Laws.OwnMore
import Derived.Deep.OwnRows
import Derived.Tactics
import Derived.Lib.ConvBytes
import Derived.Laws.Slices
import Derived.WalkKit
import Derived.KernelRfl
import Derived.RowKit3
import Derived.Deep.LoopGhost
import Derived.Deep.QuietTactic
import Derived.BigQuiet
import Derived.WideLaws
import Derived.Deep.DeepCutAuto
import Derived.Deep.CutBlock
import Derived.Deep.RegionHeld3
import Derived.Laws.Rows
import Derived.Lib.AppendStr
import Derived.ArgAppend
import Derived.Laws.IdiomCopy
import Derived.OrdersHeld
import Derived.Laws.BitsLemmas
import Derived.RowKit
import Derived.Test.YtenbbfibampakaaWWords
import Derived.Test.YtenbbfibampakaaWLast
import Derived.Test.YtenbbfibampakaaWTab
import Derived.Test.YtenbbfibampakaaWFour
import Derived.Test.YtenbbfibampakaaWQPut
import Derived.Test.YtenbbfibampakaaWApart
import Derived.Test.YtenbbfibampakaaWArr
import Derived.Test.YtenbbfibampakaaWZeros
import Derived.Test.YtenbbfibampakaaWFoot
import Derived.Test.YtenbbfibampakaaWKept
import Derived.Test.YtenbbfibampakaaWShare
import Derived.Test.YtenbbfibampakaaWN
import Derived.Test.YtenbbfibampakaaWFootNe
import Derived.Test.YtenbbfibampakaaWAt
import Derived.Test.YtenbbfibampakaaWEqStruct
import Derived.Test.YtenbbfibampakaaWRepsOne
import Derived.Test.YtenbbfibampakaaWInv
import Derived.Test.YtenbbfibampakaaWInvWords
import Derived.Test.YtenbbfibampakaaWGuard
import Derived.Test.YtenbbfibampakaaWNEv
import Derived.Test.YtenbbfibampakaaWMore
namespace Go.Proofs.Ytenbbfibampakaa.Q
open Go.RowKit Go.Proofs.YtenbbfibampakaaW.PrintWords Go.Proofs.YtenbbfibampakaaW.PrintLast Go.Proofs.YtenbbfibampakaaW.PrintMore
attribute [local go_sem] max2_int min2_int max_two min_two max_three min_three max_four min_four   -- for this text's walks alone
set_option linter.unusedVariables false
set_option linter.unusedSimpArgs false



def errW : Option Int → Value
  | none => .nilIface
  | some c => .iface 0 (.int .i64 c)
theorem errW_none : errW none = .nilIface := rfl
theorem errW_some (c : Int) : errW (some c) = .iface 0 (.int .i64 c) := rfl

theorem info5 : (Try.prog.info? 5).map (fun i => (i.zero, i.size, i.bytes)) = some (some (.int .u8 0), 1, 1) := by kernel_rfl
-- the values' own types

end Go.Proofs.Ytenbbfibampakaa.Q
