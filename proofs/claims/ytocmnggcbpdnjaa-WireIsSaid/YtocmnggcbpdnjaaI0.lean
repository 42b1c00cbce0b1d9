-- Laid by mix.py, a program of this session, with the kit's print.py; walks by hand come out of wip/over.
import Derived.Test.YtocmnggcbpdnjaaProg
import Derived.Below
import Derived.Deep.Draws
import Derived.Deep.AppendLies
import Derived.Maps.AppendAt
import Derived.OwnWalk
import Derived.Laws.BytesArg
import Derived.Laws.MakeOwn
import Derived.Laws.OwnMore
import Derived.Deep.OwnRows
import Derived.Tactics
import Derived.Lib.ConvBytes
import Derived.Laws.Slices
import Derived.WalkKit
import Derived.KernelRfl
import Derived.RowKit3
import Derived.Deep.LoopGhost
import Derived.Deep.QuietTactic
import Derived.BigQuiet
import Derived.WideLaws
import Derived.Deep.DeepCutAuto
import Derived.Deep.CutBlock
import Derived.Deep.RegionHeld3
import Derived.Laws.Rows
import Derived.Lib.AppendStr
import Derived.ArgAppend
import Derived.Laws.IdiomCopy
import Derived.OrdersHeld
import Derived.Laws.BitsLemmas
import Derived.RowKit
import Derived.Test.YtocmnggcbpdnjaaVs
import Derived.Test.YtocmnggcbpdnjaaWWords
import Derived.Test.YtocmnggcbpdnjaaWLast
import Derived.Test.YtocmnggcbpdnjaaWTab
import Derived.Test.YtocmnggcbpdnjaaWFour
import Derived.Test.YtocmnggcbpdnjaaWQPut
import Derived.Test.YtocmnggcbpdnjaaWApart
import Derived.Test.YtocmnggcbpdnjaaWArr
import Derived.Test.YtocmnggcbpdnjaaWZeros
import Derived.Test.YtocmnggcbpdnjaaWFoot
import Derived.Test.YtocmnggcbpdnjaaWKept
import Derived.Test.YtocmnggcbpdnjaaWShare
import Derived.Test.YtocmnggcbpdnjaaWN
import Derived.Test.YtocmnggcbpdnjaaWFootNe
import Derived.Test.YtocmnggcbpdnjaaWAt
import Derived.Test.YtocmnggcbpdnjaaWEqStruct
import Derived.Test.YtocmnggcbpdnjaaWRepsOne
import Derived.Test.YtocmnggcbpdnjaaWInv
import Derived.Test.YtocmnggcbpdnjaaWInvWords
import Derived.Test.YtocmnggcbpdnjaaWGuard
import Derived.Test.YtocmnggcbpdnjaaWNEv
import Derived.Test.YtocmnggcbpdnjaaWMore
namespace Go.Proofs.Ytocmnggcbpdnjaa.I
open Go.RowKit Go.Proofs.YtocmnggcbpdnjaaW.PrintWords Go.Proofs.YtocmnggcbpdnjaaW.PrintLast Go.Proofs.YtocmnggcbpdnjaaW.PrintMore
attribute [local go_sem] max2_int min2_int max_two min_two max_three min_three max_four min_four   -- for this text's walks alone
set_option linter.unusedVariables false
set_option linter.unusedSimpArgs false



def errW : Option Int → Value
  | none => .nilIface
  | some c => .iface 0 (.int .i64 c)
theorem errW_none : errW none = .nilIface := rfl
theorem errW_some (c : Int) : errW (some c) = .iface 0 (.int .i64 c) := rfl

theorem info5 : (Try.prog.info? 5).map (fun i => (i.zero, i.size, i.bytes)) = some (some (.int .u8 0), 1, 1) := by kernel_rfl
-- the values' own types

end Go.Proofs.Ytocmnggcbpdnjaa.I
