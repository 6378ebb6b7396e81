-- Written by a program out of this seat's translation (functions, and that the code comes to them).
import Derived.Test.YtcollbifdfhfoaaProg
import Derived.Lib.SliceRun
import Derived.Below
import Derived.Deep.Draws
import Derived.Deep.AppendLies
import Derived.Maps.AppendAt
import Derived.OwnWalk
import Derived.Laws.BytesArg
import Derived.Laws.MakeOwn
import Derived.Laws.OwnMore
import Derived.Deep.OwnRows
import Derived.Tactics
import Derived.Lib.ConvBytes
import Derived.Laws.Slices
import Derived.WalkKit
import Derived.KernelRfl
import Derived.RowKit3
import Derived.Deep.LoopGhost
import Derived.Deep.QuietTactic
import Derived.BigQuiet
import Derived.WideLaws
import Derived.Deep.DeepCutAuto
import Derived.Deep.CutBlock
import Derived.Deep.RegionHeld3
import Derived.Laws.Rows
import Derived.Lib.AppendStr
import Derived.ArgAppend
import Derived.Laws.IdiomCopy
import Derived.OrdersHeld
import Derived.Laws.BitsLemmas
import Derived.RowKit
import Derived.Test.YtcollbifdfhfoaaBayTo
import Derived.Test.YtcollbifdfhfoaaWWords
import Derived.Test.YtcollbifdfhfoaaWLast
import Derived.Test.YtcollbifdfhfoaaWTab
import Derived.Test.YtcollbifdfhfoaaWFour
import Derived.Test.YtcollbifdfhfoaaWQPut
import Derived.Test.YtcollbifdfhfoaaWApart
import Derived.Test.YtcollbifdfhfoaaWArr
import Derived.Test.YtcollbifdfhfoaaWZeros
import Derived.Test.YtcollbifdfhfoaaWFoot
import Derived.Test.YtcollbifdfhfoaaWKept
import Derived.Test.YtcollbifdfhfoaaWShare
import Derived.Test.YtcollbifdfhfoaaWN
import Derived.Test.YtcollbifdfhfoaaWFootNe
import Derived.Test.YtcollbifdfhfoaaWAt
import Derived.Test.YtcollbifdfhfoaaWEqStruct
import Derived.Test.YtcollbifdfhfoaaWRepsOne
import Derived.Test.YtcollbifdfhfoaaWInv
import Derived.Test.YtcollbifdfhfoaaWInvWords
import Derived.Test.YtcollbifdfhfoaaWGuard
import Derived.Test.YtcollbifdfhfoaaWNEv
import Derived.Test.YtcollbifdfhfoaaWMore
namespace Go.Proofs.Ytcollbifdfhfoaa.PFnExactValidBoat
open Go.RowKit Go.Proofs.YtcollbifdfhfoaaW.PrintWords Go.Proofs.YtcollbifdfhfoaaW.PrintLast Go.Proofs.YtcollbifdfhfoaaW.PrintMore
attribute [local go_sem] max2_int min2_int max_two min_two max_three min_three max_four min_four   -- for this text's walks alone
open Go.Proofs.Ytcollbifdfhfoaa.Bay
attribute [local go_sem ↓] lv26_eq lv28_eq
set_option linter.unusedVariables false
set_option linter.unusedSimpArgs false



def errW : Option Int → Value
  | none => .nilIface
  | some c => .iface 0 (.int .i64 c)
theorem errW_none : errW none = .nilIface := rfl
theorem errW_some (c : Int) : errW (some c) = .iface 0 (.int .i64 c) := rfl

-- the values' own types

end Go.Proofs.Ytcollbifdfhfoaa.PFnExactValidBoat
