-- Written by a program out of this seat's translation (functions, and that the code comes to them).
import Derived.Test.YtapbfobhnbcpdaaProg
import Derived.Lib.SliceRun
import Derived.Below
import Derived.Deep.Draws
import Derived.Deep.AppendLies
import Derived.Maps.AppendAt
import Derived.OwnWalk
import Derived.Laws.BytesArg
import Derived.Laws.MakeOwn
import Derived.Laws.OwnMore
import Derived.Deep.OwnRows
import Derived.Tactics
import Derived.Lib.ConvBytes
import Derived.Laws.Slices
import Derived.WalkKit
import Derived.KernelRfl
import Derived.RowKit3
import Derived.Deep.LoopGhost
import Derived.Deep.QuietTactic
import Derived.BigQuiet
import Derived.WideLaws
import Derived.Deep.DeepCutAuto
import Derived.Deep.CutBlock
import Derived.Deep.RegionHeld3
import Derived.Laws.Rows
import Derived.Lib.AppendStr
import Derived.ArgAppend
import Derived.Laws.IdiomCopy
import Derived.OrdersHeld
import Derived.Laws.BitsLemmas
import Derived.RowKit
import Derived.Test.YtapbfobhnbcpdaaWWords
import Derived.Test.YtapbfobhnbcpdaaWLast
import Derived.Test.YtapbfobhnbcpdaaWTab
import Derived.Test.YtapbfobhnbcpdaaWFour
import Derived.Test.YtapbfobhnbcpdaaWQPut
import Derived.Test.YtapbfobhnbcpdaaWApart
import Derived.Test.YtapbfobhnbcpdaaWArr
import Derived.Test.YtapbfobhnbcpdaaWZeros
import Derived.Test.YtapbfobhnbcpdaaWFoot
import Derived.Test.YtapbfobhnbcpdaaWKept
import Derived.Test.YtapbfobhnbcpdaaWShare
import Derived.Test.YtapbfobhnbcpdaaWN
import Derived.Test.YtapbfobhnbcpdaaWFootNe
import Derived.Test.YtapbfobhnbcpdaaWAt
import Derived.Test.YtapbfobhnbcpdaaWEqStruct
import Derived.Test.YtapbfobhnbcpdaaWRepsOne
import Derived.Test.YtapbfobhnbcpdaaWInv
import Derived.Test.YtapbfobhnbcpdaaWInvWords
import Derived.Test.YtapbfobhnbcpdaaWGuard
import Derived.Test.YtapbfobhnbcpdaaWNEv
import Derived.Test.YtapbfobhnbcpdaaWMore
namespace Go.Proofs.Ytapbfobhnbcpdaa.PFnExactSameTangle
open Go.RowKit Go.Proofs.YtapbfobhnbcpdaaW.PrintWords Go.Proofs.YtapbfobhnbcpdaaW.PrintLast Go.Proofs.YtapbfobhnbcpdaaW.PrintMore
attribute [local go_sem] max2_int min2_int max_two min_two max_three min_three max_four min_four   -- for this text's walks alone
set_option linter.unusedVariables false
set_option linter.unusedSimpArgs false



def errW : Option Int → Value
  | none => .nilIface
  | some c => .iface 0 (.int .i64 c)
theorem errW_none : errW none = .nilIface := rfl
theorem errW_some (c : Int) : errW (some c) = .iface 0 (.int .i64 c) := rfl

theorem info9 : (Try.prog.info? 9).map (fun i => (i.zero, i.size, i.bytes)) = some (some (.string ⟨#[]⟩), 1, 16) := by kernel_rfl
-- the values' own types

end Go.Proofs.Ytapbfobhnbcpdaa.PFnExactSameTangle
