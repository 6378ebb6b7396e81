-- Written by a program out of this seat's translation (functions, and that the code comes to them).
import Derived.Test.YtmdcndpnbljpfaaProg
import Derived.Laws.EntriesVeiled
import Derived.Lib.SliceRun
import Derived.Below
import Derived.Deep.Draws
import Derived.Deep.AppendLies
import Derived.Maps.AppendAt
import Derived.OwnWalk
import Derived.Laws.BytesArg
import Derived.Laws.MakeOwn
import Derived.Laws.OwnMore
import Derived.Deep.OwnRows
import Derived.Tactics
import Derived.Lib.ConvBytes
import Derived.Laws.Slices
import Derived.WalkKit
import Derived.KernelRfl
import Derived.RowKit3
import Derived.Deep.LoopGhost
import Derived.Deep.QuietTactic
import Derived.BigQuiet
import Derived.WideLaws
import Derived.Deep.DeepCutAuto
import Derived.Deep.CutBlock
import Derived.Deep.RegionHeld3
import Derived.Laws.Rows
import Derived.Lib.AppendStr
import Derived.ArgAppend
import Derived.Laws.IdiomCopy
import Derived.OrdersHeld
import Derived.Laws.BitsLemmas
import Derived.RowKit
import Derived.Test.YtmdcndpnbljpfaaShelf
import Derived.Test.YtmdcndpnbljpfaaWWords
import Derived.Test.YtmdcndpnbljpfaaWLast
import Derived.Test.YtmdcndpnbljpfaaWTab
import Derived.Test.YtmdcndpnbljpfaaWFour
import Derived.Test.YtmdcndpnbljpfaaWQPut
import Derived.Test.YtmdcndpnbljpfaaWApart
import Derived.Test.YtmdcndpnbljpfaaWArr
import Derived.Test.YtmdcndpnbljpfaaWZeros
import Derived.Test.YtmdcndpnbljpfaaWFoot
import Derived.Test.YtmdcndpnbljpfaaWKept
import Derived.Test.YtmdcndpnbljpfaaWShare
import Derived.Test.YtmdcndpnbljpfaaWN
import Derived.Test.YtmdcndpnbljpfaaWFootNe
import Derived.Test.YtmdcndpnbljpfaaWAt
import Derived.Test.YtmdcndpnbljpfaaWEqStruct
import Derived.Test.YtmdcndpnbljpfaaWRepsOne
import Derived.Test.YtmdcndpnbljpfaaWInv
import Derived.Test.YtmdcndpnbljpfaaWInvWords
import Derived.Test.YtmdcndpnbljpfaaWGuard
import Derived.Test.YtmdcndpnbljpfaaWNEv
import Derived.Test.YtmdcndpnbljpfaaWMore
namespace Go.Proofs.Ytmdcndpnbljpfaa.PFnExactUndoWord
open Go.RowKit Go.Proofs.YtmdcndpnbljpfaaW.PrintWords Go.Proofs.YtmdcndpnbljpfaaW.PrintLast Go.Proofs.YtmdcndpnbljpfaaW.PrintMore
attribute [local go_sem] max2_int min2_int max_two min_two max_three min_three max_four min_four   -- for this text's walks alone
set_option linter.unusedVariables false
set_option linter.unusedSimpArgs false



def errW : Option Int → Value
  | none => .nilIface
  | some c => .iface 0 (.int .i64 c)
theorem errW_none : errW none = .nilIface := rfl
theorem errW_some (c : Int) : errW (some c) = .iface 0 (.int .i64 c) := rfl

theorem info9 : (Try.prog.info? 9).map (fun i => (i.zero, i.size, i.bytes)) = some (some (.string ⟨#[]⟩), 1, 16) := by kernel_rfl
-- the values' own types

end Go.Proofs.Ytmdcndpnbljpfaa.PFnExactUndoWord
