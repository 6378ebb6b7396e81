-- Written by a program out of this seat's translation (functions, and that the code comes to them).
import Derived.Test.YteffdjfiialdfaaDoorProg
import Derived.Laws.EntriesVeiled
import Derived.Lib.SliceRun
import Derived.Below
import Derived.Deep.Draws
import Derived.Deep.AppendLies
import Derived.Maps.AppendAt
import Derived.OwnWalk
import Derived.Laws.BytesArg
import Derived.Laws.MakeOwn
import Derived.Laws.OwnMore
import Derived.Deep.OwnRows
import Derived.Tactics
import Derived.Lib.ConvBytes
import Derived.Laws.Slices
import Derived.WalkKit
import Derived.KernelRfl
import Derived.RowKit3
import Derived.Deep.LoopGhost
import Derived.Deep.QuietTactic
import Derived.BigQuiet
import Derived.WideLaws
import Derived.Deep.DeepCutAuto
import Derived.Deep.CutBlock
import Derived.Deep.RegionHeld3
import Derived.Laws.Rows
import Derived.Lib.AppendStr
import Derived.ArgAppend
import Derived.Laws.IdiomCopy
import Derived.OrdersHeld
import Derived.Laws.BitsLemmas
import Derived.RowKit
import Derived.Test.YteffdjfiialdfaaDoorShelf
import Derived.Test.YteffdjfiialdfaaDoorLines
import Derived.Test.YteffdjfiialdfaaDoorBayWhole
import Derived.Test.YteffdjfiialdfaaDoorBaySet
import Derived.Test.YteffdjfiialdfaaDoorBayEq
import Derived.Test.YteffdjfiialdfaaDoorWWords
import Derived.Test.YteffdjfiialdfaaDoorWLast
import Derived.Test.YteffdjfiialdfaaDoorWTab
import Derived.Test.YteffdjfiialdfaaDoorWFour
import Derived.Test.YteffdjfiialdfaaDoorWQPut
import Derived.Test.YteffdjfiialdfaaDoorWApart
import Derived.Test.YteffdjfiialdfaaDoorWArr
import Derived.Test.YteffdjfiialdfaaDoorWZeros
import Derived.Test.YteffdjfiialdfaaDoorWFoot
import Derived.Test.YteffdjfiialdfaaDoorWKept
import Derived.Test.YteffdjfiialdfaaDoorWShare
import Derived.Test.YteffdjfiialdfaaDoorWN
import Derived.Test.YteffdjfiialdfaaDoorWFootNe
import Derived.Test.YteffdjfiialdfaaDoorWAt
import Derived.Test.YteffdjfiialdfaaDoorWEqStruct
import Derived.Test.YteffdjfiialdfaaDoorWRepsOne
import Derived.Test.YteffdjfiialdfaaDoorWInv
import Derived.Test.YteffdjfiialdfaaDoorWInvWords
import Derived.Test.YteffdjfiialdfaaDoorWGuard
import Derived.Test.YteffdjfiialdfaaDoorWNEv
import Derived.Test.YteffdjfiialdfaaDoorWMore
namespace Go.Proofs.YteffdjfiialdfaaDoor.PFnExactReadBay
open Go.RowKit Go.Proofs.YteffdjfiialdfaaDoorW.PrintWords Go.Proofs.YteffdjfiialdfaaDoorW.PrintLast Go.Proofs.YteffdjfiialdfaaDoorW.PrintMore
attribute [local go_sem] max2_int min2_int max_two min_two max_three min_three max_four min_four   -- for this text's walks alone
open Go.Proofs.YteffdjfiialdfaaDoor.Bay
attribute [local go_sem ↓] lv26_eq al26_eq bd26_eq lv28_eq al28_eq bd28_eq
attribute [local go_sem] lvv_set lvv_drewN lvv_drew lv26_run BayAt26_set BayAt26_drewN BayAt26_drew al26_run bd26_run0 bd26_run1 bd26_run2 lv28_run BayAt28_set BayAt28_drewN BayAt28_drew al28_run bd28_run0 bd28_run1 bd28_run2
set_option linter.unusedVariables false
set_option linter.unusedSimpArgs false



def errW : Option Int → Value
  | none => .nilIface
  | some c => .iface 0 (.int .i64 c)
theorem errW_none : errW none = .nilIface := rfl
theorem errW_some (c : Int) : errW (some c) = .iface 0 (.int .i64 c) := rfl

theorem info2 : (Tryd.prog.info? 2).map (fun i => (i.zero, i.size, i.bytes)) = some (some (.int .i64 0), 1, 8) := by kernel_rfl
theorem info9 : (Tryd.prog.info? 9).map (fun i => (i.zero, i.size, i.bytes)) = some (some (.string ⟨#[]⟩), 1, 16) := by kernel_rfl
-- the values' own types

end Go.Proofs.YteffdjfiialdfaaDoor.PFnExactReadBay
