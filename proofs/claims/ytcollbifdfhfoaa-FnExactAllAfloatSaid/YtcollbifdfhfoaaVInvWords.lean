-- What a claim reaches of the words of the print, put together by a program (prunew.py).
import Derived.Test.YtcollbifdfhfoaaVInv
import Derived.Test.YtcollbifdfhfoaaVFootNe
namespace Go.Proofs.YtcollbifdfhfoaaW.PrintWords
open Go.RowKit
end Go.Proofs.YtcollbifdfhfoaaW.PrintWords
namespace Go.Proofs.YtcollbifdfhfoaaW.PrintLast
section
variable {ops : Array Oper} {a : Act} {o og : Oper} {g : Nat} {t : Tmp} {u : Bool}
end
end Go.Proofs.YtcollbifdfhfoaaW.PrintLast
