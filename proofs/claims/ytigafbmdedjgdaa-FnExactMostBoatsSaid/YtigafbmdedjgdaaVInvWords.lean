-- What a claim reaches of the words of the print, put together by a program (prunew.py).
import Derived.Test.YtigafbmdedjgdaaVInv
import Derived.Test.YtigafbmdedjgdaaVFootNe
namespace Go.Proofs.YtigafbmdedjgdaaW.PrintWords
open Go.RowKit
end Go.Proofs.YtigafbmdedjgdaaW.PrintWords
namespace Go.Proofs.YtigafbmdedjgdaaW.PrintLast
section
variable {ops : Array Oper} {a : Act} {o og : Oper} {g : Nat} {t : Tmp} {u : Bool}
end
end Go.Proofs.YtigafbmdedjgdaaW.PrintLast
