-- What a claim reaches of the words of the print, put together by a program (prunew.py).
import Derived.Test.YtcollbifdfhfoaaVTab
/-! ### 56. Four, five, six operations that may come up next, in any order -/
namespace Go.Proofs.YtcollbifdfhfoaaW.PrintLast
section
variable {P : Program} {ops : Array Oper} {Q : Exit → Act → World → Prop} {md : Region.Mode} {S : World → Prop} {ds : List Nat} {T : Bool × List (List Nat × List Nat)}
end
end Go.Proofs.YtcollbifdfhfoaaW.PrintLast
