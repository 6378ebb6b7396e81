/- The program's constants are the told ones. Conditions: none. -/
import Derived.Test.YtapbfobhnbcpdaaPFnExactConstantsx1
namespace Go.Proofs.Ytapbfobhnbcpdaa.Pure
open Go.RowKit Go.Proofs.Ytapbfobhnbcpdaa.PFnExactConstants Go.Proofs.YtapbfobhnbcpdaaW.PrintWords Go.Proofs.YtapbfobhnbcpdaaW.PrintLast

theorem FnExactConstants : laws_FnExactConstants.Pure := by
  unfold laws_FnExactConstants.Pure laws_FnExactConstants.f
  rfl

end Go.Proofs.Ytapbfobhnbcpdaa.Pure
