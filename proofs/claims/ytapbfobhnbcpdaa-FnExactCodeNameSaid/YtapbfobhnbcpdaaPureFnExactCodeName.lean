/- CodeName of the program answers what the reference's answers, for every number. Conditions: none. -/
import Derived.Test.YtapbfobhnbcpdaaPFnExactCodeNamex1
namespace Go.Proofs.Ytapbfobhnbcpdaa.Pure
open Go.RowKit Go.Proofs.Ytapbfobhnbcpdaa.PFnExactCodeName Go.Proofs.YtapbfobhnbcpdaaW.PrintWords Go.Proofs.YtapbfobhnbcpdaaW.PrintLast

theorem FnExactCodeName : laws_FnExactCodeName.Pure := by
  intro a h
  clear h
  unfold laws_FnExactCodeName.f spec_CodeName.f impl_CodeName.f spec_l00In.f
  simp only [Option.bind_some, List.length_cons, List.length_nil]
  by_cases h0 : a < 0
  · have h1 : ¬ (a ≥ 0) := by omega
    simp [h0, h1]
  · have h1 : a ≥ 0 := by omega
    by_cases h8 : a ≤ 8
    · have h9 : a < 9 := by omega
      have h10 : ¬ (9 ≤ a) := by omega
      simp [h0, h1, h8, h9, h10]
    · have h10 : 9 ≤ a := by omega
      simp [h0, h1, h8, h10]

end Go.Proofs.Ytapbfobhnbcpdaa.Pure
