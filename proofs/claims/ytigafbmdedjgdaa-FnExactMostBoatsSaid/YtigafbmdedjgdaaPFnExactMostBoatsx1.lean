-- Written by a program out of this seat's translation (functions, and that the code comes to them).
import Derived.Test.YtigafbmdedjgdaaPFnExactMostBoatsx0
namespace Go.Proofs.Ytigafbmdedjgdaa.PFnExactMostBoats
open Go.RowKit Go.Proofs.YtigafbmdedjgdaaW.PrintWords Go.Proofs.YtigafbmdedjgdaaW.PrintLast Go.Proofs.YtigafbmdedjgdaaW.PrintMore
attribute [local go_sem] max2_int min2_int max_two min_two max_three min_three max_four min_four   -- for this text's walks alone
open Go.Proofs.Ytigafbmdedjgdaa.Bay Go.Proofs.Ytigafbmdedjgdaa.Short
attribute [local go_sem ↓] lv26_eq lv32_eq
attribute [local go_sem] lvv_set lvv_drewN lvv_drew lv26_run BayAt26_set BayAt26_drewN BayAt26_drew lv32_run BayAt32_set BayAt32_drewN BayAt32_drew
set_option linter.unusedVariables false
set_option linter.unusedSimpArgs false

theorem eqA46 (d : Nat) (w : World) (x0 y0 : Int) (x1 y1 : Int) :
  (Op.equalIn (d + 2) 46 (.agg #[.int .i8 x0, .int .i8 x1]) (.agg #[.int .i8 y0, .int .i8 y1])).run Try.prog w = .ok (x0 == y0 && (x1 == y1)) w := by
 refine eqA_of Try.underlying46 (by kernel_rfl) ?_
 refine eqf_cons (by rfl) (by go_simp; rfl) (by go_simp; rfl) (by go_simp) ?_
 exact eqf_last (by rfl) (by go_simp; rfl) (by go_simp; rfl) (by go_simp)
end Go.Proofs.Ytigafbmdedjgdaa.PFnExactMostBoats
