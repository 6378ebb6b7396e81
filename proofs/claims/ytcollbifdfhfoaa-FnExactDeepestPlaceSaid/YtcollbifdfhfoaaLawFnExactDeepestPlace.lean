/- The row of the law laws_FnExactDeepestPlace out of its pure statement and the walk. -/
import Derived.Test.YtcollbifdfhfoaaRows
import Derived.Test.YtcollbifdfhfoaaPFnExactDeepestPlacex2
import Derived.Test.YtcollbifdfhfoaaPureFnExactDeepestPlace
import Derived.Test.YtcollbifdfhfoaaOpen
import Derived.Test.YtcollbifdfhfoaaBayOpen
import Derived.Test.YtcollbifdfhfoaaHead
import Derived.WalkKit
import Derived.ProofKit
import Derived.OpenShut
import Derived.ShutString
import Derived.ChangeOld
import Derived.Below
import Derived.SizedLaws
namespace Go.Proofs.Ytcollbifdfhfoaa.fnExactDeepestPlace
open Go.ChangeShapes Go.WideShapes Go.ChangeAt Go.RowKit Go.Proofs.YtcollbifdfhfoaaW.PrintWords Go.Proofs.Ytcollbifdfhfoaa.Open Go.Proofs.Ytcollbifdfhfoaa.PFnExactDeepestPlace
open Go.ChangeMaps (open_string shut_string)
theorem own : ownKnob Try.prog.godebug = none := by kernel_rfl
theorem laidOut : laidOutB Try.prog = true := by kernel_rfl
set_option maxRecDepth 100000 in
theorem lifted (os : Os) (started : os.Started) (H : Type) (enc : TypeId × Value → H) :
    ReturnsInHanded {} Try.checked os 6 .any (Rows.fnExactDeepestPlaceSpec.pre6 enc Try.prog Try.f6 Rows.fnExactDeepestPlaceRow.domain false) (Rows.fnExactDeepestPlaceSpec.post enc Try.prog Try.f6 false true false false) := by
  refine returnsInHanded_of_change_sized (C := Try.checked) own started (by kernel_rfl) Try.func6
    (ChangeSpec.witness6 (enc := enc) (C := Try.checked) false ⟨#[], #[.agg (Bay.csBay 0 0 fun _ => 0)], []⟩ 8 (by kernel_rfl) (by kernel_rfl) (by kernel_rfl) (by kernel_rfl)) ?_
  intro W base args ds gs before hval0 hW hcnd _ _
  have hval : ∀ (j : Nat) t v, Try.f6.params[j]? = some t → args[j]? = some v → Value.okWide Try.prog W .any base t v := hval0
  have hW' := hW
  obtain ⟨p, q, hA0, hV, rfl, hfz, hnd⟩ := hW
  have hA : DataW.TrodAll enc Try.prog W 0 (fun _ => true) true Try.f6.params.toList args.toList ds p := hA0
  rw [Try.params6] at hA hval
  obtain ⟨v0, vs0, d0, ds0, p0, q0, hargs, rfl, rfl, h0, r0⟩ := trodAll_cons hA
  obtain ⟨rfl, rfl, rfl⟩ := trodAll_nil r0
  obtain rfl : args = #[v0] := by cases args; simp_all
  obtain ⟨rfl, rfl⟩ := trodVars_none hV
  have k0 := h0
  have lt0 : ∀ x ∈ p0, x.block < W.heap.size := by obtain ⟨m, hm⟩ := k0; exact DataW.trod_lt m _ _ _ hm
  obtain ⟨cs0, rfl, hz0, a0_0, a0_1, a0_2, e0, w0_0, w0_1, w0_2⟩ := agg_opens Try.underlying26 BayOpen.openBay (hval 0 26 v0 rfl rfl) h0
  obtain rfl : cs0 = Bay.csBay a0_0 a0_1 a0_2 := Array.toList_inj.1 e0
  clear hA0 hval0
  obtain ⟨k, hk⟩ := Pure.FnExactDeepestPlace a0_0 a0_1 a0_2 w0_0 w0_1 w0_2
  refine (laws_FnExactDeepestPlace.calls k a0_0 a0_1 a0_2 true W  hk).mono fun e W' ⟨he, bel⟩ => ?_
  subst he
  exact ⟨_, rfl, _, _, _, [], _, [], hW', trodAll_mk1 (shut_bool Try.underlying4 _), (trodAll_cons_mk (Below.trod laidOut (by kernel_rfl) (of_decide_eq_true (by kernel_rfl)) k0 bel lt0) trodAll_mk0), rfl, bel.frame _, fun h => by cases h⟩
theorem closed : joinedFacts Try.pinned.checked.prog 6 Try.f6 Rows.fnExactDeepestPlaceSpec Rows.fnExactDeepestPlaceRow = true := by
  unfold joinedFacts
  repeat' (with_reducible refine Head.and_mk ?_ ?_)
  · kernel_rfl
  · kernel_rfl
  · kernel_rfl
  · kernel_rfl
  · kernel_rfl
  · kernel_rfl
  · kernel_rfl
  · kernel_rfl
  · kernel_rfl
  · kernel_rfl
  · kernel_rfl
  · kernel_rfl
  · kernel_rfl
  · kernel_rfl
  · kernel_rfl
  · kernel_rfl
  · kernel_rfl
  · kernel_rfl
  · kernel_rfl
  · kernel_rfl
  · kernel_rfl
  · kernel_rfl
  · kernel_rfl
  · kernel_rfl
  · kernel_rfl
  · exact Head.mayEnter
  · rw [Head.liftsFinal]; kernel_rfl
  · rw [Head.make]; kernel_rfl
  · kernel_rfl
  · kernel_rfl
  · kernel_rfl
  · kernel_rfl
theorem over : Rows.fnExactDeepestPlaceRow.holds Try.pinned (OpenSpec.ofChange Rows.fnExactDeepestPlaceSpec) :=
  OpenClaim.holds_of_wide 6 Try.f6 rfl rfl rfl rfl rfl rfl rfl ⟨rfl, rfl, rfl, rfl, rfl⟩ rfl rfl rfl rfl rfl (by kernel_rfl) Try.func6 closed
    (of_decide_eq_true (by kernel_rfl)) (by unfold Func.isWrapper; first | (rw [if_pos (by decide +kernel)]; kernel_rfl) | (rw [if_neg (by decide +kernel)]; exact ⟨rfl, rfl⟩))
    (fun os started H enc _ => lifted os started H enc)
theorem proved : Rows.FnExactDeepestPlaceSaid := over
#print axioms proved
end Go.Proofs.Ytcollbifdfhfoaa.fnExactDeepestPlace
namespace Go.Proofs.Ytcollbifdfhfoaa
/-- The row, under a short name, for the claim. -/
theorem fnExactDeepestPlace_holds : Rows.FnExactDeepestPlaceSaid := fnExactDeepestPlace.proved
end Go.Proofs.Ytcollbifdfhfoaa
