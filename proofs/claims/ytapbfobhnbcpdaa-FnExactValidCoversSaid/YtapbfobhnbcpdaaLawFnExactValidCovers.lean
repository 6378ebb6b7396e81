/- The row of the law laws_FnExactValidCovers out of its pure statement and the walk. -/
import Derived.Test.YtapbfobhnbcpdaaRows
import Derived.Test.YtapbfobhnbcpdaaPFnExactValidCoversx5
import Derived.Test.YtapbfobhnbcpdaaPureFnExactValidCovers
import Derived.Test.YtapbfobhnbcpdaaOpen
import Derived.WalkKit
import Derived.ProofKit
import Derived.OpenShut
import Derived.ShutString
import Derived.ChangeOld
import Derived.Below
import Derived.SizedLaws
namespace Go.Proofs.Ytapbfobhnbcpdaa.fnExactValidCovers
open Go.ChangeShapes Go.WideShapes Go.ChangeAt Go.RowKit Go.Proofs.YtapbfobhnbcpdaaW.PrintWords Go.Proofs.Ytapbfobhnbcpdaa.Open Go.Proofs.Ytapbfobhnbcpdaa.PFnExactValidCovers
open Go.ChangeMaps (open_string shut_string)
theorem own : ownKnob Try.prog.godebug = none := by kernel_rfl
theorem laidOut : laidOutB Try.prog = true := by kernel_rfl
theorem opens48 : Opens Try.prog 48 (fun cs => ∃ n0 : Int, cs = [.int .i8 n0] ∧ (Lit.int .i8 n0).wf = true) := opens_int Try.underlying48
def R52 : Nat → List Value → Prop
  | 0, cs => ∃ n0 : Int, cs = [.int .i8 n0] ∧ (Lit.int .i8 n0).wf = true
  | 1, cs => ∃ n0 : Int, cs = [.int .i8 n0] ∧ (Lit.int .i8 n0).wf = true
  | _, _ => True
theorem opens52 : Opens Try.prog 52 (fun cs => ∃ n0 n1 : Int, cs = [.int .i8 n0, .int .i8 n1] ∧ (Lit.int .i8 n0).wf = true ∧ (Lit.int .i8 n1).wf = true) := by
  refine (opens_struct (R := R52) Try.underlying52 ?_).mono ?_
  · intro i f hi
    match i, hi with
    | 0, hi => cases hi; exact opens48
    | 1, hi => cases hi; exact opens48
  · intro cs ⟨hl, hf⟩
    have c48 : Try.prog.cellsOf 48 = 1 := by kernel_rfl
    have c52 : Try.prog.cellsOf 52 = 2 := by kernel_rfl
    rw [c52] at hl
    match cs, hl with
    | [c_0, c_1], _ =>
      obtain ⟨n0, h0, w0⟩ := hf 0 _ rfl
      simp [c48] at h0
      subst h0
      obtain ⟨n1, h1, w1⟩ := hf 1 _ rfl
      simp [c48] at h1
      subst h1
      exact ⟨n0, n1, rfl, w0, w1⟩
set_option maxRecDepth 100000 in
theorem lifted (os : Os) (started : os.Started) (H : Type) (enc : TypeId × Value → H) :
    ReturnsInHanded {} Try.checked os 7 .any (Rows.fnExactValidCoversSpec.pre6 enc Try.prog Try.f7 Rows.fnExactValidCoversRow.domain false) (Rows.fnExactValidCoversSpec.post enc Try.prog Try.f7 false true false false) := by
  refine returnsInHanded_of_change_sized (C := Try.checked) own started (by kernel_rfl) Try.func7
    (ChangeSpec.witness6 (enc := enc) (C := Try.checked) false ⟨#[], #[.int .i64 0, .slice none 0 0], []⟩ 8 (by kernel_rfl) (by kernel_rfl) (by kernel_rfl) (by kernel_rfl)) ?_
  intro W base args ds gs before hval0 hW hcnd _ _
  have hval : ∀ (j : Nat) t v, Try.f7.params[j]? = some t → args[j]? = some v → Value.okWide Try.prog W .any base t v := hval0
  have hW' := hW
  obtain ⟨p, q, hA0, hV, rfl, hfz, hnd⟩ := hW
  have hA : DataW.TrodAll enc Try.prog W 0 (fun _ => true) true Try.f7.params.toList args.toList ds p := hA0
  rw [Try.params7] at hA hval
  obtain ⟨v0, vs0, d0, ds0, p0, q0, hargs, rfl, rfl, h0, r0⟩ := trodAll_cons hA
  obtain ⟨v1, vs1, d1, ds1, p1, q1, rfl, rfl, rfl, h1, r1⟩ := trodAll_cons r0
  obtain ⟨rfl, rfl, rfl⟩ := trodAll_nil r1
  obtain rfl : args = #[v0, v1] := by cases args; simp_all
  obtain ⟨rfl, rfl⟩ := trodVars_none hV
  obtain ⟨a0, rfl, rfl, rfl, w0⟩ := open_int Try.underlying2 (hval 0 2 v0 rfl rfl) h0
  have k1 := h1
  have lt1 : ∀ x ∈ p1, x.block < W.heap.size := by obtain ⟨m, hm⟩ := k1; exact DataW.trod_lt m _ _ _ hm
  obtain ⟨A1, c1, l1, rfl, hr1, hc1, g1⟩ := slice_opens (d := k52) (G := fun x => (Lit.int .i8 x.f0).wf = true ∧ (Lit.int .i8 x.f1).wf = true) Try.underlying28 opens52 (by kernel_rfl) (by
    rintro cs ⟨n0, n1, rfl, w0, w1⟩
    exact ⟨⟨n0, n1⟩, ⟨w0, w1⟩, fun w => k52_mk w ⟨n0, n1⟩⟩) (hval 1 28 v1 rfl rfl) h1
  clear hA0 hval0
  obtain ⟨k, hk⟩ := Pure.FnExactValidCovers a0 l1 w0 hr1.2.1 g1
  refine (laws_FnExactValidCovers.calls k a0 A1 c1 l1 true W hr1 hc1 hk).mono fun e W' ⟨he, bel⟩ => ?_
  subst he
  exact ⟨_, rfl, _, _, _, [], _, [], hW', trodAll_mk1 (shut_bool Try.underlying4 _), (trodAll_cons_mk (shut_int Try.underlying2 w0) (trodAll_cons_mk (Below.trod laidOut (by kernel_rfl) (of_decide_eq_true (by kernel_rfl)) k1 bel lt1) trodAll_mk0)), rfl, bel.frame _, fun h => by cases h⟩
theorem over : Rows.fnExactValidCoversRow.holds Try.pinned (OpenSpec.ofChange Rows.fnExactValidCoversSpec) :=
  OpenClaim.holds_of_wide 7 Try.f7 rfl rfl rfl rfl rfl rfl rfl ⟨rfl, rfl, rfl, rfl, rfl⟩ rfl rfl rfl rfl rfl (by kernel_rfl) Try.func7 (by kernel_rfl)
    (of_decide_eq_true (by kernel_rfl)) (by unfold Func.isWrapper; first | (rw [if_pos (by decide +kernel)]; kernel_rfl) | (rw [if_neg (by decide +kernel)]; exact ⟨rfl, rfl⟩))
    (fun os started H enc _ => lifted os started H enc)
theorem proved : Rows.FnExactValidCoversSaid := over
#print axioms proved
end Go.Proofs.Ytapbfobhnbcpdaa.fnExactValidCovers
namespace Go.Proofs.Ytapbfobhnbcpdaa
/-- The row, under a short name, for the claim. -/
theorem fnExactValidCovers_holds : Rows.FnExactValidCoversSaid := fnExactValidCovers.proved
end Go.Proofs.Ytapbfobhnbcpdaa
