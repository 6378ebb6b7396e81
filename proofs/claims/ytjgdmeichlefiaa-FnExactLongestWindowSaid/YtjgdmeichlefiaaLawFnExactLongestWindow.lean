/- The row of the law laws_FnExactLongestWindow out of its pure statement and the walk. -/
import Derived.Test.YtjgdmeichlefiaaRows
import Derived.Test.YtjgdmeichlefiaaPFnExactLongestWindowx8
import Derived.Test.YtjgdmeichlefiaaPureFnExactLongestWindow
import Derived.Test.YtjgdmeichlefiaaOpen
import Derived.WalkKit
import Derived.ProofKit
import Derived.OpenShut
import Derived.ShutString
import Derived.ChangeOld
import Derived.Below
import Derived.SizedLaws
namespace Go.Proofs.Ytjgdmeichlefiaa.fnExactLongestWindow
open Go.ChangeShapes Go.WideShapes Go.ChangeAt Go.RowKit Go.Proofs.YtjgdmeichlefiaaW.PrintWords Go.Proofs.Ytjgdmeichlefiaa.Open Go.Proofs.Ytjgdmeichlefiaa.PFnExactLongestWindow
open Go.ChangeMaps (open_string shut_string)
theorem own : ownKnob Try.prog.godebug = none := by kernel_rfl
theorem laidOut : laidOutB Try.prog = true := by kernel_rfl
theorem len2 {cs : List Value} (h : cs.length = 2) : ∃ c_0 c_1, cs = [c_0, c_1] := by
  match cs, h with
  | [c_0, c_1], _ => exact ⟨c_0, c_1, rfl⟩
theorem opens40 : Opens Try.prog 40 (fun cs => ∃ n0 : Int, cs = [.int .i16 n0] ∧ (Lit.int .i16 n0).wf = true) := opens_int Try.underlying40
theorem opens41 : Opens Try.prog 41 (fun cs => ∃ n0 : Int, cs = [.int .i8 n0] ∧ (Lit.int .i8 n0).wf = true) := opens_int Try.underlying41
def R45 : Nat → List Value → Prop
  | 0, cs => ∃ n0 : Int, cs = [.int .i16 n0] ∧ (Lit.int .i16 n0).wf = true
  | 1, cs => ∃ n0 : Int, cs = [.int .i8 n0] ∧ (Lit.int .i8 n0).wf = true
  | _, _ => True
theorem opens45 : Opens Try.prog 45 (fun cs => ∃ n0 n1 : Int, cs = [.int .i16 n0, .int .i8 n1] ∧ (Lit.int .i16 n0).wf = true ∧ (Lit.int .i8 n1).wf = true) := by
  refine (opens_struct (R := R45) Try.underlying45 ?_).mono ?_
  · intro i f hi
    match i, hi with
    | 0, hi => cases hi; exact opens40
    | 1, hi => cases hi; exact opens41
  · intro cs ⟨hl, hf⟩
    have c40 : Try.prog.cellsOf 40 = 1 := by kernel_rfl
    have c41 : Try.prog.cellsOf 41 = 1 := by kernel_rfl
    have c45 : Try.prog.cellsOf 45 = 2 := by kernel_rfl
    rw [c45] at hl
    obtain ⟨c_0, c_1, rfl⟩ := len2 hl
    · skip
      obtain ⟨n0, h0, w0⟩ := hf 0 _ rfl
      simp [c40] at h0
      subst h0
      obtain ⟨n1, h1, w1⟩ := hf 1 _ rfl
      simp [c41] at h1
      subst h1
      exact ⟨n0, n1, rfl, w0, w1⟩
set_option maxRecDepth 100000 in
theorem lifted (os : Os) (started : os.Started) (H : Type) (enc : TypeId × Value → H) :
    ReturnsInHanded {} Try.checked os 3 .any (Rows.fnExactLongestWindowSpec.pre6 enc Try.prog Try.f3 Rows.fnExactLongestWindowRow.domain false) (Rows.fnExactLongestWindowSpec.post enc Try.prog Try.f3 false true false false) := by
  refine returnsInHanded_of_change_sized (C := Try.checked) own started (by kernel_rfl) Try.func3
    (ChangeSpec.witness6 (enc := enc) (C := Try.checked) false ⟨#[], #[.slice none 0 0, .int .i64 0], []⟩ 8 (by kernel_rfl) (by kernel_rfl) (by kernel_rfl) (by kernel_rfl)) ?_
  intro W base args ds gs before hval0 hW hcnd _ _
  have hval : ∀ (j : Nat) t v, Try.f3.params[j]? = some t → args[j]? = some v → Value.okWide Try.prog W .any base t v := hval0
  have hW' := hW
  obtain ⟨p, q, hA0, hV, rfl, hfz, hnd⟩ := hW
  have hA : DataW.TrodAll enc Try.prog W 0 (fun _ => true) true Try.f3.params.toList args.toList ds p := hA0
  rw [Try.params3] at hA hval
  obtain ⟨v0, vs0, d0, ds0, p0, q0, hargs, rfl, rfl, h0, r0⟩ := trodAll_cons hA
  obtain ⟨v1, vs1, d1, ds1, p1, q1, rfl, rfl, rfl, h1, r1⟩ := trodAll_cons r0
  obtain ⟨rfl, rfl, rfl⟩ := trodAll_nil r1
  obtain rfl : args = #[v0, v1] := by cases args; simp_all
  obtain ⟨rfl, rfl⟩ := trodVars_none hV
  have k0 := h0
  have lt0 : ∀ x ∈ p0, x.block < W.heap.size := by obtain ⟨m, hm⟩ := k0; exact DataW.trod_lt m _ _ _ hm
  obtain ⟨A0, c0, l0, rfl, hr0, hc0, g0⟩ := slice_opens (d := k45) (G := fun x => (Lit.int .i16 x.f0).wf = true ∧ (Lit.int .i8 x.f1).wf = true) Try.underlying22 opens45 (by kernel_rfl) (by
    rintro cs ⟨n0, n1, rfl, w0, w1⟩
    exact ⟨⟨n0, n1⟩, ⟨w0, w1⟩, fun w => k45_mk w ⟨n0, n1⟩⟩) (hval 0 22 v0 rfl rfl) h0
  obtain ⟨a1, rfl, rfl, rfl, w1⟩ := open_int Try.underlying2 (hval 1 2 v1 rfl rfl) h1
  clear hA0 hval0
  obtain ⟨k, hk⟩ := Pure.FnExactLongestWindow l0 a1 hr0.2.1 g0 w1
  refine (laws_FnExactLongestWindow.calls k A0 c0 l0 a1 true W hr0 hc0 hk).mono fun e W' ⟨he, bel⟩ => ?_
  subst he
  exact ⟨_, rfl, _, _, _, [], _, [], hW', trodAll_mk1 (shut_bool Try.underlying4 _), (trodAll_cons_mk (Below.trod laidOut (by kernel_rfl) (of_decide_eq_true (by kernel_rfl)) k0 bel lt0) (trodAll_cons_mk (shut_int Try.underlying2 w1) trodAll_mk0)), rfl, bel.frame _, fun h => by cases h⟩
theorem over : Rows.fnExactLongestWindowRow.holds Try.pinned (OpenSpec.ofChange Rows.fnExactLongestWindowSpec) :=
  OpenClaim.holds_of_wide 3 Try.f3 rfl rfl rfl rfl rfl rfl rfl ⟨rfl, rfl, rfl, rfl, rfl⟩ rfl rfl rfl rfl rfl (by kernel_rfl) Try.func3 (by kernel_rfl)
    (of_decide_eq_true (by kernel_rfl)) (by unfold Func.isWrapper; first | (rw [if_pos (by decide +kernel)]; kernel_rfl) | (rw [if_neg (by decide +kernel)]; exact ⟨rfl, rfl⟩))
    (fun os started H enc _ => lifted os started H enc)
theorem proved : Rows.FnExactLongestWindowSaid := over
#print axioms proved
end Go.Proofs.Ytjgdmeichlefiaa.fnExactLongestWindow
namespace Go.Proofs.Ytjgdmeichlefiaa
/-- The row, under a short name, for the claim. -/
theorem fnExactLongestWindow_holds : Rows.FnExactLongestWindowSaid := fnExactLongestWindow.proved
end Go.Proofs.Ytjgdmeichlefiaa
