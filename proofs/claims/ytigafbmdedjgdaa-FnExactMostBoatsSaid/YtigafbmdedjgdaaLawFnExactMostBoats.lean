/- The row of the law laws_FnExactMostBoats out of its pure statement and the walk. -/
import Derived.Test.YtigafbmdedjgdaaRows
import Derived.Test.YtigafbmdedjgdaaPFnExactMostBoatsx14
import Derived.Test.YtigafbmdedjgdaaPureFnExactMostBoats
import Derived.Test.YtigafbmdedjgdaaVOpen
import Derived.Test.YtigafbmdedjgdaaVBayOpen
import Derived.WalkKit
import Derived.ProofKit
import Derived.OpenShut
import Derived.ShutString
import Derived.ChangeOld
import Derived.Below
import Derived.SizedLaws
namespace Go.Proofs.Ytigafbmdedjgdaa.fnExactMostBoats
open Go.ChangeShapes Go.WideShapes Go.ChangeAt Go.RowKit Go.Proofs.YtigafbmdedjgdaaW.PrintWords Go.Proofs.Ytigafbmdedjgdaa.Open Go.Proofs.Ytigafbmdedjgdaa.PFnExactMostBoats
open Go.ChangeMaps (open_string shut_string)
theorem own : ownKnob Try.prog.godebug = none := by kernel_rfl
theorem laidOut : laidOutB Try.prog = true := by kernel_rfl
theorem len6 {cs : List Value} (h : cs.length = 6) : ∃ c_0 c_1 c_2 c_3 c_4 c_5, cs = [c_0, c_1, c_2, c_3, c_4, c_5] := by
  match cs, h with
  | [c_0, c_1, c_2, c_3, c_4, c_5], _ => exact ⟨c_0, c_1, c_2, c_3, c_4, c_5, rfl⟩
theorem len2 {cs : List Value} (h : cs.length = 2) : ∃ c_0 c_1, cs = [c_0, c_1] := by
  match cs, h with
  | [c_0, c_1], _ => exact ⟨c_0, c_1, rfl⟩
theorem opens22 : Opens Try.prog 22 (fun cs => ∃ n0 : Int, cs = [.int .i8 n0] ∧ (Lit.int .i8 n0).wf = true) := opens_int Try.underlying22
def R50 : Nat → List Value → Prop
  | 0, cs => ∃ n0 : Int, cs = [.int .i8 n0] ∧ (Lit.int .i8 n0).wf = true
  | 1, cs => ∃ n0 : Int, cs = [.int .i8 n0] ∧ (Lit.int .i8 n0).wf = true
  | _, _ => True
theorem opens50 : Opens Try.prog 50 (fun cs => ∃ n0 n1 : Int, cs = [.int .i8 n0, .int .i8 n1] ∧ (Lit.int .i8 n0).wf = true ∧ (Lit.int .i8 n1).wf = true) := by
  refine (opens_struct (R := R50) Try.underlying50 ?_).mono ?_
  · intro i f hi
    match i, hi with
    | 0, hi => cases hi; exact opens22
    | 1, hi => cases hi; exact opens22
  · intro cs ⟨hl, hf⟩
    have c22 : Try.prog.cellsOf 22 = 1 := by kernel_rfl
    have c50 : Try.prog.cellsOf 50 = 2 := by kernel_rfl
    rw [c50] at hl
    obtain ⟨c_0, c_1, rfl⟩ := len2 hl
    · skip
      obtain ⟨n0, h0, w0⟩ := hf 0 _ rfl
      simp [c22] at h0
      subst h0
      obtain ⟨n1, h1, w1⟩ := hf 1 _ rfl
      simp [c22] at h1
      subst h1
      exact ⟨n0, n1, rfl, w0, w1⟩
def R52 : Nat → List Value → Prop
  | 0, cs => ∃ n0 n1 : Int, cs = [.int .i8 n0, .int .i8 n1] ∧ (Lit.int .i8 n0).wf = true ∧ (Lit.int .i8 n1).wf = true
  | 1, cs => ∃ n0 : Int, cs = [.int .i8 n0] ∧ (Lit.int .i8 n0).wf = true
  | 2, cs => ∃ n0 : Int, cs = [.int .i8 n0] ∧ (Lit.int .i8 n0).wf = true
  | 3, cs => ∃ n0 : Int, cs = [.int .i8 n0] ∧ (Lit.int .i8 n0).wf = true
  | 4, cs => ∃ n0 : Int, cs = [.int .i8 n0] ∧ (Lit.int .i8 n0).wf = true
  | _, _ => True
theorem opens52 : Opens Try.prog 52 (fun cs => ∃ n0 n1 n2 n3 n4 n5 : Int, cs = [.int .i8 n0, .int .i8 n1, .int .i8 n2, .int .i8 n3, .int .i8 n4, .int .i8 n5] ∧ (Lit.int .i8 n0).wf = true ∧ (Lit.int .i8 n1).wf = true ∧ (Lit.int .i8 n2).wf = true ∧ (Lit.int .i8 n3).wf = true ∧ (Lit.int .i8 n4).wf = true ∧ (Lit.int .i8 n5).wf = true) := by
  refine (opens_struct (R := R52) Try.underlying52 ?_).mono ?_
  · intro i f hi
    match i, hi with
    | 0, hi => cases hi; exact opens50
    | 1, hi => cases hi; exact opens22
    | 2, hi => cases hi; exact opens22
    | 3, hi => cases hi; exact opens22
    | 4, hi => cases hi; exact opens22
  · intro cs ⟨hl, hf⟩
    have c22 : Try.prog.cellsOf 22 = 1 := by kernel_rfl
    have c50 : Try.prog.cellsOf 50 = 2 := by kernel_rfl
    have c52 : Try.prog.cellsOf 52 = 6 := by kernel_rfl
    rw [c52] at hl
    obtain ⟨c_0, c_1, c_2, c_3, c_4, c_5, rfl⟩ := len6 hl
    · skip
      obtain ⟨n0, n1, h0, w0, w1⟩ := hf 0 _ rfl
      simp [c50] at h0
      obtain ⟨rfl, rfl⟩ := h0
      obtain ⟨n2, h1, w2⟩ := hf 1 _ rfl
      simp [c22] at h1
      subst h1
      obtain ⟨n3, h2, w3⟩ := hf 2 _ rfl
      simp [c22] at h2
      subst h2
      obtain ⟨n4, h3, w4⟩ := hf 3 _ rfl
      simp [c22] at h3
      subst h3
      obtain ⟨n5, h4, w5⟩ := hf 4 _ rfl
      simp [c22] at h4
      subst h4
      exact ⟨n0, n1, n2, n3, n4, n5, rfl, w0, w1, w2, w3, w4, w5⟩
set_option maxRecDepth 100000 in
theorem lifted (os : Os) (started : os.Started) (H : Type) (enc : TypeId × Value → H) :
    ReturnsInHanded {} Try.checked os 3 .any (Rows.fnExactMostBoatsSpec.pre6 enc Try.prog Try.f3 Rows.fnExactMostBoatsRow.domain false) (Rows.fnExactMostBoatsSpec.post enc Try.prog Try.f3 false true false false) := by
  refine returnsInHanded_of_change_sized (C := Try.checked) own started (by kernel_rfl) Try.func3
    (ChangeSpec.witness6 (enc := enc) (C := Try.checked) false ⟨#[], #[.agg (Bay.csBay 0 0 fun _ => 0), .slice none 0 0], []⟩ 8 (by kernel_rfl) (by kernel_rfl) (by kernel_rfl) (by kernel_rfl)) ?_
  intro W base args ds gs before hval0 hW hcnd _ _
  have hval : ∀ (j : Nat) t v, Try.f3.params[j]? = some t → args[j]? = some v → Value.okWide Try.prog W .any base t v := hval0
  have hW' := hW
  obtain ⟨p, q, hA0, hV, rfl, hfz, hnd⟩ := hW
  have hA : DataW.TrodAll enc Try.prog W 0 (fun _ => true) true Try.f3.params.toList args.toList ds p := hA0
  rw [Try.params3] at hA hval
  obtain ⟨v0, vs0, d0, ds0, p0, q0, hargs, rfl, rfl, h0, r0⟩ := trodAll_cons hA
  obtain ⟨v1, vs1, d1, ds1, p1, q1, rfl, rfl, rfl, h1, r1⟩ := trodAll_cons r0
  obtain ⟨rfl, rfl, rfl⟩ := trodAll_nil r1
  obtain rfl : args = #[v0, v1] := by cases args; simp_all
  obtain ⟨rfl, rfl⟩ := trodVars_none hV
  have k0 := h0
  have lt0 : ∀ x ∈ p0, x.block < W.heap.size := by obtain ⟨m, hm⟩ := k0; exact DataW.trod_lt m _ _ _ hm
  obtain ⟨cs0, rfl, hz0, a0_0, a0_1, a0_2, e0, w0_0, w0_1, w0_2⟩ := agg_opens Try.underlying26 BayOpen.openBay (hval 0 26 v0 rfl rfl) h0
  obtain rfl : cs0 = Bay.csBay a0_0 a0_1 a0_2 := Array.toList_inj.1 e0
  have k1 := h1
  have lt1 : ∀ x ∈ p1, x.block < W.heap.size := by obtain ⟨m, hm⟩ := k1; exact DataW.trod_lt m _ _ _ hm
  obtain ⟨A1, c1, l1, rfl, hr1, hc1, g1⟩ := slice_opens (d := k52) (G := fun x => (Lit.int .i8 x.f0.f0).wf = true ∧ (Lit.int .i8 x.f0.f1).wf = true ∧ (Lit.int .i8 x.f1).wf = true ∧ (Lit.int .i8 x.f2).wf = true ∧ (Lit.int .i8 x.f3).wf = true ∧ (Lit.int .i8 x.f4).wf = true) Try.underlying27 opens52 (by kernel_rfl) (by
    rintro cs ⟨n0, n1, n2, n3, n4, n5, rfl, w0, w1, w2, w3, w4, w5⟩
    exact ⟨⟨⟨n0, n1⟩, n2, n3, n4, n5⟩, ⟨w0, w1, w2, w3, w4, w5⟩, fun w => k52_mk w ⟨⟨n0, n1⟩, n2, n3, n4, n5⟩⟩) (hval 1 27 v1 rfl rfl) h1
  clear hA0 hval0
  obtain ⟨k, hk⟩ := Pure.FnExactMostBoats a0_0 a0_1 a0_2 l1 w0_0 w0_1 w0_2 hr1.2.1 g1
  refine (laws_FnExactMostBoats.calls k a0_0 a0_1 a0_2 A1 c1 l1 true W hr1 hc1 hk).mono fun e W' ⟨he, bel⟩ => ?_
  subst he
  exact ⟨_, rfl, _, _, _, [], _, [], hW', trodAll_mk1 (shut_bool Try.underlying4 _), (trodAll_cons_mk (Below.trod laidOut (by kernel_rfl) (of_decide_eq_true (by kernel_rfl)) k0 bel lt0) (trodAll_cons_mk (Below.trod laidOut (by kernel_rfl) (of_decide_eq_true (by kernel_rfl)) k1 bel lt1) trodAll_mk0)), rfl, bel.frame _, fun h => by cases h⟩
theorem over : Rows.fnExactMostBoatsRow.holds Try.pinned (OpenSpec.ofChange Rows.fnExactMostBoatsSpec) :=
  OpenClaim.holds_of_wide 3 Try.f3 rfl rfl rfl rfl rfl rfl rfl ⟨rfl, rfl, rfl, rfl, rfl⟩ rfl rfl rfl rfl rfl (by kernel_rfl) Try.func3 (by kernel_rfl)
    (of_decide_eq_true (by kernel_rfl)) (by unfold Func.isWrapper; first | (rw [if_pos (by decide +kernel)]; kernel_rfl) | (rw [if_neg (by decide +kernel)]; exact ⟨rfl, rfl⟩))
    (fun os started H enc _ => lifted os started H enc)
theorem proved : Rows.FnExactMostBoatsSaid := over
#print axioms proved
end Go.Proofs.Ytigafbmdedjgdaa.fnExactMostBoats
namespace Go.Proofs.Ytigafbmdedjgdaa
/-- The row, under a short name, for the claim. -/
theorem fnExactMostBoats_holds : Rows.FnExactMostBoatsSaid := fnExactMostBoats.proved
end Go.Proofs.Ytigafbmdedjgdaa
