/- The row of the law laws_FnExactCurrentAt out of its pure statement and the walk. -/
import Derived.Test.YtlompodcakghjaaRows
import Derived.Test.YtlompodcakghjaaPFnExactCurrentAtx6
import Derived.Test.YtlompodcakghjaaPureFnExactCurrentAt
import Derived.Test.YtlompodcakghjaaOpen
import Derived.WalkKit
import Derived.ProofKit
import Derived.OpenShut
import Derived.ShutString
import Derived.ChangeOld
import Derived.Below
import Derived.SizedLaws
namespace Go.Proofs.Ytlompodcakghjaa.fnExactCurrentAt
open Go.ChangeShapes Go.WideShapes Go.ChangeAt Go.RowKit Go.Proofs.YtlompodcakghjaaW.PrintWords Go.Proofs.Ytlompodcakghjaa.Open Go.Proofs.Ytlompodcakghjaa.PFnExactCurrentAt
open Go.ChangeMaps (open_string shut_string)
theorem own : ownKnob Try.prog.godebug = none := by kernel_rfl
theorem laidOut : laidOutB Try.prog = true := by kernel_rfl
theorem opens46 : Opens Try.prog 46 (fun cs => ∃ n0 : Int, cs = [.int .i16 n0] ∧ (Lit.int .i16 n0).wf = true) := opens_int Try.underlying46
theorem opens47 : Opens Try.prog 47 (fun cs => ∃ n0 : Int, cs = [.int .i8 n0] ∧ (Lit.int .i8 n0).wf = true) := opens_int Try.underlying47
def R51 : Nat → List Value → Prop
  | 0, cs => ∃ n0 : Int, cs = [.int .i16 n0] ∧ (Lit.int .i16 n0).wf = true
  | 1, cs => ∃ n0 : Int, cs = [.int .i8 n0] ∧ (Lit.int .i8 n0).wf = true
  | _, _ => True
theorem opens51 : Opens Try.prog 51 (fun cs => ∃ n0 n1 : Int, cs = [.int .i16 n0, .int .i8 n1] ∧ (Lit.int .i16 n0).wf = true ∧ (Lit.int .i8 n1).wf = true) := by
  refine (opens_struct (R := R51) Try.underlying51 ?_).mono ?_
  · intro i f hi
    match i, hi with
    | 0, hi => cases hi; exact opens46
    | 1, hi => cases hi; exact opens47
  · intro cs ⟨hl, hf⟩
    have c46 : Try.prog.cellsOf 46 = 1 := by kernel_rfl
    have c47 : Try.prog.cellsOf 47 = 1 := by kernel_rfl
    have c51 : Try.prog.cellsOf 51 = 2 := by kernel_rfl
    rw [c51] at hl
    match cs, hl with
    | [c_0, c_1], _ =>
      obtain ⟨n0, h0, w0⟩ := hf 0 _ rfl
      simp [c46] at h0
      subst h0
      obtain ⟨n1, h1, w1⟩ := hf 1 _ rfl
      simp [c47] at h1
      subst h1
      exact ⟨n0, n1, rfl, w0, w1⟩
set_option maxRecDepth 100000 in
theorem lifted (os : Os) (started : os.Started) (H : Type) (enc : TypeId × Value → H) :
    ReturnsInHanded {} Try.checked os 6 .any (Rows.fnExactCurrentAtSpec.pre6 enc Try.prog Try.f6 Rows.fnExactCurrentAtRow.domain false) (Rows.fnExactCurrentAtSpec.post enc Try.prog Try.f6 false true false false) := by
  refine returnsInHanded_of_change_sized (C := Try.checked) own started (by kernel_rfl) Try.func6
    (ChangeSpec.witness6 (enc := enc) (C := Try.checked) false ⟨#[], #[.slice none 0 0, .int .i64 0], []⟩ 8 (by kernel_rfl) (by kernel_rfl) (by kernel_rfl) (by kernel_rfl)) ?_
  intro W base args ds gs before hval0 hW hcnd _ _
  have hval : ∀ (j : Nat) t v, Try.f6.params[j]? = some t → args[j]? = some v → Value.okWide Try.prog W .any base t v := hval0
  have hW' := hW
  obtain ⟨p, q, hA0, hV, rfl, hfz, hnd⟩ := hW
  have hA : DataW.TrodAll enc Try.prog W 0 (fun _ => true) true Try.f6.params.toList args.toList ds p := hA0
  rw [Try.params6] at hA hval
  obtain ⟨v0, vs0, d0, ds0, p0, q0, hargs, rfl, rfl, h0, r0⟩ := trodAll_cons hA
  obtain ⟨v1, vs1, d1, ds1, p1, q1, rfl, rfl, rfl, h1, r1⟩ := trodAll_cons r0
  obtain ⟨rfl, rfl, rfl⟩ := trodAll_nil r1
  obtain rfl : args = #[v0, v1] := by cases args; simp_all
  obtain ⟨rfl, rfl⟩ := trodVars_none hV
  have k0 := h0
  have lt0 : ∀ x ∈ p0, x.block < W.heap.size := by obtain ⟨m, hm⟩ := k0; exact DataW.trod_lt m _ _ _ hm
  obtain ⟨A0, c0, l0, rfl, hr0, hc0, g0⟩ := slice_opens (d := k51) (G := fun x => (Lit.int .i16 x.f0).wf = true ∧ (Lit.int .i8 x.f1).wf = true) Try.underlying22 opens51 (by kernel_rfl) (by
    rintro cs ⟨n0, n1, rfl, w0, w1⟩
    exact ⟨⟨n0, n1⟩, ⟨w0, w1⟩, fun w => k51_mk w ⟨n0, n1⟩⟩) (hval 0 22 v0 rfl rfl) h0
  obtain ⟨a1, rfl, rfl, rfl, w1⟩ := open_int Try.underlying2 (hval 1 2 v1 rfl rfl) h1
  clear hA0 hval0
  obtain ⟨k, hk⟩ := Pure.FnExactCurrentAt l0 a1 hr0.2.1 g0 w1
  refine (laws_FnExactCurrentAt.calls k A0 c0 l0 a1 true W hr0 hc0 hk).mono fun e W' ⟨he, bel⟩ => ?_
  subst he
  exact ⟨_, rfl, _, _, _, [], _, [], hW', trodAll_mk1 (shut_bool Try.underlying4 _), (trodAll_cons_mk (Below.trod laidOut (by kernel_rfl) (of_decide_eq_true (by kernel_rfl)) k0 bel lt0) (trodAll_cons_mk (shut_int Try.underlying2 w1) trodAll_mk0)), rfl, bel.frame _, fun h => by cases h⟩
theorem over : Rows.fnExactCurrentAtRow.holds Try.pinned (OpenSpec.ofChange Rows.fnExactCurrentAtSpec) :=
  OpenClaim.holds_of_wide 6 Try.f6 rfl rfl rfl rfl rfl rfl rfl ⟨rfl, rfl, rfl, rfl, rfl⟩ rfl rfl rfl rfl rfl (by kernel_rfl) Try.func6 (by kernel_rfl)
    (of_decide_eq_true (by kernel_rfl)) (by unfold Func.isWrapper; first | (rw [if_pos (by decide +kernel)]; kernel_rfl) | (rw [if_neg (by decide +kernel)]; exact ⟨rfl, rfl⟩))
    (fun os started H enc _ => lifted os started H enc)
theorem proved : Rows.FnExactCurrentAtSaid := over
#print axioms proved
end Go.Proofs.Ytlompodcakghjaa.fnExactCurrentAt
namespace Go.Proofs.Ytlompodcakghjaa
/-- The row, under a short name, for the claim. -/
theorem fnExactCurrentAt_holds : Rows.FnExactCurrentAtSaid := fnExactCurrentAt.proved
end Go.Proofs.Ytlompodcakghjaa
