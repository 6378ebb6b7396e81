/- The row of the law laws_FnExactAllAfloat out of its pure statement and the walk. -/
import Derived.Test.YtcollbifdfhfoaaRows
import Derived.Test.YtcollbifdfhfoaaPFnExactAllAfloatx13
import Derived.Test.YtcollbifdfhfoaaPureFnExactAllAfloat
import Derived.Test.YtcollbifdfhfoaaVOpen
import Derived.Test.YtcollbifdfhfoaaVBayOpen
import Derived.Test.YtcollbifdfhfoaaHead
import Derived.WalkKit
import Derived.ProofKit
import Derived.OpenShut
import Derived.ShutString
import Derived.ChangeOld
import Derived.Below
import Derived.SizedLaws
namespace Go.Proofs.Ytcollbifdfhfoaa.fnExactAllAfloat
open Go.ChangeShapes Go.WideShapes Go.ChangeAt Go.RowKit Go.Proofs.YtcollbifdfhfoaaW.PrintWords Go.Proofs.Ytcollbifdfhfoaa.Open Go.Proofs.Ytcollbifdfhfoaa.PFnExactAllAfloat
open Go.ChangeMaps (open_string shut_string)
theorem own : ownKnob Try.prog.godebug = none := by kernel_rfl
theorem laidOut : laidOutB Try.prog = true := by kernel_rfl
theorem len6 {cs : List Value} (h : cs.length = 6) : ∃ c_0 c_1 c_2 c_3 c_4 c_5, cs = [c_0, c_1, c_2, c_3, c_4, c_5] := by
  match cs, h with
  | [c_0, c_1, c_2, c_3, c_4, c_5], _ => exact ⟨c_0, c_1, c_2, c_3, c_4, c_5, rfl⟩
theorem len2 {cs : List Value} (h : cs.length = 2) : ∃ c_0 c_1, cs = [c_0, c_1] := by
  match cs, h with
  | [c_0, c_1], _ => exact ⟨c_0, c_1, rfl⟩
theorem opens22 : Opens Try.prog 22 (fun cs => ∃ n0 : Int, cs = [.int .i8 n0] ∧ (Lit.int .i8 n0).wf = true) := opens_int Try.underlying22
def R32 : Nat → List Value → Prop
  | 0, cs => ∃ n0 : Int, cs = [.int .i8 n0] ∧ (Lit.int .i8 n0).wf = true
  | 1, cs => ∃ n0 : Int, cs = [.int .i8 n0] ∧ (Lit.int .i8 n0).wf = true
  | _, _ => True
theorem opens32 : Opens Try.prog 32 (fun cs => ∃ n0 n1 : Int, cs = [.int .i8 n0, .int .i8 n1] ∧ (Lit.int .i8 n0).wf = true ∧ (Lit.int .i8 n1).wf = true) := by
  refine (opens_struct (R := R32) Try.underlying32 ?_).mono ?_
  · intro i f hi
    match i, hi with
    | 0, hi => cases hi; exact opens22
    | 1, hi => cases hi; exact opens22
  · intro cs ⟨hl, hf⟩
    have c22 : Try.prog.cellsOf 22 = 1 := by kernel_rfl
    have c32 : Try.prog.cellsOf 32 = 2 := by kernel_rfl
    rw [c32] at hl
    obtain ⟨c_0, c_1, rfl⟩ := len2 hl
    · skip
      obtain ⟨n0, h0, w0⟩ := hf 0 _ rfl
      simp [c22] at h0
      subst h0
      obtain ⟨n1, h1, w1⟩ := hf 1 _ rfl
      simp [c22] at h1
      subst h1
      exact ⟨n0, n1, rfl, w0, w1⟩
def R34 : Nat → List Value → Prop
  | 0, cs => ∃ n0 n1 : Int, cs = [.int .i8 n0, .int .i8 n1] ∧ (Lit.int .i8 n0).wf = true ∧ (Lit.int .i8 n1).wf = true
  | 1, cs => ∃ n0 : Int, cs = [.int .i8 n0] ∧ (Lit.int .i8 n0).wf = true
  | 2, cs => ∃ n0 : Int, cs = [.int .i8 n0] ∧ (Lit.int .i8 n0).wf = true
  | 3, cs => ∃ n0 : Int, cs = [.int .i8 n0] ∧ (Lit.int .i8 n0).wf = true
  | 4, cs => ∃ n0 : Int, cs = [.int .i8 n0] ∧ (Lit.int .i8 n0).wf = true
  | _, _ => True
theorem opens34 : Opens Try.prog 34 (fun cs => ∃ n0 n1 n2 n3 n4 n5 : Int, cs = [.int .i8 n0, .int .i8 n1, .int .i8 n2, .int .i8 n3, .int .i8 n4, .int .i8 n5] ∧ (Lit.int .i8 n0).wf = true ∧ (Lit.int .i8 n1).wf = true ∧ (Lit.int .i8 n2).wf = true ∧ (Lit.int .i8 n3).wf = true ∧ (Lit.int .i8 n4).wf = true ∧ (Lit.int .i8 n5).wf = true) := by
  refine (opens_struct (R := R34) Try.underlying34 ?_).mono ?_
  · intro i f hi
    match i, hi with
    | 0, hi => cases hi; exact opens32
    | 1, hi => cases hi; exact opens22
    | 2, hi => cases hi; exact opens22
    | 3, hi => cases hi; exact opens22
    | 4, hi => cases hi; exact opens22
  · intro cs ⟨hl, hf⟩
    have c22 : Try.prog.cellsOf 22 = 1 := by kernel_rfl
    have c32 : Try.prog.cellsOf 32 = 2 := by kernel_rfl
    have c34 : Try.prog.cellsOf 34 = 6 := by kernel_rfl
    rw [c34] at hl
    obtain ⟨c_0, c_1, c_2, c_3, c_4, c_5, rfl⟩ := len6 hl
    · skip
      obtain ⟨n0, n1, h0, w0, w1⟩ := hf 0 _ rfl
      simp [c32] at h0
      obtain ⟨rfl, rfl⟩ := h0
      obtain ⟨n2, h1, w2⟩ := hf 1 _ rfl
      simp [c22] at h1
      subst h1
      obtain ⟨n3, h2, w3⟩ := hf 2 _ rfl
      simp [c22] at h2
      subst h2
      obtain ⟨n4, h3, w4⟩ := hf 3 _ rfl
      simp [c22] at h3
      subst h3
      obtain ⟨n5, h4, w5⟩ := hf 4 _ rfl
      simp [c22] at h4
      subst h4
      exact ⟨n0, n1, n2, n3, n4, n5, rfl, w0, w1, w2, w3, w4, w5⟩
theorem opens101 : Opens Try.prog 101 (fun cs => ∃ n0 : Int, cs = [.int .i16 n0] ∧ (Lit.int .i16 n0).wf = true) := opens_int Try.underlying101
def R145 : Nat → List Value → Prop
  | 0, cs => ∃ n0 : Int, cs = [.int .i16 n0] ∧ (Lit.int .i16 n0).wf = true
  | 1, cs => ∃ n0 : Int, cs = [.int .i8 n0] ∧ (Lit.int .i8 n0).wf = true
  | _, _ => True
theorem opens145 : Opens Try.prog 145 (fun cs => ∃ n0 n1 : Int, cs = [.int .i16 n0, .int .i8 n1] ∧ (Lit.int .i16 n0).wf = true ∧ (Lit.int .i8 n1).wf = true) := by
  refine (opens_struct (R := R145) Try.underlying145 ?_).mono ?_
  · intro i f hi
    match i, hi with
    | 0, hi => cases hi; exact opens101
    | 1, hi => cases hi; exact opens22
  · intro cs ⟨hl, hf⟩
    have c22 : Try.prog.cellsOf 22 = 1 := by kernel_rfl
    have c101 : Try.prog.cellsOf 101 = 1 := by kernel_rfl
    have c145 : Try.prog.cellsOf 145 = 2 := by kernel_rfl
    rw [c145] at hl
    obtain ⟨c_0, c_1, rfl⟩ := len2 hl
    · skip
      obtain ⟨n0, h0, w0⟩ := hf 0 _ rfl
      simp [c101] at h0
      subst h0
      obtain ⟨n1, h1, w1⟩ := hf 1 _ rfl
      simp [c22] at h1
      subst h1
      exact ⟨n0, n1, rfl, w0, w1⟩
set_option maxRecDepth 100000 in
theorem lifted (os : Os) (started : os.Started) (H : Type) (enc : TypeId × Value → H) :
    ReturnsInHanded {} Try.checked os 23 .any (Rows.fnExactAllAfloatSpec.pre6 enc Try.prog Try.f23 Rows.fnExactAllAfloatRow.domain false) (Rows.fnExactAllAfloatSpec.post enc Try.prog Try.f23 false true false false) := by
  refine returnsInHanded_of_change_sized (C := Try.checked) own started (by kernel_rfl) Try.func23
    (ChangeSpec.witness6 (enc := enc) (C := Try.checked) false ⟨#[], #[.agg (Bay.csBay 0 0 fun _ => 0), .slice none 0 0, .slice none 0 0], []⟩ 8 (by kernel_rfl) (by kernel_rfl) (by kernel_rfl) (by kernel_rfl)) ?_
  intro W base args ds gs before hval0 hW hcnd _ _
  have hval : ∀ (j : Nat) t v, Try.f23.params[j]? = some t → args[j]? = some v → Value.okWide Try.prog W .any base t v := hval0
  have hW' := hW
  obtain ⟨p, q, hA0, hV, rfl, hfz, hnd⟩ := hW
  have hA : DataW.TrodAll enc Try.prog W 0 (fun _ => true) true Try.f23.params.toList args.toList ds p := hA0
  rw [Try.params23] at hA hval
  obtain ⟨v0, vs0, d0, ds0, p0, q0, hargs, rfl, rfl, h0, r0⟩ := trodAll_cons hA
  obtain ⟨v1, vs1, d1, ds1, p1, q1, rfl, rfl, rfl, h1, r1⟩ := trodAll_cons r0
  obtain ⟨v2, vs2, d2, ds2, p2, q2, rfl, rfl, rfl, h2, r2⟩ := trodAll_cons r1
  obtain ⟨rfl, rfl, rfl⟩ := trodAll_nil r2
  obtain rfl : args = #[v0, v1, v2] := by cases args; simp_all
  obtain ⟨rfl, rfl⟩ := trodVars_none hV
  have k0 := h0
  have lt0 : ∀ x ∈ p0, x.block < W.heap.size := by obtain ⟨m, hm⟩ := k0; exact DataW.trod_lt m _ _ _ hm
  obtain ⟨cs0, rfl, hz0, a0_0, a0_1, a0_2, e0, w0_0, w0_1, w0_2⟩ := agg_opens Try.underlying26 BayOpen.openBay (hval 0 26 v0 rfl rfl) h0
  obtain rfl : cs0 = Bay.csBay a0_0 a0_1 a0_2 := Array.toList_inj.1 e0
  have k1 := h1
  have lt1 : ∀ x ∈ p1, x.block < W.heap.size := by obtain ⟨m, hm⟩ := k1; exact DataW.trod_lt m _ _ _ hm
  obtain ⟨A1, c1, l1, rfl, hr1, hc1, g1⟩ := slice_opens (d := k34) (G := fun x => (Lit.int .i8 x.f0.f0).wf = true ∧ (Lit.int .i8 x.f0.f1).wf = true ∧ (Lit.int .i8 x.f1).wf = true ∧ (Lit.int .i8 x.f2).wf = true ∧ (Lit.int .i8 x.f3).wf = true ∧ (Lit.int .i8 x.f4).wf = true) Try.underlying41 opens34 (by kernel_rfl) (by
    rintro cs ⟨n0, n1, n2, n3, n4, n5, rfl, w0, w1, w2, w3, w4, w5⟩
    exact ⟨⟨⟨n0, n1⟩, n2, n3, n4, n5⟩, ⟨w0, w1, w2, w3, w4, w5⟩, fun w => k34_mk w ⟨⟨n0, n1⟩, n2, n3, n4, n5⟩⟩) (hval 1 41 v1 rfl rfl) h1
  have k2 := h2
  have lt2 : ∀ x ∈ p2, x.block < W.heap.size := by obtain ⟨m, hm⟩ := k2; exact DataW.trod_lt m _ _ _ hm
  obtain ⟨A2, c2, l2, rfl, hr2, hc2, g2⟩ := slice_opens (d := k145) (G := fun x => (Lit.int .i16 x.f0).wf = true ∧ (Lit.int .i8 x.f1).wf = true) Try.underlying86 opens145 (by kernel_rfl) (by
    rintro cs ⟨n0, n1, rfl, w0, w1⟩
    exact ⟨⟨n0, n1⟩, ⟨w0, w1⟩, fun w => k145_mk w ⟨n0, n1⟩⟩) (hval 2 86 v2 rfl rfl) h2
  clear hA0 hval0
  obtain ⟨k, hk⟩ := Pure.FnExactAllAfloat a0_0 a0_1 a0_2 l1 l2 w0_0 w0_1 w0_2 hr1.2.1 g1 hr2.2.1 g2
  refine (laws_FnExactAllAfloat.calls k a0_0 a0_1 a0_2 A1 c1 l1 A2 c2 l2 true W hr1 hc1 hr2 hc2 hk).mono fun e W' ⟨he, bel⟩ => ?_
  subst he
  exact ⟨_, rfl, _, _, _, [], _, [], hW', trodAll_mk1 (shut_bool Try.underlying4 _), (trodAll_cons_mk (Below.trod laidOut (by kernel_rfl) (of_decide_eq_true (by kernel_rfl)) k0 bel lt0) (trodAll_cons_mk (Below.trod laidOut (by kernel_rfl) (of_decide_eq_true (by kernel_rfl)) k1 bel lt1) (trodAll_cons_mk (Below.trod laidOut (by kernel_rfl) (of_decide_eq_true (by kernel_rfl)) k2 bel lt2) trodAll_mk0))), rfl, bel.frame _, fun h => by cases h⟩
theorem closed : joinedFacts Try.pinned.checked.prog 23 Try.f23 Rows.fnExactAllAfloatSpec Rows.fnExactAllAfloatRow = true := by
  unfold joinedFacts
  repeat' (with_reducible refine Head.and_mk ?_ ?_)
  · kernel_rfl
  · kernel_rfl
  · kernel_rfl
  · kernel_rfl
  · kernel_rfl
  · kernel_rfl
  · kernel_rfl
  · kernel_rfl
  · kernel_rfl
  · kernel_rfl
  · kernel_rfl
  · kernel_rfl
  · kernel_rfl
  · kernel_rfl
  · kernel_rfl
  · kernel_rfl
  · kernel_rfl
  · kernel_rfl
  · kernel_rfl
  · kernel_rfl
  · kernel_rfl
  · kernel_rfl
  · kernel_rfl
  · kernel_rfl
  · kernel_rfl
  · exact Head.mayEnter
  · rw [Head.liftsFinal]; kernel_rfl
  · rw [Head.make]; kernel_rfl
  · kernel_rfl
  · kernel_rfl
  · kernel_rfl
  · kernel_rfl
theorem over : Rows.fnExactAllAfloatRow.holds Try.pinned (OpenSpec.ofChange Rows.fnExactAllAfloatSpec) :=
  OpenClaim.holds_of_wide 23 Try.f23 rfl rfl rfl rfl rfl rfl rfl ⟨rfl, rfl, rfl, rfl, rfl⟩ rfl rfl rfl rfl rfl (by kernel_rfl) Try.func23 closed
    (of_decide_eq_true (by kernel_rfl)) (by unfold Func.isWrapper; first | (rw [if_pos (by decide +kernel)]; kernel_rfl) | (rw [if_neg (by decide +kernel)]; exact ⟨rfl, rfl⟩))
    (fun os started H enc _ => lifted os started H enc)
theorem proved : Rows.FnExactAllAfloatSaid := over
#print axioms proved
end Go.Proofs.Ytcollbifdfhfoaa.fnExactAllAfloat
namespace Go.Proofs.Ytcollbifdfhfoaa
/-- The row, under a short name, for the claim. -/
theorem fnExactAllAfloat_holds : Rows.FnExactAllAfloatSaid := fnExactAllAfloat.proved
end Go.Proofs.Ytcollbifdfhfoaa
