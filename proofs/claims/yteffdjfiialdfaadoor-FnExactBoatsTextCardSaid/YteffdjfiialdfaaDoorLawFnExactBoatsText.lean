/- The row of the law laws_FnExactBoatsText out of its pure statement and the walk. -/
import Derived.Test.YteffdjfiialdfaaDoorRows
import Derived.Test.YteffdjfiialdfaaDoorPFnExactBoatsTextx6
import Derived.Test.YteffdjfiialdfaaDoorPureFnExactBoatsText
import Derived.Test.YteffdjfiialdfaaDoorOpen
import Derived.Test.YteffdjfiialdfaaDoorBayOpen
import Derived.WalkKit
import Derived.ProofKit
import Derived.OpenShut
import Derived.ShutString
import Derived.ChangeOld
import Derived.Below
import Derived.SizedLaws
import Derived.Lay
import Derived.LaidOnce
import Derived.SevenTiedAt
import Derived.MakeChecks
import Derived.Shelf.Vars
import Derived.Lib.LaidTab
import Derived.Handed
import Derived.Stop.LaidErr
import Derived.Test.YteffdjfiialdfaaDoorCards
import Derived.Test.YteffdjfiialdfaaDoorTie
namespace Go.Proofs.YteffdjfiialdfaaDoor.fnExactBoatsText
open Go.ChangeShapes Go.WideShapes Go.ChangeAt Go.RowKit Go.Proofs.YteffdjfiialdfaaDoorW.PrintWords Go.Proofs.YteffdjfiialdfaaDoor.Open Go.Proofs.YteffdjfiialdfaaDoor.PFnExactBoatsText
open Go.ChangeMaps (open_string shut_string)
theorem own : ownKnob Tryd.prog.godebug = none := by kernel_rfl
theorem laidOut : laidOutB Tryd.prog = true := by kernel_rfl
variable {H : Type} {enc : TypeId × Value → H}
theorem returnsShaped {a : Assume} {C : Checked} {os : Os} {f : FuncId} {fn : Func} {s : ChangeSpec} {conds : List PathCond} {apart fresh handsOn again : Bool} {X : World → Array Value → Prop}
    (hX : ∀ (w w' : World) (args : Array Value), w.heap = w'.heap → X w args → X w' args)
    (own : ownKnob C.prog.godebug = none) (started : os.Started) (noInit : C.prog.inits.idxOf? f = none) (hfn : C.prog.funcs[f]? = some fn)
    (witness : ∃ (w : World) (tape : Tape) (i : Input), w.os = os ∧ (w.forCall tape i).Shaped C.prog ∧ i.vars = [] ∧ Input.okWide C.prog (w.forCall tape i) .any w.heap.size f i ∧
      ((s.pre enc C.prog fn conds apart (w.forCall tape i).memory i.args ∧ X (w.forCall tape i).memory i.args) ∧ sizedMet enc C.prog fn (OpenSpec.ofChange s) apart (w.forCall tape i).memory i.args) ∧ a.holds C.prog (lone (Frame.enter C.prog f i.args .normal) [] (w.forCall tape i)))
    (contract : ∀ (W : World) (base : Nat) (args : Array Value) (ds gs : List (DataW H)) (before : List MemPlace),
      (∀ (j : Nat) t v, fn.params[j]? = some t → args[j]? = some v → Value.okWide C.prog W .any base t v) →
      DataW.Whole enc C.prog fn.params.toList s.vars apart W args.toList ds gs before →
      conds.all (PathCond.test C.prog ⟨fn.params.toList, ds, s.plain.varTypes C.prog, gs⟩) = true →
      (DataW.weightsEach C.prog (fn.params.toList ++ s.plain.varTypes C.prog) (ds ++ gs)).all (· ≤ reachBytes) = true → X W args → W.ShapedOpen C.prog →
      a.holds C.prog (lone (Frame.enter C.prog f args .normal) [] W) →
      Calls C.prog f args W fun e W' => ∃ v, e = .returned v ∧ s.post enc C.prog fn apart fresh handsOn again W args v W') :
    ReturnsInHanded a C os f .any (fun w args => (s.pre enc C.prog fn conds apart w args ∧ X w args) ∧ sizedMet enc C.prog fn (OpenSpec.ofChange s) apart w args) (s.post enc C.prog fn apart fresh handsOn again) := by
  refine returnsInHanded_of_calls own started noInit witness ?_
  intro w tape i _ hsh _ hok hpre hholds
  obtain ⟨_, _, _, fn', hfn', _, _, _, _, hval⟩ := hok
  have e : fn' = fn := Option.some.inj (hfn'.symm.trans hfn)
  subst e
  obtain ⟨⟨⟨ds, gs, before, hw, hc⟩, hx⟩, hz⟩ := hpre
  have hw' := DataW.Whole.of_heap (w' := w.forCall tape i) (by rfl) hw
  refine (contract (w.forCall tape i) w.heap.size i.args ds gs before hval hw' hc (hz.weights hw) (hX _ _ _ (by rfl) hx) hsh hholds).mono fun e W' ⟨v, he, hp⟩ => ?_
  subst he
  exact ChangeSpec.post_blind hp
theorem tb_a {W : World} (hL : laidMetH Tryd.prog Rows.fnExactBoatsTextRow.laid W) : Go.Proofs.YteffdjfiialdfaaDoor.Shelf.TBa W := by
  rw [MakeChecks.laidMetH_plain _ _ _ (by kernel_rfl)] at hL
  have ed : (Rows.laid_internal_strconv_uint64pow10 : DataW Unit) = Go.Lib.tabData .u64 Go.Lib.pow10Tab := by kernel_rfl
  have hl : laidMet Tryd.prog (("internal/strconv.uint64pow10", Rows.laid_internal_strconv_uint64pow10) :: []) W := hL.tail.tail
  rw [ed] at hl
  exact Go.Lib.tabIs_of_head (g := 0) (t := 129) (e := 115) (n := 20) (by kernel_rfl) (by kernel_rfl) (by kernel_rfl) (by kernel_rfl) (by kernel_rfl) (by kernel_rfl) hl
theorem len6 {cs : List Value} (h : cs.length = 6) : ∃ c_0 c_1 c_2 c_3 c_4 c_5, cs = [c_0, c_1, c_2, c_3, c_4, c_5] := by
  match cs, h with
  | [c_0, c_1, c_2, c_3, c_4, c_5], _ => exact ⟨c_0, c_1, c_2, c_3, c_4, c_5, rfl⟩
theorem len2 {cs : List Value} (h : cs.length = 2) : ∃ c_0 c_1, cs = [c_0, c_1] := by
  match cs, h with
  | [c_0, c_1], _ => exact ⟨c_0, c_1, rfl⟩
theorem opens22 : Opens Tryd.prog 22 (fun cs => ∃ n0 : Int, cs = [.int .i8 n0] ∧ (Lit.int .i8 n0).wf = true) := opens_int Tryd.underlying22
def R61 : Nat → List Value → Prop
  | 0, cs => ∃ n0 : Int, cs = [.int .i8 n0] ∧ (Lit.int .i8 n0).wf = true
  | 1, cs => ∃ n0 : Int, cs = [.int .i8 n0] ∧ (Lit.int .i8 n0).wf = true
  | _, _ => True
theorem opens61 : Opens Tryd.prog 61 (fun cs => ∃ n0 n1 : Int, cs = [.int .i8 n0, .int .i8 n1] ∧ (Lit.int .i8 n0).wf = true ∧ (Lit.int .i8 n1).wf = true) := by
  refine (opens_struct (R := R61) Tryd.underlying61 ?_).mono ?_
  · intro i f hi
    match i, hi with
    | 0, hi => cases hi; exact opens22
    | 1, hi => cases hi; exact opens22
  · intro cs ⟨hl, hf⟩
    have c22 : Tryd.prog.cellsOf 22 = 1 := by kernel_rfl
    have c61 : Tryd.prog.cellsOf 61 = 2 := by kernel_rfl
    rw [c61] at hl
    obtain ⟨c_0, c_1, rfl⟩ := len2 hl
    · skip
      obtain ⟨n0, h0, w0⟩ := hf 0 _ rfl
      simp [c22] at h0
      subst h0
      obtain ⟨n1, h1, w1⟩ := hf 1 _ rfl
      simp [c22] at h1
      subst h1
      exact ⟨n0, n1, rfl, w0, w1⟩
def R63 : Nat → List Value → Prop
  | 0, cs => ∃ n0 n1 : Int, cs = [.int .i8 n0, .int .i8 n1] ∧ (Lit.int .i8 n0).wf = true ∧ (Lit.int .i8 n1).wf = true
  | 1, cs => ∃ n0 : Int, cs = [.int .i8 n0] ∧ (Lit.int .i8 n0).wf = true
  | 2, cs => ∃ n0 : Int, cs = [.int .i8 n0] ∧ (Lit.int .i8 n0).wf = true
  | 3, cs => ∃ n0 : Int, cs = [.int .i8 n0] ∧ (Lit.int .i8 n0).wf = true
  | 4, cs => ∃ n0 : Int, cs = [.int .i8 n0] ∧ (Lit.int .i8 n0).wf = true
  | _, _ => True
theorem opens63 : Opens Tryd.prog 63 (fun cs => ∃ n0 n1 n2 n3 n4 n5 : Int, cs = [.int .i8 n0, .int .i8 n1, .int .i8 n2, .int .i8 n3, .int .i8 n4, .int .i8 n5] ∧ (Lit.int .i8 n0).wf = true ∧ (Lit.int .i8 n1).wf = true ∧ (Lit.int .i8 n2).wf = true ∧ (Lit.int .i8 n3).wf = true ∧ (Lit.int .i8 n4).wf = true ∧ (Lit.int .i8 n5).wf = true) := by
  refine (opens_struct (R := R63) Tryd.underlying63 ?_).mono ?_
  · intro i f hi
    match i, hi with
    | 0, hi => cases hi; exact opens61
    | 1, hi => cases hi; exact opens22
    | 2, hi => cases hi; exact opens22
    | 3, hi => cases hi; exact opens22
    | 4, hi => cases hi; exact opens22
  · intro cs ⟨hl, hf⟩
    have c22 : Tryd.prog.cellsOf 22 = 1 := by kernel_rfl
    have c61 : Tryd.prog.cellsOf 61 = 2 := by kernel_rfl
    have c63 : Tryd.prog.cellsOf 63 = 6 := by kernel_rfl
    rw [c63] at hl
    obtain ⟨c_0, c_1, c_2, c_3, c_4, c_5, rfl⟩ := len6 hl
    · skip
      obtain ⟨n0, n1, h0, w0, w1⟩ := hf 0 _ rfl
      simp [c61] at h0
      obtain ⟨rfl, rfl⟩ := h0
      obtain ⟨n2, h1, w2⟩ := hf 1 _ rfl
      simp [c22] at h1
      subst h1
      obtain ⟨n3, h2, w3⟩ := hf 2 _ rfl
      simp [c22] at h2
      subst h2
      obtain ⟨n4, h3, w4⟩ := hf 3 _ rfl
      simp [c22] at h3
      subst h3
      obtain ⟨n5, h4, w5⟩ := hf 4 _ rfl
      simp [c22] at h4
      subst h4
      exact ⟨n0, n1, n2, n3, n4, n5, rfl, w0, w1, w2, w3, w4, w5⟩
set_option maxRecDepth 100000 in
theorem lifted (os : Os) (started : os.Started) (H : Type) (enc : TypeId × Value → H) :
    ReturnsInHanded {} Tryd.checked os 4 .any (fun w args => (Rows.fnExactBoatsTextSpec.pre enc Tryd.prog Tryd.f4 Rows.fnExactBoatsTextRow.domain false w args ∧ laidMetH Tryd.prog Rows.fnExactBoatsTextRow.laid w) ∧ sizedMet enc Tryd.prog Tryd.f4 (OpenSpec.ofChange Rows.fnExactBoatsTextSpec) false w args) (Rows.fnExactBoatsTextSpec.post enc Tryd.prog Tryd.f4 false true false false) := by
  refine returnsShaped (C := Tryd.checked) (X := (fun w _ => laidMetH Tryd.prog Rows.fnExactBoatsTextRow.laid w)) (fun _ _ _ hh h => h.of_heap hh) own started (by kernel_rfl) Tryd.func4
    (ChangeSpec.witness_shaped (enc := enc) (C := Tryd.checked) (os := os) (X := (fun w _ => laidMetH Tryd.prog Rows.fnExactBoatsTextRow.laid w)) false (World.laidAll Tryd.prog os Rows.fnExactBoatsTextRow.laid) #[.agg (Bay.csBay 0 0 fun _ => 0), .slice none 0 0] 8 (World.laidAll_os _ _ _)
      (World.shaped_of_ZipB (by kernel_rfl) (by kernel_rfl)) (by kernel_rfl) (by kernel_rfl) (by kernel_rfl)
      (by rw [MakeChecks.laidMetH_plain _ _ _ (by kernel_rfl)]; exact laidMet_laidAll _ (by kernel_rfl) (by kernel_rfl))) ?_
  intro W base args ds gs before hval0 hW hcnd _ hL hsh _
  have htba := tb_a hL
  have hval : ∀ (j : Nat) t v, Tryd.f4.params[j]? = some t → args[j]? = some v → Value.okWide Tryd.prog W .any base t v := hval0
  have hW' := hW
  obtain ⟨p, q, hA0, hV, rfl, hfz, hnd⟩ := hW
  have hA : DataW.TrodAll enc Tryd.prog W 0 (fun _ => true) true Tryd.f4.params.toList args.toList ds p := hA0
  rw [Tryd.params4] at hA hval
  obtain ⟨v0, vs0, d0, ds0, p0, q0, hargs, rfl, rfl, h0, r0⟩ := trodAll_cons hA
  obtain ⟨v1, vs1, d1, ds1, p1, q1, rfl, rfl, rfl, h1, r1⟩ := trodAll_cons r0
  obtain ⟨rfl, rfl, rfl⟩ := trodAll_nil r1
  obtain rfl : args = #[v0, v1] := by cases args; simp_all
  obtain ⟨rfl, rfl⟩ := trodVars_none hV
  have k0 := h0
  have lt0 : ∀ x ∈ p0, x.block < W.heap.size := by obtain ⟨m, hm⟩ := k0; exact DataW.trod_lt m _ _ _ hm
  obtain ⟨cs0, rfl, hz0, a0_0, a0_1, a0_2, e0, w0_0, w0_1, w0_2⟩ := agg_opens Tryd.underlying26 BayOpen.openBay (hval 0 26 v0 rfl rfl) h0
  obtain rfl : cs0 = Bay.csBay a0_0 a0_1 a0_2 := Array.toList_inj.1 e0
  have k1 := h1
  have lt1 : ∀ x ∈ p1, x.block < W.heap.size := by obtain ⟨m, hm⟩ := k1; exact DataW.trod_lt m _ _ _ hm
  obtain ⟨A1, c1, l1, rfl, hr1, hc1, g1⟩ := slice_opens (d := k63) (G := fun x => (Lit.int .i8 x.f0.f0).wf = true ∧ (Lit.int .i8 x.f0.f1).wf = true ∧ (Lit.int .i8 x.f1).wf = true ∧ (Lit.int .i8 x.f2).wf = true ∧ (Lit.int .i8 x.f3).wf = true ∧ (Lit.int .i8 x.f4).wf = true) Tryd.underlying31 opens63 (by kernel_rfl) (by
    rintro cs ⟨n0, n1, n2, n3, n4, n5, rfl, w0, w1, w2, w3, w4, w5⟩
    exact ⟨⟨⟨n0, n1⟩, n2, n3, n4, n5⟩, ⟨w0, w1, w2, w3, w4, w5⟩, fun w => k63_mk w ⟨⟨n0, n1⟩, n2, n3, n4, n5⟩⟩) (hval 1 31 v1 rfl rfl) h1
  clear hA0 hval0
  obtain ⟨k, hk⟩ := Pure.FnExactBoatsText a0_0 a0_1 a0_2 l1 w0_0 w0_1 w0_2 hr1.2.1 g1
  refine (laws_FnExactBoatsText.calls k a0_0 a0_1 a0_2 A1 c1 l1 true W hr1 hc1 hk htba).mono fun e W' ⟨he, bel⟩ => ?_
  subst he
  exact ⟨_, rfl, _, _, _, [], _, [], hW', trodAll_mk1 (shut_bool Tryd.underlying4 _), (trodAll_cons_mk (Below.trod laidOut (by kernel_rfl) (of_decide_eq_true (by kernel_rfl)) k0 bel lt0) (trodAll_cons_mk (Below.trod laidOut (by kernel_rfl) (of_decide_eq_true (by kernel_rfl)) k1 bel lt1) trodAll_mk0)), rfl, bel.frame _, fun h => by cases h⟩
theorem over : Rows.fnExactBoatsTextRow.holds Tryd.pinned (OpenSpec.ofChange Rows.fnExactBoatsTextSpec) :=
  OpenClaim.holds_of_wide 4 Tryd.f4 rfl rfl rfl rfl rfl rfl rfl ⟨rfl, rfl, rfl, rfl, rfl⟩ rfl rfl rfl rfl rfl (by kernel_rfl) Tryd.func4 (by kernel_rfl)
    (of_decide_eq_true (by kernel_rfl)) (by unfold Func.isWrapper; first | (rw [if_pos (by decide +kernel)]; kernel_rfl) | (rw [if_neg (by decide +kernel)]; exact ⟨rfl, rfl⟩))
    (fun os started H enc _ => lifted os started H enc)
theorem proved : Rows.FnExactBoatsTextSaid := over
#print axioms proved
end Go.Proofs.YteffdjfiialdfaaDoor.fnExactBoatsText
namespace Go.Proofs.YteffdjfiialdfaaDoor
/-- The card. -/
theorem fnExactBoatsText_holds : Rows.FnExactBoatsTextCardSaid :=
  Claim7.holds_tied_plain_at .later [] [.data, .data, .data] true (true, "60c03d19bba42591af1998a450ee68d3685093ff40284cbd58823c31bbf828ad") false
    fnExactBoatsText.proved (fun _ h => by cases h) (by kernel_rfl) (fun _ h => by cases h) fnExactBoatsText_row_tie rfl ⟨rfl, rfl⟩ (by kernel_rfl) rfl
    (fun f fn hf hfn => by
      obtain rfl : f = 4 := Option.some.inj ((show Tryd.prog.funcNamed Rows.fnExactBoatsTextRow.func = some 4 by kernel_rfl).symm.trans hf) |>.symm
      obtain rfl : fn = Tryd.f4 := (Option.some.inj (Tryd.func4.symm.trans hfn)).symm
      exact ⟨by kernel_rfl, fun j t ht => by
        rw [Tryd.params4] at ht
        have hm : t ∈ [26, 31] := by simpa using Array.mem_of_getElem? ht
        have hall : ([26, 31].all fun u => !Tryd.prog.wantsStandIn u) = true := by kernel_rfl
        exact (show Tryd.prog.wantsStandIn t = false by simpa using List.all_eq_true.1 hall t hm)⟩)
    (by kernel_rfl)
end Go.Proofs.YteffdjfiialdfaaDoor
