/- The row of the law laws_FnExactTidesText out of its pure statement and the walk. -/
import Derived.Test.YtdfhjljlpcjdoaaDoorRows
import Derived.Test.YtdfhjljlpcjdoaaDoorPFnExactTidesTextx6
import Derived.Test.YtdfhjljlpcjdoaaDoorPureFnExactTidesText
import Derived.Test.YtdfhjljlpcjdoaaDoorOpen
import Derived.WalkKit
import Derived.ProofKit
import Derived.OpenShut
import Derived.ShutString
import Derived.ChangeOld
import Derived.Below
import Derived.SizedLaws
import Derived.Lay
import Derived.LaidOnce
import Derived.SevenTiedAt
import Derived.MakeChecks
import Derived.Shelf.Vars
import Derived.Lib.LaidTab
import Derived.Handed
import Derived.Stop.LaidErr
import Derived.Test.YtdfhjljlpcjdoaaDoorCards
import Derived.Test.YtdfhjljlpcjdoaaDoorTie
namespace Go.Proofs.YtdfhjljlpcjdoaaDoor.fnExactTidesText
open Go.ChangeShapes Go.WideShapes Go.ChangeAt Go.RowKit Go.Proofs.YtdfhjljlpcjdoaaDoorW.PrintWords Go.Proofs.YtdfhjljlpcjdoaaDoor.Open Go.Proofs.YtdfhjljlpcjdoaaDoor.PFnExactTidesText
open Go.ChangeMaps (open_string shut_string)
theorem own : ownKnob Tryd.prog.godebug = none := by kernel_rfl
theorem laidOut : laidOutB Tryd.prog = true := by kernel_rfl
variable {H : Type} {enc : TypeId × Value → H}
theorem returnsShaped {a : Assume} {C : Checked} {os : Os} {f : FuncId} {fn : Func} {s : ChangeSpec} {conds : List PathCond} {apart fresh handsOn again : Bool} {X : World → Array Value → Prop}
    (hX : ∀ (w w' : World) (args : Array Value), w.heap = w'.heap → X w args → X w' args)
    (own : ownKnob C.prog.godebug = none) (started : os.Started) (noInit : C.prog.inits.idxOf? f = none) (hfn : C.prog.funcs[f]? = some fn)
    (witness : ∃ (w : World) (tape : Tape) (i : Input), w.os = os ∧ (w.forCall tape i).Shaped C.prog ∧ i.vars = [] ∧ Input.okWide C.prog (w.forCall tape i) .any w.heap.size f i ∧
      ((s.pre enc C.prog fn conds apart (w.forCall tape i).memory i.args ∧ X (w.forCall tape i).memory i.args) ∧ sizedMet enc C.prog fn (OpenSpec.ofChange s) apart (w.forCall tape i).memory i.args) ∧ a.holds C.prog (lone (Frame.enter C.prog f i.args .normal) [] (w.forCall tape i)))
    (contract : ∀ (W : World) (base : Nat) (args : Array Value) (ds gs : List (DataW H)) (before : List MemPlace),
      (∀ (j : Nat) t v, fn.params[j]? = some t → args[j]? = some v → Value.okWide C.prog W .any base t v) →
      DataW.Whole enc C.prog fn.params.toList s.vars apart W args.toList ds gs before →
      conds.all (PathCond.test C.prog ⟨fn.params.toList, ds, s.plain.varTypes C.prog, gs⟩) = true →
      (DataW.weightsEach C.prog (fn.params.toList ++ s.plain.varTypes C.prog) (ds ++ gs)).all (· ≤ reachBytes) = true → X W args → W.ShapedOpen C.prog →
      a.holds C.prog (lone (Frame.enter C.prog f args .normal) [] W) →
      Calls C.prog f args W fun e W' => ∃ v, e = .returned v ∧ s.post enc C.prog fn apart fresh handsOn again W args v W') :
    ReturnsInHanded a C os f .any (fun w args => (s.pre enc C.prog fn conds apart w args ∧ X w args) ∧ sizedMet enc C.prog fn (OpenSpec.ofChange s) apart w args) (s.post enc C.prog fn apart fresh handsOn again) := by
  refine returnsInHanded_of_calls own started noInit witness ?_
  intro w tape i _ hsh _ hok hpre hholds
  obtain ⟨_, _, _, fn', hfn', _, _, _, _, hval⟩ := hok
  have e : fn' = fn := Option.some.inj (hfn'.symm.trans hfn)
  subst e
  obtain ⟨⟨⟨ds, gs, before, hw, hc⟩, hx⟩, hz⟩ := hpre
  have hw' := DataW.Whole.of_heap (w' := w.forCall tape i) (by rfl) hw
  refine (contract (w.forCall tape i) w.heap.size i.args ds gs before hval hw' hc (hz.weights hw) (hX _ _ _ (by rfl) hx) hsh hholds).mono fun e W' ⟨v, he, hp⟩ => ?_
  subst he
  exact ChangeSpec.post_blind hp
theorem tb_a {W : World} (hL : laidMetH Tryd.prog Rows.fnExactTidesTextRow.laid W) : Go.Proofs.YtdfhjljlpcjdoaaDoor.Shelf.TBa W := by
  rw [MakeChecks.laidMetH_plain _ _ _ (by kernel_rfl)] at hL
  have ed : (Rows.laid_internal_strconv_uint64pow10 : DataW Unit) = Go.Lib.tabData .u64 Go.Lib.pow10Tab := by kernel_rfl
  have hl : laidMet Tryd.prog (("internal/strconv.uint64pow10", Rows.laid_internal_strconv_uint64pow10) :: []) W := hL.tail.tail
  rw [ed] at hl
  exact Go.Lib.tabIs_of_head (g := 1) (t := 125) (e := 101) (n := 20) (by kernel_rfl) (by kernel_rfl) (by kernel_rfl) (by kernel_rfl) (by kernel_rfl) (by kernel_rfl) hl
theorem len2 {cs : List Value} (h : cs.length = 2) : ∃ c_0 c_1, cs = [c_0, c_1] := by
  match cs, h with
  | [c_0, c_1], _ => exact ⟨c_0, c_1, rfl⟩
theorem opens44 : Opens Tryd.prog 44 (fun cs => ∃ n0 : Int, cs = [.int .i16 n0] ∧ (Lit.int .i16 n0).wf = true) := opens_int Tryd.underlying44
theorem opens45 : Opens Tryd.prog 45 (fun cs => ∃ n0 : Int, cs = [.int .i8 n0] ∧ (Lit.int .i8 n0).wf = true) := opens_int Tryd.underlying45
def R55 : Nat → List Value → Prop
  | 0, cs => ∃ n0 : Int, cs = [.int .i16 n0] ∧ (Lit.int .i16 n0).wf = true
  | 1, cs => ∃ n0 : Int, cs = [.int .i8 n0] ∧ (Lit.int .i8 n0).wf = true
  | _, _ => True
theorem opens55 : Opens Tryd.prog 55 (fun cs => ∃ n0 n1 : Int, cs = [.int .i16 n0, .int .i8 n1] ∧ (Lit.int .i16 n0).wf = true ∧ (Lit.int .i8 n1).wf = true) := by
  refine (opens_struct (R := R55) Tryd.underlying55 ?_).mono ?_
  · intro i f hi
    match i, hi with
    | 0, hi => cases hi; exact opens44
    | 1, hi => cases hi; exact opens45
  · intro cs ⟨hl, hf⟩
    have c44 : Tryd.prog.cellsOf 44 = 1 := by kernel_rfl
    have c45 : Tryd.prog.cellsOf 45 = 1 := by kernel_rfl
    have c55 : Tryd.prog.cellsOf 55 = 2 := by kernel_rfl
    rw [c55] at hl
    obtain ⟨c_0, c_1, rfl⟩ := len2 hl
    · skip
      obtain ⟨n0, h0, w0⟩ := hf 0 _ rfl
      simp [c44] at h0
      subst h0
      obtain ⟨n1, h1, w1⟩ := hf 1 _ rfl
      simp [c45] at h1
      subst h1
      exact ⟨n0, n1, rfl, w0, w1⟩
set_option maxRecDepth 100000 in
theorem lifted (os : Os) (started : os.Started) (H : Type) (enc : TypeId × Value → H) :
    ReturnsInHanded {} Tryd.checked os 3 .any (fun w args => (Rows.fnExactTidesTextSpec.pre enc Tryd.prog Tryd.f3 Rows.fnExactTidesTextRow.domain false w args ∧ laidMetH Tryd.prog Rows.fnExactTidesTextRow.laid w) ∧ sizedMet enc Tryd.prog Tryd.f3 (OpenSpec.ofChange Rows.fnExactTidesTextSpec) false w args) (Rows.fnExactTidesTextSpec.post enc Tryd.prog Tryd.f3 false true false false) := by
  refine returnsShaped (C := Tryd.checked) (X := (fun w _ => laidMetH Tryd.prog Rows.fnExactTidesTextRow.laid w)) (fun _ _ _ hh h => h.of_heap hh) own started (by kernel_rfl) Tryd.func3
    (ChangeSpec.witness_shaped (enc := enc) (C := Tryd.checked) (os := os) (X := (fun w _ => laidMetH Tryd.prog Rows.fnExactTidesTextRow.laid w)) false (World.laidAll Tryd.prog os Rows.fnExactTidesTextRow.laid) #[.slice none 0 0] 8 (World.laidAll_os _ _ _)
      (World.shaped_of_ZipB (by kernel_rfl) (by kernel_rfl)) (by kernel_rfl) (by kernel_rfl) (by kernel_rfl)
      (by rw [MakeChecks.laidMetH_plain _ _ _ (by kernel_rfl)]; exact laidMet_laidAll _ (by kernel_rfl) (by kernel_rfl))) ?_
  intro W base args ds gs before hval0 hW hcnd _ hL hsh _
  have htba := tb_a hL
  have hval : ∀ (j : Nat) t v, Tryd.f3.params[j]? = some t → args[j]? = some v → Value.okWide Tryd.prog W .any base t v := hval0
  have hW' := hW
  obtain ⟨p, q, hA0, hV, rfl, hfz, hnd⟩ := hW
  have hA : DataW.TrodAll enc Tryd.prog W 0 (fun _ => true) true Tryd.f3.params.toList args.toList ds p := hA0
  rw [Tryd.params3] at hA hval
  obtain ⟨v0, vs0, d0, ds0, p0, q0, hargs, rfl, rfl, h0, r0⟩ := trodAll_cons hA
  obtain ⟨rfl, rfl, rfl⟩ := trodAll_nil r0
  obtain rfl : args = #[v0] := by cases args; simp_all
  obtain ⟨rfl, rfl⟩ := trodVars_none hV
  have k0 := h0
  have lt0 : ∀ x ∈ p0, x.block < W.heap.size := by obtain ⟨m, hm⟩ := k0; exact DataW.trod_lt m _ _ _ hm
  obtain ⟨A0, c0, l0, rfl, hr0, hc0, g0⟩ := slice_opens (d := k55) (G := fun x => (Lit.int .i16 x.f0).wf = true ∧ (Lit.int .i8 x.f1).wf = true) Tryd.underlying22 opens55 (by kernel_rfl) (by
    rintro cs ⟨n0, n1, rfl, w0, w1⟩
    exact ⟨⟨n0, n1⟩, ⟨w0, w1⟩, fun w => k55_mk w ⟨n0, n1⟩⟩) (hval 0 22 v0 rfl rfl) h0
  clear hA0 hval0
  obtain ⟨k, hk⟩ := Pure.FnExactTidesText l0 hr0.2.1 g0
  refine (laws_FnExactTidesText.calls k A0 c0 l0 true W hr0 hc0 hk htba).mono fun e W' ⟨he, bel⟩ => ?_
  subst he
  exact ⟨_, rfl, _, _, _, [], _, [], hW', trodAll_mk1 (shut_bool Tryd.underlying4 _), (trodAll_cons_mk (Below.trod laidOut (by kernel_rfl) (of_decide_eq_true (by kernel_rfl)) k0 bel lt0) trodAll_mk0), rfl, bel.frame _, fun h => by cases h⟩
theorem over : Rows.fnExactTidesTextRow.holds Tryd.pinned (OpenSpec.ofChange Rows.fnExactTidesTextSpec) :=
  OpenClaim.holds_of_wide 3 Tryd.f3 rfl rfl rfl rfl rfl rfl rfl ⟨rfl, rfl, rfl, rfl, rfl⟩ rfl rfl rfl rfl rfl (by kernel_rfl) Tryd.func3 (by kernel_rfl)
    (of_decide_eq_true (by kernel_rfl)) (by unfold Func.isWrapper; first | (rw [if_pos (by decide +kernel)]; kernel_rfl) | (rw [if_neg (by decide +kernel)]; exact ⟨rfl, rfl⟩))
    (fun os started H enc _ => lifted os started H enc)
theorem proved : Rows.FnExactTidesTextSaid := over
#print axioms proved
end Go.Proofs.YtdfhjljlpcjdoaaDoor.fnExactTidesText
namespace Go.Proofs.YtdfhjljlpcjdoaaDoor
/-- The card. -/
theorem fnExactTidesText_holds : Rows.FnExactTidesTextCardSaid :=
  Claim7.holds_tied_plain_at .later [] [.data, .data, .data] true (true, "0b4d1d29a3998c965f1d8742a4fc1ef4b7495f3e5309f14e894db8755735a3ac") false
    fnExactTidesText.proved (fun _ h => by cases h) (by kernel_rfl) (fun _ h => by cases h) fnExactTidesText_row_tie rfl ⟨rfl, rfl⟩ (by kernel_rfl) rfl
    (fun f fn hf hfn => by
      obtain rfl : f = 3 := Option.some.inj ((show Tryd.prog.funcNamed Rows.fnExactTidesTextRow.func = some 3 by kernel_rfl).symm.trans hf) |>.symm
      obtain rfl : fn = Tryd.f3 := (Option.some.inj (Tryd.func3.symm.trans hfn)).symm
      exact ⟨by kernel_rfl, fun j t ht => by
        rw [Tryd.params3] at ht
        have hm : t ∈ [22] := by simpa using Array.mem_of_getElem? ht
        have hall : ([22].all fun u => !Tryd.prog.wantsStandIn u) = true := by kernel_rfl
        exact (show Tryd.prog.wantsStandIn t = false by simpa using List.all_eq_true.1 hall t hm)⟩)
    (by kernel_rfl)
end Go.Proofs.YtdfhjljlpcjdoaaDoor
