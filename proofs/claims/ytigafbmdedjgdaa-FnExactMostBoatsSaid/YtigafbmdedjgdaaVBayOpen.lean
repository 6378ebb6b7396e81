/- How a bay that came in by value is laid open. -/
import Derived.Test.YtigafbmdedjgdaaVOpen
import Derived.Test.YtigafbmdedjgdaaVBay
import Derived.KernelRfl
namespace Go.Proofs.Ytigafbmdedjgdaa.BayOpen
open Go Go.ChangeShapes Go.WideShapes Go.Deep Go.RowKit Go.Proofs.YtigafbmdedjgdaaW.PrintWords Go.Proofs.Ytigafbmdedjgdaa.Bay Go.Proofs.Ytigafbmdedjgdaa.Open
def RI (cs : List Value) : Prop := ∃ n, cs = [.int .i8 n] ∧ (Lit.int .i8 n).wf = true
theorem cells22 : Try.prog.cellsOf 22 = 1 := by kernel_rfl
theorem cells23 : Try.prog.cellsOf 23 = 16 := by kernel_rfl
theorem cells24 : Try.prog.cellsOf 24 = 256 := by kernel_rfl
theorem cells26 : Try.prog.cellsOf 26 = 258 := by kernel_rfl
theorem open22 : Opens Try.prog 22 RI := opens_int Try.underlying22
theorem take_at (cs : List Value) (i : Nat) (n : Value) (h : (cs.drop i).take 1 = [n]) : cs[i]? = some n := by
  have : ((cs.drop i).take 1)[0]? = some n := by rw [h]; rfl
  rw [List.getElem?_take_of_lt (by omega), List.getElem?_drop] at this
  simpa using this
theorem open23 : Opens Try.prog 23 (fun cs => ∀ x, x < 16 → ∃ n, cs[x]? = some (.int .i8 n) ∧ (Lit.int .i8 n).wf = true) :=
  (opens_array Try.underlying23 open22).mono (fun cs h x hx => by
    obtain ⟨n, h1, h2⟩ := h.2 x hx
    rw [cells22, Nat.mul_one] at h1
    exact ⟨n, take_at cs x _ h1, h2⟩)
theorem open24 : Opens Try.prog 24 (fun cs => ∀ i, i < 256 → ∃ n, cs[i]? = some (.int .i8 n) ∧ (Lit.int .i8 n).wf = true) :=
  (opens_array Try.underlying24 open23).mono (fun cs h i hi => by
    obtain ⟨n, h1, h2⟩ := h.2 (i / 16) (by omega) (i % 16) (by omega)
    rw [cells23, List.getElem?_take_of_lt (by omega), List.getElem?_drop, show i / 16 * 16 + i % 16 = i from by omega] at h1
    exact ⟨n, h1, h2⟩)
/-- The depths that some cells tell. -/
def dOf (cs : List Value) (i : Nat) : Int := match cs[2 + i]? with
  | some (.int _ n) => n
  | _ => 0
def R26 : Nat → List Value → Prop
  | 0, cs => RI cs
  | 1, cs => RI cs
  | 2, cs => ∀ i, i < 256 → ∃ n, cs[i]? = some (.int .i8 n) ∧ (Lit.int .i8 n).wf = true
  | _, _ => True
theorem openBay : Opens Try.prog 26 (fun cs => ∃ (a b : Int) (d : Nat → Int), cs = (csBay a b d).toList ∧ (Lit.int .i8 a).wf = true ∧ (Lit.int .i8 b).wf = true ∧ ∀ i, i < 256 → (Lit.int .i8 (d i)).wf = true) := by
  refine (opens_struct (R := R26) Try.underlying26 ?_).mono ?_
  · intro i f hi
    match i, hi with
    | 0, hi => cases hi; exact open22
    | 1, hi => cases hi; exact open22
    | 2, hi => cases hi; exact open24
  · intro cs ⟨hl, hf⟩
    rw [cells26] at hl
    obtain ⟨a, h0, w0⟩ := hf 0 _ rfl
    obtain ⟨b, h1, w1⟩ := hf 1 _ rfl
    have h0 : (cs.drop 0).take (Try.prog.cellsOf 22) = [.int .i8 a] := h0
    have h1 : (cs.drop 1).take (Try.prog.cellsOf 22) = [.int .i8 b] := h1
    have hs : ∀ (f : Field) (o : Nat) (t : TypeId), f.offset = o → f.type = t → R26 2 ((cs.drop f.offset).take (Try.prog.cellsOf f.type)) → R26 2 ((cs.drop o).take (Try.prog.cellsOf t)) := by
      intro f o t h1 h2 h
      rw [h1, h2] at h
      exact h
    have h2 := hs _ 2 24 rfl rfl (hf 2 _ rfl)
    rw [cells22] at h0 h1
    rw [cells24] at h2
    generalize ht : (cs.drop 2).take 256 = q at h2
    have h2 : ∀ i, i < 256 → ∃ n, q[i]? = some (.int .i8 n) ∧ (Lit.int .i8 n).wf = true := h2
    subst ht
    have e0 := take_at cs 0 _ h0
    have e1 := take_at cs 1 _ h1
    have e2 : ∀ i, i < 256 → ∃ n, cs[2 + i]? = some (.int .i8 n) ∧ (Lit.int .i8 n).wf = true := by
      intro i hi
      obtain ⟨n, h3, h4⟩ := h2 i hi
      rw [List.getElem?_take_of_lt hi, List.getElem?_drop] at h3
      exact ⟨n, h3, h4⟩
    refine ⟨a, b, dOf cs, ?_, w0, w1, ?_⟩
    · apply List.ext_getElem?
      intro i
      have e : (csBay a b (dOf cs)).toList[i]? = (csBay a b (dOf cs))[i]? := Array.getElem?_toList
      rw [e]
      by_cases c0 : i = 0
      · rw [c0, e0, csBay_0]
      · by_cases c1 : i = 1
        · rw [c1, e1, csBay_1]
        · by_cases c : i < 258
          · obtain ⟨n, h3, _⟩ := e2 (i - 2) (by omega)
            have hd : dOf cs (i - 2) = n := by unfold dOf; rw [h3]
            rw [show i = 2 + (i - 2) from by omega, csBay_at _ _ _ _ (by omega), hd, h3]
          · rw [List.getElem?_eq_none (by omega), Array.getElem?_eq_none (by rw [csBay_size]; omega)]
    · intro i hi
      obtain ⟨n, h3, h4⟩ := e2 i hi
      have hd : dOf cs i = n := by unfold dOf; rw [h3]
      rw [hd]
      exact h4
end Go.Proofs.Ytigafbmdedjgdaa.BayOpen
