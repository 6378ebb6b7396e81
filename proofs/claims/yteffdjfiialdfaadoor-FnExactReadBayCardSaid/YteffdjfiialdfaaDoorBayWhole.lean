import Derived.Test.YteffdjfiialdfaaDoorBayTo
import Derived.Below
import Derived.Laws.Rows
namespace Go.Proofs.YteffdjfiialdfaaDoor.Bay
open Go Go.RowKit Go.Proofs.YteffdjfiialdfaaDoorW.PrintWords
/-- The whole of a block, as one value. -/
@[irreducible] def lvv (W : World) (g : Nat) : Value := match W.heap[g]? with
  | some (.cells cs _ _) => .agg cs
  | _ => .agg #[]
theorem lvv_same {W W' : World} {g : Nat} (h : W'.heap[g]? = W.heap[g]?) : lvv W' g = lvv W g := by unfold lvv; rw [h]
theorem lvv_set {W : World} {g g' o : Nat} {x : Value} (h : g' ≠ g) : lvv (W.setCell ⟨g', o, none⟩ x) g = lvv W g := lvv_same (heap_setCell_other W _ g x (fun e => h e.symm))
theorem lvv_drewN (W : World) (g n : Nat) : lvv (W.drewN n) g = lvv W g := lvv_same rfl
theorem lvv_drew (W : World) (g : Nat) : lvv W.drew g = lvv W g := lvv_same rfl
theorem lvv_far {W : World} {g : Nat} {v : Value} {p : Addr} (hp : g ≠ p.block) (u : Value) (h : lvv W g = v) : lvv (W.setCell p u) g = v := (lvv_same (heap_setCell_other W p g u hp)).trans h
theorem atCells_far {W : World} {g : Nat} {d : Nat → Int} {p : Addr} (hp : g ≠ p.block) (u : Value) (h : atCells W g d) : atCells (W.setCell p u) g d := fun j k h1 h2 h3 h4 => (cell_far hp u).trans (h j k h1 h2 h3 h4)
theorem lvv_of {W : World} {g : Nat} {cs : Array Value} {t : TypeId} {fr : Nat × Nat} (h : W.heap[g]? = some (.cells cs t fr)) : lvv W g = .agg cs := by unfold lvv; rw [h]
def BayAt26 (W : World) (g : Nat) : Prop := ∃ a b d, W.heap[g]? = some (.cells (csBay a b d) 26 (0, 0))
theorem BayAt26_of {W : World} {g : Nat} {a b : Int} {d : Nat → Int} (h : W.heap[g]? = some (.cells (csBay a b d) 26 (0, 0))) : BayAt26 W g := ⟨a, b, d, h⟩
theorem BayAt26_set {W : World} {g g' o : Nat} {x : Value} (h : g' ≠ g) : BayAt26 (W.setCell ⟨g', o, none⟩ x) g = BayAt26 W g := by
  unfold BayAt26
  rw [heap_setCell_other W _ g x (fun e => h e.symm)]
theorem BayAt26_far {W : World} {g : Nat} {p : Addr} (hp : g ≠ p.block) (u : Value) (h : BayAt26 W g) : BayAt26 (W.setCell p u) g := by
  unfold BayAt26 at h ⊢
  rw [heap_setCell_other W p g u hp]
  exact h
theorem BayAt26_drewN (W : World) (g n : Nat) : BayAt26 (W.drewN n) g = BayAt26 W g := propext Iff.rfl
theorem BayAt26_drew (W : World) (g : Nat) : BayAt26 W.drew g = BayAt26 W g := propext Iff.rfl
attribute [irreducible] BayAt26
theorem lv26_run {W : World} {g : Nat} (h : BayAt26 W g) : (lv26 ⟨g, 0, none⟩).run Tryd.prog W = .ok (lvv W g) W := by
  unfold BayAt26 at h
  obtain ⟨a, b, d, h⟩ := h
  rw [lvv_of h]
  exact lv26_at h
def BayAt28 (W : World) (g : Nat) : Prop := ∃ a b d, W.heap[g]? = some (.cells (csBay a b d) 28 (0, 0))
theorem BayAt28_of {W : World} {g : Nat} {a b : Int} {d : Nat → Int} (h : W.heap[g]? = some (.cells (csBay a b d) 28 (0, 0))) : BayAt28 W g := ⟨a, b, d, h⟩
theorem BayAt28_set {W : World} {g g' o : Nat} {x : Value} (h : g' ≠ g) : BayAt28 (W.setCell ⟨g', o, none⟩ x) g = BayAt28 W g := by
  unfold BayAt28
  rw [heap_setCell_other W _ g x (fun e => h e.symm)]
theorem BayAt28_far {W : World} {g : Nat} {p : Addr} (hp : g ≠ p.block) (u : Value) (h : BayAt28 W g) : BayAt28 (W.setCell p u) g := by
  unfold BayAt28 at h ⊢
  rw [heap_setCell_other W p g u hp]
  exact h
theorem BayAt28_drewN (W : World) (g n : Nat) : BayAt28 (W.drewN n) g = BayAt28 W g := propext Iff.rfl
theorem BayAt28_drew (W : World) (g : Nat) : BayAt28 W.drew g = BayAt28 W g := propext Iff.rfl
attribute [irreducible] BayAt28
theorem lv28_run {W : World} {g : Nat} (h : BayAt28 W g) : (lv28 ⟨g, 0, none⟩).run Tryd.prog W = .ok (lvv W g) W := by
  unfold BayAt28 at h
  obtain ⟨a, b, d, h⟩ := h
  rw [lvv_of h]
  exact lv28_at h
end Go.Proofs.YteffdjfiialdfaaDoor.Bay
