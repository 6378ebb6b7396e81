import Derived.Test.YteffdjfiialdfaaDoorProg
import Derived.Test.YteffdjfiialdfaaDoorWWords
import Derived.Laws.Rows
import Derived.KernelRfl
namespace Go.Proofs.YteffdjfiialdfaaDoor.Bay
open Go Go.RowKit Go.Proofs.YteffdjfiialdfaaDoorW.PrintWords
/-- The 256 cells of a bay's depths. -/
def arL (d : Nat → Int) : List Value := (List.range 256).map fun i => Value.int .i8 (d i)
theorem arL_length (d : Nat → Int) : (arL d).length = 256 := by simp [arL]
theorem arL_get (d : Nat → Int) (i : Nat) (h : i < 256) : (arL d)[i]? = some (.int .i8 (d i)) := by simp [arL, h]
attribute [irreducible] arL
/-- A bay's cells. -/
def csBay (a b : Int) (d : Nat → Int) : Array Value := ⟨.int .i8 a :: .int .i8 b :: arL d⟩
theorem csBay_size (a b : Int) (d : Nat → Int) : (csBay a b d).size = 258 := by simp [csBay, arL_length]
theorem csBay_0 (a b : Int) (d : Nat → Int) : (csBay a b d)[0]? = some (.int .i8 a) := by simp [csBay]
theorem csBay_1 (a b : Int) (d : Nat → Int) : (csBay a b d)[1]? = some (.int .i8 b) := by simp [csBay]
theorem csBay_at (a b : Int) (d : Nat → Int) (i : Nat) (h : i < 256) : (csBay a b d)[2 + i]? = some (.int .i8 (d i)) := by
  have e : (2 + i) = i + 1 + 1 := by omega
  rw [e]
  simp [csBay, arL_get d i h]
theorem cell_at {W : World} {g : Nat} {a b : Int} {d : Nat → Int} {t : TypeId} {fr : Nat × Nat} (h : W.heap[g]? = some (.cells (csBay a b d) t fr)) (i : Nat) (hi : i < 256) : W.cell? ⟨g, 2 + i, none⟩ = some (.int .i8 (d i)) :=
  (cell_of_row W g (2 + i) _ t fr h).trans (csBay_at a b d i hi)
/-- Each cell of the depths, as the walk spells its place. -/
abbrev atCells (W : World) (g : Nat) (d : Nat → Int) : Prop := ∀ j k : Int, decide (0 ≤ j) = true → decide (j < 16) = true → decide (0 ≤ k) = true → decide (k < 16) = true → W.cell? ⟨g, 2 + j.toNat * 16 + k.toNat, none⟩ = some (.int .i8 (d (16 * j.toNat + k.toNat)))
theorem at_cells {W : World} {g : Nat} {a b : Int} {d : Nat → Int} {t : TypeId} {fr : Nat × Nat} (h : W.heap[g]? = some (.cells (csBay a b d) t fr)) : atCells W g d := by
  intro j k h1 h2 h3 h4
  have h1 := of_decide_eq_true h1
  have h2 := of_decide_eq_true h2
  have h3 := of_decide_eq_true h3
  have h4 := of_decide_eq_true h4
  have := cell_at h (16 * j.toNat + k.toNat) (by omega)
  rw [show 2 + j.toNat * 16 + k.toNat = 2 + (16 * j.toNat + k.toNat) from by omega]
  exact this
theorem i8_wrap_le (n : Int) (h : 0 ≤ n) (h2 : n ≤ 127) : IntKind.i8.wrap n = n := by
  have e : n % 256 = n := Int.emod_eq_of_lt h (by omega)
  show (if (true && decide (n % 256 ≥ 128)) = true then n % 256 - 256 else n % 256) = n
  simp only [e]
  exact if_neg (by simp; omega)
theorem set_0 (a b x : Int) (d : Nat → Int) : (csBay a b d).setIfInBounds 0 (.int .i8 x) = csBay x b d := by simp [csBay]
theorem set_1 (a b x : Int) (d : Nat → Int) : (csBay a b d).setIfInBounds 1 (.int .i8 x) = csBay a x d := by simp [csBay]
theorem info26s : (Tryd.prog.info? 26).map (·.size) = some 258 := by kernel_rfl
@[irreducible] def lv26 (a : Addr) : Sem Value := loadVar 26 a
theorem lv26_eq (a : Addr) : loadVar 26 a = lv26 a := by unfold lv26; rfl
theorem lv26_at {W : World} {g : Nat} {a b : Int} {d : Nat → Int} (h : W.heap[g]? = some (.cells (csBay a b d) 26 (0, 0))) : (lv26 ⟨g, 0, none⟩).run Tryd.prog W = .ok (.agg (csBay a b d)) W := by
  unfold lv26
  exact run_loadVar_row W g 26 26 _ (0, 0) _ h Tryd.underlying26 rfl (by rw [csBay_size]; exact info26s)
theorem info28s : (Tryd.prog.info? 28).map (·.size) = some 258 := by kernel_rfl
@[irreducible] def lv28 (a : Addr) : Sem Value := loadVar 28 a
theorem lv28_eq (a : Addr) : loadVar 28 a = lv28 a := by unfold lv28; rfl
theorem lv28_at {W : World} {g : Nat} {a b : Int} {d : Nat → Int} (h : W.heap[g]? = some (.cells (csBay a b d) 28 (0, 0))) : (lv28 ⟨g, 0, none⟩).run Tryd.prog W = .ok (.agg (csBay a b d)) W := by
  unfold lv28
  exact run_loadVar_row W g 28 28 _ (0, 0) _ h Tryd.underlying28 rfl (by rw [csBay_size]; exact info28s)
end Go.Proofs.YteffdjfiialdfaaDoor.Bay
