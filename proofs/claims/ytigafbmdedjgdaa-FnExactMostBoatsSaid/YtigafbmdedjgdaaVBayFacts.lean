import Derived.Test.YtigafbmdedjgdaaVBayWhole
namespace Go.Proofs.Ytigafbmdedjgdaa.Bay
open Go Go.RowKit Go.Proofs.YtigafbmdedjgdaaW.PrintWords
theorem bb26 {W : World} {g : Nat} {a b : Int} {d : Nat → Int} (h : Aside0 (W.heap[g]? = some (.cells (csBay a b d) 26 (0, 0)))) : W.cell? ⟨g, 0, none⟩ = some (.int .i8 a) ∧ W.cell? ⟨g, 1, none⟩ = some (.int .i8 b) ∧ (lv26 ⟨g, 0, none⟩).run Try.prog W = .ok (.agg (csBay a b d)) W ∧ atCells W g d ∧ BayAt26 W g ∧ lvv W g = .agg (csBay a b d) ∧ W.frozen? ⟨g, 0, none⟩ = false ∧ W.frozen? ⟨g, 1, none⟩ = false ∧ W.frozen? ⟨g, 2, none⟩ = false :=
  ⟨(blk_cell h.out 0).trans rfl, (blk_cell h.out 1).trans rfl, lv26_at h.out, at_cells h.out, BayAt26_of h.out, lvv_of h.out, blk_frozen h.out 0, blk_frozen h.out 1, blk_frozen h.out 2⟩
theorem bb32 {W : World} {g : Nat} {a b : Int} {d : Nat → Int} (h : Aside0 (W.heap[g]? = some (.cells (csBay a b d) 32 (0, 0)))) : W.cell? ⟨g, 0, none⟩ = some (.int .i8 a) ∧ W.cell? ⟨g, 1, none⟩ = some (.int .i8 b) ∧ (lv32 ⟨g, 0, none⟩).run Try.prog W = .ok (.agg (csBay a b d)) W ∧ atCells W g d ∧ BayAt32 W g ∧ lvv W g = .agg (csBay a b d) ∧ W.frozen? ⟨g, 0, none⟩ = false ∧ W.frozen? ⟨g, 1, none⟩ = false ∧ W.frozen? ⟨g, 2, none⟩ = false :=
  ⟨(blk_cell h.out 0).trans rfl, (blk_cell h.out 1).trans rfl, lv32_at h.out, at_cells h.out, BayAt32_of h.out, lvv_of h.out, blk_frozen h.out 0, blk_frozen h.out 1, blk_frozen h.out 2⟩
end Go.Proofs.Ytigafbmdedjgdaa.Bay
