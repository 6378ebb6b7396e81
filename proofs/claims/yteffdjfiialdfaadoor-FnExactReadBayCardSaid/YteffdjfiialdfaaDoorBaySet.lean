import Derived.Test.YteffdjfiialdfaaDoorBay
import Derived.Laws.Tables
namespace Go.Proofs.YteffdjfiialdfaaDoor.Bay
open Go Go.RowKit Go.Proofs.YteffdjfiialdfaaDoorW.PrintWords
/-- Depths with one cell changed. -/
def setD (d : Nat → Int) (i : Nat) (v : Int) : Nat → Int := fun n => if n = i then v else d n
theorem setD_same (d : Nat → Int) (i : Nat) (v : Int) : setD d i v i = v := by simp [setD]
theorem setD_ne (d : Nat → Int) {i n : Nat} (v : Int) (h : n ≠ i) : setD d i v n = d n := by simp [setD, h]
theorem arL_set (d : Nat → Int) (i : Nat) (v : Int) : (arL d).set i (.int .i8 v) = arL (setD d i v) := by
  apply List.ext_getElem?
  intro n
  by_cases hn : n < 256
  · rw [arL_get _ n hn, List.getElem?_set]
    by_cases h : i = n
    · subst h
      rw [if_pos rfl, if_pos (by rw [arL_length]; exact hn), setD_same]
    · rw [if_neg h, arL_get _ n hn, setD_ne _ _ (fun e => h e.symm)]
  · rw [List.getElem?_eq_none (by rw [List.length_set, arL_length]; omega), List.getElem?_eq_none (by rw [arL_length]; omega)]
theorem csBay_congr {a b : Int} {d e : Nat → Int} (h : ∀ i, i < 256 → d i = e i) : csBay a b d = csBay a b e := by
  have hl : arL d = arL e := by
    apply List.ext_getElem?
    intro n
    by_cases hn : n < 256
    · rw [arL_get _ n hn, arL_get _ n hn, h n hn]
    · rw [List.getElem?_eq_none (by rw [arL_length]; omega), List.getElem?_eq_none (by rw [arL_length]; omega)]
  unfold csBay
  rw [hl]
theorem set_ar (a b : Int) (d : Nat → Int) (i : Nat) (v : Int) : (csBay a b d).setIfInBounds (2 + i) (.int .i8 v) = csBay a b (setD d i v) := by
  have e : (2 + i) = i + 1 + 1 := by omega
  rw [e]
  simp [csBay, arL_set]
theorem blk_setD {W : World} {g : Nat} {a b : Int} {d : Nat → Int} {t : TypeId} (h : W.heap[g]? = some (.cells (csBay a b d) t (0, 0))) {j k : Int} (_ : decide (0 ≤ j) = true) (_ : decide (j < 16) = true) (_ : decide (0 ≤ k) = true) (_ : decide (k < 16) = true) (v : Int) :
    (W.setCell ⟨g, 2 + j.toNat * 16 + k.toNat, none⟩ (.int .i8 v)).heap[g]? = some (.cells (csBay a b (setD d (16 * j.toNat + k.toNat) v)) t (0, 0)) := by
  have e : 2 + j.toNat * 16 + k.toNat = 2 + (16 * j.toNat + k.toNat) := by omega
  rw [e]
  exact blk_put h _ _ (set_ar a b d _ v)
/-! A whole block is written. -/
theorem setRow_size (W : World) (g : Nat) (cs : Array Value) : (W.setRow g cs).heap.size = W.heap.size := by simp [World.setRow]
theorem setRow_keep (W : World) (g : Nat) (cs : Array Value) : KeepBut W (W.setRow g cs) g none := ⟨by rw [setRow_size]; exact Nat.le_refl _, fun i _ hg _ => setRow_other W g i cs hg⟩
theorem blk_row {W : World} {g : Nat} {t : TypeId} {old : Array Value} (h : W.heap[g]? = some (.cells old t (0, 0))) (cs : Array Value) : (W.setRow g cs).heap[g]? = some (.cells cs t (0, 0)) := setRow_heap W g old cs t (0, 0) h
theorem blk_row_far {W : World} {g g2 : Nat} {o : Obj} (h : W.heap[g]? = some o) (hne : g ≠ g2) (cs : Array Value) : (W.setRow g2 cs).heap[g]? = some o := (setRow_other W g2 g cs hne).trans h
theorem below_row {w W : World} {g : Nat} (h : Below w.heap.size w W) (hg : w.heap.size ≤ g) (cs : Array Value) : Below w.heap.size w (W.setRow g cs) :=
  h.trans ⟨rfl, rfl, rfl, by rw [setRow_size]; exact Nat.le_refl _, fun i hi => setRow_other W g i cs (by omega)⟩
theorem keep_row {w W : World} {g : Nat} {row : Option Nat} (h : KeepBut w W g row) (cs : Array Value) : KeepBut w (W.setRow g cs) g row :=
  ⟨by rw [setRow_size]; exact h.1, fun i hi hg hr => (setRow_other W g i cs hg).trans (h.2 i hi hg hr)⟩
theorem keep_row_far {w W : World} {g g2 : Nat} {row : Option Nat} (h : KeepBut w W g row) (hp : w.heap.size ≤ g2) (cs : Array Value) : KeepBut w (W.setRow g2 cs) g row :=
  ⟨by rw [setRow_size]; exact h.1, fun i hi hg hr => (setRow_other W g2 i cs (by omega)).trans (h.2 i hi hg hr)⟩
theorem csBay_one (a b : Int) (d : Nat → Int) : (csBay a b d).all (·.oneCell') = true := by
  refine Array.all_eq_true_iff_forall_mem.2 fun x hx => ?_
  have hx : x ∈ (Value.int .i8 a :: .int .i8 b :: arL d) := by simpa [csBay] using hx
  rcases List.mem_cons.1 hx with rfl | hx
  · rfl
  rcases List.mem_cons.1 hx with rfl | hx
  · rfl
  · unfold arL at hx
    obtain ⟨i, _, rfl⟩ := List.mem_map.1 hx
    rfl
section
variable {P : Program} {ops : Array Oper} {Q : Exit → Act → World → Prop} {rest : List Oper} {o : Oper} {a : Act}
theorem bay_event {T : TypeId} {W : World} {g : Nat} {a0 b0 a1 b1 : Int} {d0 d1 : Nat → Int} {p : Tmp} {v : Operand} (hgd : o.guard = none) (ho : o.op = .store T (.tmp p) v) (hN : o.dst = none)
    (hi : (P.info? T).map (·.size) = some 258) (hp : a.eval (.tmp p) = .pointer (some ⟨g, 0, none⟩)) (hv : a.eval v = .agg (csBay a1 b1 d1)) (hb : W.heap[g]? = some (.cells (csBay a0 b0 d0) T (0, 0)))
    (h : ∀ w', w' = W.setRow g (csBay a1 b1 d1) → wpList P ops Q rest a w') : wpList P ops Q (o :: rest) a W := by
  refine wpList_plain hgd fun K hK => wp_store_row T (.tmp p) v ho g _ hp hv T _ hb (by rw [csBay_size]; exact hi) (by rw [csBay_size, csBay_size]) (csBay_one _ _ _) ?_
  rw [hN]
  exact hK _ _ (h _ rfl)
end
theorem zero26s : (Tryd.prog.info? 26).bind (·.zero) = some (.agg (csBay 0 0 (fun _ => 0))) := by kernel_rfl
@[irreducible] def al26 (v : Value) : Sem Value := Instr.alloc 26 true v
theorem al26_eq (v : Value) : Instr.alloc 26 true v = al26 v := by unfold al26; rfl
theorem zv26 (w : World) : (zeroValue 26).run Tryd.prog w = .ok (.agg (csBay 0 0 (fun _ => 0))) w := by
  have h := zero26s
  cases hq : Tryd.prog.info? 26 with
  | none => rw [hq] at h; simp at h
  | some i =>
    rw [hq] at h
    have hz : i.zero = some (.agg (csBay 0 0 (fun _ => 0))) := h
    simp [zeroValue, typeInfo, hq, hz]
theorem al26_run (v : Value) (w : World) : (al26 v).run Tryd.prog w = .ok (.pointer (some ⟨w.heap.size, 0, none⟩)) (w.alloc (.cells (csBay 0 0 (fun _ => 0)) 26)) := by
  unfold al26 Instr.alloc
  rw [Sem.run_bind, zv26]
  rfl
@[irreducible] def bd26 (ps : Array (Nat × Value)) : Sem Value := Instr.build 26 ps
theorem bd26_eq (ps : Array (Nat × Value)) : Instr.build 26 ps = bd26 ps := by unfold bd26; rfl
theorem built26_0 : Tryd.prog.built 26 [] = some (csBay 0 0 (fun _ => 0)) := by kernel_rfl
theorem built26_1 (x : Int) : Tryd.prog.built 26 [(1, .int .i8 x)] = some (csBay 0 x (fun _ => 0)) := by kernel_rfl
theorem built26_2 (x y : Int) : Tryd.prog.built 26 [(0, .int .i8 x), (1, .int .i8 y)] = some (csBay x y (fun _ => 0)) := by kernel_rfl
theorem bd26_run0 (w : World) : (bd26 #[]).run Tryd.prog w = .ok (.agg (csBay 0 0 (fun _ => 0))) w := by unfold bd26; exact run_build w _ _ _ built26_0
theorem bd26_run1 (x : Int) (w : World) : (bd26 #[(1, .int .i8 x)]).run Tryd.prog w = .ok (.agg (csBay 0 x (fun _ => 0))) w := by unfold bd26; exact run_build w _ _ _ (built26_1 x)
theorem bd26_run2 (x y : Int) (w : World) : (bd26 #[(0, .int .i8 x), (1, .int .i8 y)]).run Tryd.prog w = .ok (.agg (csBay x y (fun _ => 0))) w := by unfold bd26; exact run_build w _ _ _ (built26_2 x y)
theorem zero28s : (Tryd.prog.info? 28).bind (·.zero) = some (.agg (csBay 0 0 (fun _ => 0))) := by kernel_rfl
@[irreducible] def al28 (v : Value) : Sem Value := Instr.alloc 28 true v
theorem al28_eq (v : Value) : Instr.alloc 28 true v = al28 v := by unfold al28; rfl
theorem zv28 (w : World) : (zeroValue 28).run Tryd.prog w = .ok (.agg (csBay 0 0 (fun _ => 0))) w := by
  have h := zero28s
  cases hq : Tryd.prog.info? 28 with
  | none => rw [hq] at h; simp at h
  | some i =>
    rw [hq] at h
    have hz : i.zero = some (.agg (csBay 0 0 (fun _ => 0))) := h
    simp [zeroValue, typeInfo, hq, hz]
theorem al28_run (v : Value) (w : World) : (al28 v).run Tryd.prog w = .ok (.pointer (some ⟨w.heap.size, 0, none⟩)) (w.alloc (.cells (csBay 0 0 (fun _ => 0)) 28)) := by
  unfold al28 Instr.alloc
  rw [Sem.run_bind, zv28]
  rfl
@[irreducible] def bd28 (ps : Array (Nat × Value)) : Sem Value := Instr.build 28 ps
theorem bd28_eq (ps : Array (Nat × Value)) : Instr.build 28 ps = bd28 ps := by unfold bd28; rfl
theorem built28_0 : Tryd.prog.built 28 [] = some (csBay 0 0 (fun _ => 0)) := by kernel_rfl
theorem built28_1 (x : Int) : Tryd.prog.built 28 [(1, .int .i8 x)] = some (csBay 0 x (fun _ => 0)) := by kernel_rfl
theorem built28_2 (x y : Int) : Tryd.prog.built 28 [(0, .int .i8 x), (1, .int .i8 y)] = some (csBay x y (fun _ => 0)) := by kernel_rfl
theorem bd28_run0 (w : World) : (bd28 #[]).run Tryd.prog w = .ok (.agg (csBay 0 0 (fun _ => 0))) w := by unfold bd28; exact run_build w _ _ _ built28_0
theorem bd28_run1 (x : Int) (w : World) : (bd28 #[(1, .int .i8 x)]).run Tryd.prog w = .ok (.agg (csBay 0 x (fun _ => 0))) w := by unfold bd28; exact run_build w _ _ _ (built28_1 x)
theorem bd28_run2 (x y : Int) (w : World) : (bd28 #[(0, .int .i8 x), (1, .int .i8 y)]).run Tryd.prog w = .ok (.agg (csBay x y (fun _ => 0))) w := by unfold bd28; exact run_build w _ _ _ (built28_2 x y)
end Go.Proofs.YteffdjfiialdfaaDoor.Bay
