import Derived.Test.YteffdjfiialdfaaDoorBay
import Derived.Test.YteffdjfiialdfaaDoorWMore
import Derived.Deep.WholeRow
import Derived.Deep.LoopGhost
import Derived.WalkKit
import Derived.OwnWalk
import Derived.RowKit3
import Derived.BigQuiet
import Derived.Laws.CopyOwn
import Derived.Test.YteffdjfiialdfaaDoorBayIn
namespace Go.Proofs.YteffdjfiialdfaaDoor.BayIn
open Go Go.RowKit Go.Proofs.YteffdjfiialdfaaDoorW.PrintWords Go.Proofs.YteffdjfiialdfaaDoorW.PrintLast Go.Proofs.YteffdjfiialdfaaDoorW.PrintMore Go.Proofs.YteffdjfiialdfaaDoor.Bay
set_option linter.unusedVariables false
attribute [local go_sem ↓] lv24_eq lv23_eq sv23_eq ix24_eq ix23_eq
/-- A row's cells. -/
def rowA (r : Nat → Int) : Array Value := ⟨(List.range 16).map fun i => Value.int .i8 (r i)⟩
theorem rowA_size (r : Nat → Int) : (rowA r).size = 16 := by simp [rowA]
theorem rowA_get (r : Nat → Int) (i : Nat) (h : i < 16) : (rowA r)[i]? = some (.int .i8 (r i)) := by simp [rowA, h]
theorem rowA_ext (q : Array Value) (r : Nat → Int) (h : q.size = 16) (hq : ∀ i, i < 16 → q[i]? = some (.int .i8 (r i))) : q = rowA r := by
  apply Array.ext_getElem?
  intro i
  by_cases c : i < 16
  · rw [hq i c, rowA_get r i c]
  · rw [Array.getElem?_eq_none (by omega), Array.getElem?_eq_none (by rw [rowA_size]; omega)]
theorem arR_row (d : Nat → Int) (y : Nat) (h : y < 16) : arR d y = rowA (fun i => d (16 * y + i)) := rowA_ext _ _ (arR_size d y h) (fun i hi => arR_get d y i h hi)
theorem rowA_set (q : Nat → Int) (i : Nat) (v : Int) (h : i < 16) : (rowA q).setIfInBounds i (.int .i8 v) = rowA (fun j => if j = i then v else q j) := by
  refine rowA_ext _ _ (by simp [rowA_size]) (fun j hj => ?_)
  rw [Array.getElem?_setIfInBounds]
  by_cases c : i = j
  · subst c
    rw [if_pos rfl, if_pos (by rw [rowA_size]; exact h), if_pos rfl]
  · rw [if_neg c, rowA_get q j hj, if_neg (fun e => c e.symm)]
theorem rowA_zero : (#[.int .i8 0, .int .i8 0, .int .i8 0, .int .i8 0, .int .i8 0, .int .i8 0, .int .i8 0, .int .i8 0, .int .i8 0, .int .i8 0, .int .i8 0, .int .i8 0, .int .i8 0, .int .i8 0, .int .i8 0, .int .i8 0] : Array Value) = rowA (fun _ => 0) := rfl
theorem rowA_one (r : Nat → Int) : (rowA r).all (·.oneCell') = true := by
  rw [Array.all_eq_true']
  intro x hx
  simp only [rowA, List.mem_toArray, List.mem_map] at hx
  obtain ⟨i, _, rfl⟩ := hx
  rfl
theorem rowA_congr {q r : Nat → Int} (h : ∀ i, i < 16 → q i = r i) : rowA q = rowA r := rowA_ext _ _ (rowA_size q) (fun i hi => by rw [rowA_get q i hi, h i hi])
theorem cell_row {W : World} {g : Nat} {r : Nat → Int} (h : W.heap[g]? = some (.cells (rowA r) 23 (0, 0))) (i : Nat) (hi : i < 16) : W.cell? ⟨g, i, none⟩ = some (.int .i8 (r i)) :=
  (cell_of_row W g i _ 23 (0, 0) h).trans (rowA_get r i hi)
theorem sv23_row {W : World} {g : Nat} {c : Array Value} {r : Nat → Int} (h : W.heap[g]? = some (.cells c 23 (0, 0))) (hs : c.size = 16) : (sv23 ⟨g, 0, none⟩ (.agg (rowA r))).run Tryd.prog W = .ok () (W.setRow g (rowA r)) := by
  unfold sv23
  exact run_storeVar_row W g 23 23 _ _ h (by rw [rowA_size]; exact sz23) (by rw [hs, rowA_size]) (rowA_one r)
set_option maxHeartbeats 8000000 in
set_option maxRecDepth 100000 in
theorem row_calls (r : Nat → Int) (w : World) :
    Calls Tryd.prog 47 #[.agg (rowA r)] w fun e w' => e = .returned (.agg (rowA r)) ∧ Below w.heap.size w w' := by
  have hu23 := Tryd.underlying23
  have HB := Aside0.mk (Below.refl w.heap.size w)
  go_enter Tryd.func47, Tryd.ntmps47
  go_upto_region 2 with (first | ((with_reducible refine gate_dst (N := 1) rfl ?_); refine box_event ?hg (N := 1) ?hd (cs := rowA r) (t := 23) ?hr ?_; (case hd => rfl); (case hg => rfl); (case hr => first | (go_simp; done) | (go_simp; rfl)); intro g1 hg w1 hbox hb; have n0_ := Aside0.mk (below_step HB.out hb); have GE1 := Aside0.mk (show w.heap.size ≤ g1 from by rw [hg]; exact below_size HB.out); clear HB; have HB := n0_; clear n0_; have BK1 := Aside0.mk hbox; clear hbox hb hg) | ((with_reducible refine gate_dst (N := 2) rfl ?_); refine box_event ?hg (N := 2) ?hd (cs := #[.int .i8 0, .int .i8 0, .int .i8 0, .int .i8 0, .int .i8 0, .int .i8 0, .int .i8 0, .int .i8 0, .int .i8 0, .int .i8 0, .int .i8 0, .int .i8 0, .int .i8 0, .int .i8 0, .int .i8 0, .int .i8 0]) (t := 23) ?hr ?_; (case hd => rfl); (case hg => rfl); (case hr => first | (go_simp; done) | (go_simp; rfl)); intro g2 hg w2 hbox hb; have NE1_2 := Aside0.mk (show g1 ≠ g2 from by rw [hg]; exact Nat.ne_of_lt (blk_lt BK1.out)); have m1_ := Aside0.mk (blk_below BK1.out hb); clear BK1; have BK1 := m1_; clear m1_; have n0_ := Aside0.mk (below_step HB.out hb); have GE2 := Aside0.mk (show w.heap.size ≤ g2 from by rw [hg]; exact below_size HB.out); clear HB; have HB := n0_; clear n0_; have BK2 := Aside0.mk hbox; clear hbox hb hg) | ((with_reducible refine gate_dst (N := 3) rfl ?_); refine box_event ?hg (N := 3) ?hd (cs := #[.int .i8 0, .int .i8 0, .int .i8 0, .int .i8 0, .int .i8 0, .int .i8 0, .int .i8 0, .int .i8 0, .int .i8 0, .int .i8 0, .int .i8 0, .int .i8 0, .int .i8 0, .int .i8 0, .int .i8 0, .int .i8 0]) (t := 23) ?hr ?_; (case hd => rfl); (case hg => rfl); (case hr => first | (go_simp; done) | (go_simp; rfl)); intro g3 hg w3 hbox hb; have NE1_3 := Aside0.mk (show g1 ≠ g3 from by rw [hg]; exact Nat.ne_of_lt (blk_lt BK1.out)); have m1_ := Aside0.mk (blk_below BK1.out hb); clear BK1; have BK1 := m1_; clear m1_; have NE2_3 := Aside0.mk (show g2 ≠ g3 from by rw [hg]; exact Nat.ne_of_lt (blk_lt BK2.out)); have m2_ := Aside0.mk (blk_below BK2.out hb); clear BK2; have BK2 := m2_; clear m2_; have n0_ := Aside0.mk (below_step HB.out hb); have GE3 := Aside0.mk (show w.heap.size ≤ g3 from by rw [hg]; exact below_size HB.out); clear HB; have HB := n0_; clear n0_; have BK3 := Aside0.mk hbox; clear hbox hb hg))
  go_wp2
  rw [rowA_zero] at BK2 BK3
  go_loopg [4] 17 (fun kq v4 w' => ∃ i : Nat, v4 = .int .i64 (i : Int) ∧ Aside0 (i ≤ 16 ∧ kq = 17 - i) ∧ Aside0 (w'.heap[g1]? = some (.cells (rowA r) 23 (0, 0))) ∧ Aside0 (w'.heap[g2]? = some (.cells (rowA fun _ => 0) 23 (0, 0))) ∧ Aside0 (w'.heap[g3]? = some (.cells (rowA fun j => if j < i then r j else 0) 23 (0, 0))) ∧ Aside0 (Below w.heap.size w w'))
  case atStart => exact ⟨0, rfl, ⟨by omega, rfl⟩, BK1, BK2, BK3, HB⟩
  case round =>
    clear HB BK1 BK2 BK3
    obtain ⟨i, rfl, HY, BK1, BK2, BK3, HB⟩ := hrel
    by_cases hi : (i : Int) < 16
    · have hib : decide ((i : Int) < 16) = true := decide_eq_true hi
      have hi2 : i < 16 := by omega
      have h0 : 0 ≤ (i : Int) := by omega
      have HI := Aside0.mk hi2
      have hx := cell_row BK1.out i hi2
      have hx3 := cell_row BK3.out i hi2
      have hf3 := blk_frozen BK3.out i
      have hwi : wrap64 ((i : Int) + 1) = ((i + 1 : Nat) : Int) := by rw [w64r (by omega) (by omega)]; omega
      have n1 := Aside0.mk (blk_far BK1.out (p := ⟨g3, i, none⟩) NE1_3.out (.int .i8 (r i)))
      have n2 := Aside0.mk (blk_far BK2.out (p := ⟨g3, i, none⟩) NE2_3.out (.int .i8 (r i)))
      have n3 := Aside0.mk (blk_set BK3.out i (.int .i8 (r i)))
      rw [rowA_set _ i _ hi2, rowA_congr (r := fun j => if j < i + 1 then r j else 0) (fun j hj => by
        by_cases c : j = i
        · subst c; rw [if_pos rfl, if_pos (by omega)]
        · rw [if_neg c]
          by_cases c2 : j < i
          · rw [if_pos c2, if_pos (by omega)]
          · rw [if_neg c2, if_neg (by omega)])] at n3
      have n4 := Aside0.mk (below_set HB.out GE3.out (j := i) (v := .int .i8 (r i)))
      clear hi2 BK1 BK2 BK3 HB
      go_wp2
      go_roundg (17 - (i + 1))
      case measure => have := HY.out; have := HI.out; omega
      case rel => exact ⟨i + 1, by first | rfl | (simp; done) | (simp [*]; done) | (rw [hwi]), ⟨by have := HI.out; omega, rfl⟩, n1, n2, n3, n4⟩
    · have hib : decide ((i : Int) < 16) = false := decide_eq_false hi
      have e : i = 16 := by have := HY.out; omega
      subst e
      rw [rowA_congr (r := r) (fun j hj => if_pos hj)] at BK3
      have hl := lv23_at BK3.out (rowA_size r)
      have hs := sv23_row (r := r) BK2.out (rowA_size _)
      have HB2 := Aside0.mk (below_setRow HB.out GE2.out (rowA r))
      have hh := Aside0.mk (setRow_heap wr g2 _ (rowA r) 23 _ BK2.out)
      clear hi HB BK1 BK2 BK3
      go_wp2
      refine bodyPost_ret (results_cell_row rfl _ _ g2 23 (rowA r) (0, 0) _ rfl hh.out Tryd.underlying23 rfl (by rw [rowA_size]; exact sz23)) rfl ?_
      exact ⟨rfl, HB2.out⟩

@[irreducible] def al24 (h : Bool) (old : Value) : Sem Value := Instr.alloc 24 h old
theorem al24_eq (h : Bool) (old : Value) : Instr.alloc 24 h old = al24 h old := by unfold al24; rfl
@[irreducible] def sv24 (a : Addr) (v : Value) : Sem Unit := storeVar 24 a v
theorem sv24_eq (a : Addr) (v : Value) : storeVar 24 a v = sv24 a v := by unfold sv24; rfl
attribute [local go_sem ↓] al24_eq sv24_eq
theorem arA_ext (q : Array Value) (r : Nat → Int) (h : q.size = 256) (hq : ∀ i, i < 256 → q[i]? = some (.int .i8 (r i))) : q = arA r := by
  apply Array.ext_getElem?
  intro i
  by_cases c : i < 256
  · rw [hq i c, arA_get r i c]
  · rw [Array.getElem?_eq_none (by omega), Array.getElem?_eq_none (by rw [arA_size]; omega)]
theorem arA_congr {q r : Nat → Int} (h : ∀ i, i < 256 → q i = r i) : arA q = arA r := arA_ext _ _ (arA_size q) (fun i hi => by rw [arA_get q i hi, h i hi])
theorem zero24 : (Tryd.prog.info? 24).map (fun i => (i.zero, i.size)) = some (some (.agg (arA fun _ => 0)), 256) := by kernel_rfl
theorem al24_at (W : World) (old : Value) : (al24 true old).run Tryd.prog W = .ok (.pointer (some ⟨W.heap.size, 0, none⟩)) (W.alloc (.cells (arA fun _ => 0) 24)) := by
  unfold al24
  have hz := (zero_of_info zero24).1 W
  simp [Instr.alloc, hz, newVar, newRow, Value.cells]
theorem seg_get (cur : List Value) (vs : List Value) (o i : Nat) (ho : o + vs.length ≤ cur.length) : (cur.take o ++ vs ++ cur.drop (o + vs.length))[i]? = if o ≤ i ∧ i < o + vs.length then vs[i - o]? else cur[i]? := by
  have hl : (cur.take o).length = o := by rw [List.length_take]; omega
  by_cases c1 : i < o
  · rw [if_neg (by omega), List.append_assoc, List.getElem?_append_left (by rw [hl]; exact c1), List.getElem?_take_of_lt c1]
  · by_cases c2 : i < o + vs.length
    · rw [if_pos (by omega), List.append_assoc, List.getElem?_append_right (by rw [hl]; omega), hl, List.getElem?_append_left (by omega)]
    · rw [if_neg (by omega), List.getElem?_append_right (by rw [List.length_append, hl]; omega), List.length_append, hl, List.getElem?_drop]
      congr 1
      omega
theorem lv23_sq {W : World} {g : Nat} {d : Nat → Int} {t : TypeId} (h : W.heap[g]? = some (.cells (arA d) t (0, 0))) (y : Nat) (hy : y < 16) : (lv23 ⟨g, y * 16, none⟩).run Tryd.prog W = .ok (.agg (rowA fun x => d (16 * y + x))) W := by
  have hl : (loadCells ⟨g, y * 16, none⟩ (rowA fun x => d (16 * y + x)).toList.length).run Tryd.prog W = .ok (rowA fun x => d (16 * y + x)).toList.toArray W :=
    run_loadCells_list (P := Tryd.prog) W ⟨g, y * 16, none⟩ _ (fun j v hv => by
      have hadd : (⟨g, y * 16, none⟩ : Addr).add j = ⟨g, y * 16 + j, none⟩ := by unfold Addr.add; split <;> simp_all
      rw [Array.getElem?_toList] at hv
      have hj : j < 16 := by
        have := (Array.getElem?_eq_some_iff.1 hv).1
        rwa [rowA_size] at this
      rw [rowA_get _ j hj] at hv
      rw [hadd, cell_of_row W g (y * 16 + j) _ t (0, 0) h, arA_get d _ (by omega), ← hv, Nat.mul_comm])
  rw [Array.length_toList, rowA_size, Array.toArray_toList] at hl
  unfold lv23
  simp only [loadVar, Sem.run_bind, agg_of Tryd.underlying23 W, Result.andThen_ok, run_size sz23 W, if_true, hl]
  rfl
theorem sv23_sq {W : World} {g : Nat} {d r : Nat → Int} {t : TypeId} (h : W.heap[g]? = some (.cells (arA d) t (0, 0))) (y : Nat) (hy : y < 16) : (sv23 ⟨g, y * 16, none⟩ (.agg (rowA r))).run Tryd.prog W = .ok () (W.setRow g (arA fun k => if 16 * y ≤ k ∧ k < 16 * y + 16 then r (k - 16 * y) else d k)) := by
  have h1 := run_storeCells_at (P := Tryd.prog) g (y * 16) t (rowA r).toList 0 (arA d) W h (by rw [Array.length_toList, rowA_size, arA_size]; omega) (fun v hv => (Array.all_eq_true_iff_forall_mem.1 (rowA_one r)) v (by simpa using hv))
  have e : ((arA d).toList.take (y * 16 + 0) ++ (rowA r).toList ++ (arA d).toList.drop (y * 16 + 0 + (rowA r).toList.length)).toArray = arA fun k => if 16 * y ≤ k ∧ k < 16 * y + 16 then r (k - 16 * y) else d k := by
    refine arA_ext _ _ ?_ (fun i hi => ?_)
    · simp [rowA_size, arA_size]; omega
    · rw [List.getElem?_toArray, Nat.add_zero, seg_get _ _ _ _ (by rw [Array.length_toList, Array.length_toList, rowA_size, arA_size]; omega), Array.length_toList, rowA_size, Nat.mul_comm y 16]
      by_cases c : 16 * y ≤ i ∧ i < 16 * y + 16
      · rw [if_pos c, if_pos c, Array.getElem?_toList, rowA_get r _ (by omega)]
      · rw [if_neg c, if_neg c, Array.getElem?_toList, arA_get d _ hi]
  rw [e] at h1
  have hn : ¬ (Value.agg (rowA r)).cells.size ≠ 16 := by
    show ¬ (rowA r).size ≠ 16
    rw [rowA_size]
    simp
  unfold sv23
  simp only [storeVar, Sem.run_bind, run_size sz23 W, Result.andThen_ok]
  rw [if_neg hn]
  exact h1
theorem sv24_at {W : World} {g : Nat} {c : Array Value} {d : Nat → Int} (h : W.heap[g]? = some (.cells c 24 (0, 0))) (hs : c.size = 256) : (sv24 ⟨g, 0, none⟩ (.agg (arA d))).run Tryd.prog W = .ok () (W.setRow g (arA d)) := by
  unfold sv24
  exact run_storeVar_row W g 24 24 _ _ h (by rw [arA_size]; exact sz24) (by rw [hs, arA_size]) (by
    rw [Array.all_eq_true']
    intro x hx
    obtain ⟨i, hi, rfl⟩ := Array.getElem_of_mem hx
    rw [arA_size] at hi
    have := arA_get d i hi
    rw [Array.getElem?_eq_some_iff] at this
    obtain ⟨_, e⟩ := this
    rw [e]
    rfl)
theorem lv24_own {W : World} {g : Nat} {d : Nat → Int} (h : W.heap[g]? = some (.cells (arA d) 24 (0, 0))) : (lv24 ⟨g, 0, none⟩).run Tryd.prog W = .ok (.agg (arA d)) W := by
  unfold lv24
  exact run_loadVar_row W g 24 24 _ (0, 0) _ h Tryd.underlying24 rfl (by rw [arA_size]; exact sz24)
set_option maxHeartbeats 8000000 in
set_option maxRecDepth 100000 in
theorem sq_calls (d : Nat → Int) (w : World) :
    Calls Tryd.prog 24 #[.agg (arA d)] w fun e w' => e = .returned (.agg (arA d)) ∧ Below w.heap.size w w' := by
  have hu23 := Tryd.underlying23
  have hu24 := Tryd.underlying24
  have HB := Aside0.mk (Below.refl w.heap.size w)
  have hal := al24_at
  go_enter Tryd.func24, Tryd.ntmps24
  go_upto_region 2 with (first | ((with_reducible refine gate_dst (N := 1) rfl ?_); refine box_event ?hg (N := 1) ?hd (cs := arA d) (t := 24) ?hr ?_; (case hd => rfl); (case hg => rfl); (case hr => first | (go_simp; done) | (go_simp; rfl)); intro g1 hg w1 hbox hb; have n0_ := Aside0.mk (below_step HB.out hb); have GE1 := Aside0.mk (show w.heap.size ≤ g1 from by rw [hg]; exact below_size HB.out); clear HB; have HB := n0_; clear n0_; have BK1 := Aside0.mk hbox; clear hbox hb hg) | ((with_reducible refine gate_dst (N := 2) rfl ?_); refine box_event ?hg (N := 2) ?hd (cs := arA fun _ => 0) (t := 24) ?hr ?_; (case hd => rfl); (case hg => rfl); (case hr => first | (go_simp; done) | (go_simp; rfl)); intro g2 hg w2 hbox hb; have NE1_2 := Aside0.mk (show g1 ≠ g2 from by rw [hg]; exact Nat.ne_of_lt (blk_lt BK1.out)); have m1_ := Aside0.mk (blk_below BK1.out hb); clear BK1; have BK1 := m1_; clear m1_; have n0_ := Aside0.mk (below_step HB.out hb); have GE2 := Aside0.mk (show w.heap.size ≤ g2 from by rw [hg]; exact below_size HB.out); clear HB; have HB := n0_; clear n0_; have BK2 := Aside0.mk hbox; clear hbox hb hg) | ((with_reducible refine gate_dst (N := 3) rfl ?_); refine box_event ?hg (N := 3) ?hd (cs := arA fun _ => 0) (t := 24) ?hr ?_; (case hd => rfl); (case hg => rfl); (case hr => first | (go_simp; done) | (go_simp; rfl)); intro g3 hg w3 hbox hb; have NE1_3 := Aside0.mk (show g1 ≠ g3 from by rw [hg]; exact Nat.ne_of_lt (blk_lt BK1.out)); have m1_ := Aside0.mk (blk_below BK1.out hb); clear BK1; have BK1 := m1_; clear m1_; have NE2_3 := Aside0.mk (show g2 ≠ g3 from by rw [hg]; exact Nat.ne_of_lt (blk_lt BK2.out)); have m2_ := Aside0.mk (blk_below BK2.out hb); clear BK2; have BK2 := m2_; clear m2_; have n0_ := Aside0.mk (below_step HB.out hb); have GE3 := Aside0.mk (show w.heap.size ≤ g3 from by rw [hg]; exact below_size HB.out); clear HB; have HB := n0_; clear n0_; have BK3 := Aside0.mk hbox; clear hbox hb hg))
  go_wp2
  clear hal
  go_loopg [4] 17 (fun kq v4 w' => ∃ i : Nat, v4 = .int .i64 (i : Int) ∧ Aside0 (i ≤ 16 ∧ kq = 17 - i) ∧ Aside0 (w'.heap[g1]? = some (.cells (arA d) 24 (0, 0))) ∧ Aside0 (w'.heap[g2]? = some (.cells (arA fun _ => 0) 24 (0, 0))) ∧ Aside0 (w'.heap[g3]? = some (.cells (arA fun j => if j < 16 * i then d j else 0) 24 (0, 0))) ∧ Aside0 (Below w.heap.size w w'))
  case atStart => exact ⟨0, rfl, ⟨by omega, rfl⟩, BK1, BK2, by rw [arA_congr (r := fun _ => 0) (fun j _ => if_neg (by omega))]; exact BK3, HB⟩
  case round =>
    clear HB BK1 BK2 BK3
    obtain ⟨i, rfl, HY, BK1, BK2, BK3, HB⟩ := hrel
    by_cases hi : (i : Int) < 16
    · have hib : decide ((i : Int) < 16) = true := decide_eq_true hi
      have hi2 : i < 16 := by omega
      have h0 : 0 ≤ (i : Int) := by omega
      have HI := Aside0.mk hi2
      have hl := lv23_sq BK1.out i hi2
      have hwi : wrap64 ((i : Int) + 1) = ((i + 1 : Nat) : Int) := by rw [w64r (by omega) (by omega)]; omega
      clear hi2
      go_wp2_with (first | (go_at_call 47; (with_reducible refine (row_calls _ _).mono ?_); rintro e w5 ⟨rfl, hb⟩; clear hl; have m1 := Aside0.mk (blk_below BK1.out hb); have m2 := Aside0.mk (blk_below BK2.out hb); have m3 := Aside0.mk (blk_below BK3.out hb); have m4 := Aside0.mk (below_step HB.out hb); clear hb BK1 BK2 BK3 HB; have hs := sv23_sq (r := fun x => d (16 * i + x)) m3.out i HI.out; have n1 := Aside0.mk ((setRow_other w5 g3 g1 (arA fun k => if 16 * i ≤ k ∧ k < 16 * i + 16 then d (16 * i + (k - 16 * i)) else if k < 16 * i then d k else 0) NE1_3.out).trans m1.out); have n2 := Aside0.mk ((setRow_other w5 g3 g2 (arA fun k => if 16 * i ≤ k ∧ k < 16 * i + 16 then d (16 * i + (k - 16 * i)) else if k < 16 * i then d k else 0) NE2_3.out).trans m2.out); have n3 := Aside0.mk (setRow_heap w5 g3 _ (arA fun k => if 16 * i ≤ k ∧ k < 16 * i + 16 then d (16 * i + (k - 16 * i)) else if k < 16 * i then d k else 0) 24 _ m3.out); have n4 := Aside0.mk (below_setRow m4.out GE3.out (arA fun k => if 16 * i ≤ k ∧ k < 16 * i + 16 then d (16 * i + (k - 16 * i)) else if k < 16 * i then d k else 0)); clear m1 m2 m3 m4))
      go_roundg (17 - (i + 1))
      case measure => have := HY.out; have := HI.out; omega
      case rel => exact ⟨i + 1, by first | rfl | (simp; done) | (simp [*]; done) | (rw [hwi]), ⟨by have := HI.out; omega, rfl⟩, n1, n2, by
        rw [arA_congr (q := fun j => if j < 16 * (i + 1) then d j else 0) (r := fun k => if 16 * i ≤ k ∧ k < 16 * i + 16 then d (16 * i + (k - 16 * i)) else if k < 16 * i then d k else 0) (fun j hj => by
          by_cases c : 16 * i ≤ j ∧ j < 16 * i + 16
          · rw [if_pos (show j < 16 * (i + 1) by omega), if_pos c, show 16 * i + (j - 16 * i) = j from by omega]
          · rw [if_neg c]
            by_cases c2 : j < 16 * i
            · rw [if_pos (show j < 16 * (i + 1) by omega), if_pos c2]
            · rw [if_neg (show ¬ j < 16 * (i + 1) by omega), if_neg c2])]
        exact n3, n4⟩
    · have hib : decide ((i : Int) < 16) = false := decide_eq_false hi
      have e : i = 16 := by have := HY.out; omega
      subst e
      rw [arA_congr (r := d) (fun j hj => if_pos hj)] at BK3
      have hl := lv24_own BK3.out
      have hs := sv24_at (d := d) BK2.out (arA_size _)
      have HB2 := Aside0.mk (below_setRow HB.out GE2.out (arA d))
      have hh := Aside0.mk (setRow_heap wr g2 _ (arA d) 24 _ BK2.out)
      clear hi HB BK1 BK2 BK3
      go_wp2
      refine bodyPost_ret (results_cell_row rfl _ _ g2 24 (arA d) (0, 0) _ rfl hh.out Tryd.underlying24 rfl (by rw [arA_size]; exact sz24)) rfl ?_
      exact ⟨rfl, HB2.out⟩

@[irreducible] def al28 (h : Bool) (old : Value) : Sem Value := Instr.alloc 28 h old
theorem al28_eq (h : Bool) (old : Value) : Instr.alloc 28 h old = al28 h old := by unfold al28; rfl
@[irreducible] def sv28 (a : Addr) (v : Value) : Sem Unit := storeVar 28 a v
theorem sv28_eq (a : Addr) (v : Value) : storeVar 28 a v = sv28 a v := by unfold sv28; rfl
attribute [local go_sem ↓] al28_eq sv28_eq
attribute [local go_sem ↓] lv26_eq lv28_eq
theorem zero28 : (Tryd.prog.info? 28).map (fun i => (i.zero, i.size)) = some (some (.agg (csBay 0 0 fun _ => 0)), 258) := by kernel_rfl
theorem al28_at (W : World) (old : Value) : (al28 true old).run Tryd.prog W = .ok (.pointer (some ⟨W.heap.size, 0, none⟩)) (W.alloc (.cells (csBay 0 0 fun _ => 0) 28)) := by
  unfold al28
  have hz := (zero_of_info zero28).1 W
  simp [Instr.alloc, hz, newVar, newRow, Value.cells]
theorem csBay_ext (q : Array Value) (a b : Int) (d : Nat → Int) (h : q.size = 258) (h0 : q[0]? = some (.int .i8 a)) (h1 : q[1]? = some (.int .i8 b)) (hq : ∀ i, i < 256 → q[2 + i]? = some (.int .i8 (d i))) : q = csBay a b d := by
  apply Array.ext_getElem?
  intro i
  by_cases c0 : i = 0
  · rw [c0, h0, csBay_0]
  · by_cases c1 : i = 1
    · rw [c1, h1, csBay_1]
    · by_cases c : i < 258
      · rw [show i = 2 + (i - 2) from by omega, hq _ (by omega), csBay_at a b d _ (by omega)]
      · rw [Array.getElem?_eq_none (by omega), Array.getElem?_eq_none (by rw [csBay_size]; omega)]
theorem csBay_one (a b : Int) (d : Nat → Int) : (csBay a b d).all (·.oneCell') = true := by
  rw [Array.all_eq_true']
  intro x hx
  obtain ⟨i, hi, rfl⟩ := Array.getElem_of_mem hx
  rw [csBay_size] at hi
  have hv : ∃ n : Int, (csBay a b d)[i]? = some (.int .i8 n) := by
    by_cases c0 : i = 0
    · exact ⟨a, by rw [c0, csBay_0]⟩
    · by_cases c1 : i = 1
      · exact ⟨b, by rw [c1, csBay_1]⟩
      · exact ⟨d (i - 2), by rw [show i = 2 + (i - 2) from by omega, csBay_at a b d _ (by omega), show 2 + (i - 2) - 2 = i - 2 from by omega]⟩
  obtain ⟨n, hn⟩ := hv
  rw [Array.getElem?_eq_some_iff] at hn
  obtain ⟨_, e⟩ := hn
  rw [e]
  rfl
theorem arA_one (d : Nat → Int) : (arA d).all (·.oneCell') = true := by
  rw [Array.all_eq_true']
  intro x hx
  obtain ⟨i, hi, rfl⟩ := Array.getElem_of_mem hx
  rw [arA_size] at hi
  have := arA_get d i hi
  rw [Array.getElem?_eq_some_iff] at this
  obtain ⟨_, e⟩ := this
  rw [e]
  rfl
theorem sv24_bay {W : World} {g : Nat} {a b : Int} {q d : Nat → Int} {t : TypeId} (h : W.heap[g]? = some (.cells (csBay a b q) t (0, 0))) : (sv24 ⟨g, 2, none⟩ (.agg (arA d))).run Tryd.prog W = .ok () (W.setRow g (csBay a b d)) := by
  have h1 := run_storeCells_at (P := Tryd.prog) g 2 t (arA d).toList 0 (csBay a b q) W h (by rw [Array.length_toList, csBay_size, arA_size]; omega) (fun v hv => (Array.all_eq_true_iff_forall_mem.1 (arA_one d)) v (by simpa using hv))
  have hg : ∀ i, ((csBay a b q).toList.take (2 + 0) ++ (arA d).toList ++ (csBay a b q).toList.drop (2 + 0 + (arA d).toList.length)).toArray[i]? = if 2 ≤ i ∧ i < 2 + 256 then (arA d)[i - 2]? else (csBay a b q)[i]? := by
    intro i
    rw [List.getElem?_toArray, Nat.add_zero, seg_get _ _ _ _ (by rw [Array.length_toList, Array.length_toList, arA_size, csBay_size]; omega), Array.length_toList, arA_size, Array.getElem?_toList, Array.getElem?_toList]
  have e : ((csBay a b q).toList.take (2 + 0) ++ (arA d).toList ++ (csBay a b q).toList.drop (2 + 0 + (arA d).toList.length)).toArray = csBay a b d := csBay_ext _ a b d (by simp [csBay_size, arA_size]) (by rw [hg, if_neg (by omega), csBay_0]) (by rw [hg, if_neg (by omega), csBay_1]) (fun i hi => by rw [hg, if_pos (by omega), arA_get d _ (by omega), show 2 + i - 2 = i from by omega])
  rw [e] at h1
  have hn : ¬ (Value.agg (arA d)).cells.size ≠ 256 := by
    show ¬ (arA d).size ≠ 256
    rw [arA_size]
    simp
  unfold sv24
  simp only [storeVar, Sem.run_bind, run_size sz24 W, Result.andThen_ok]
  rw [if_neg hn]
  exact h1
theorem sv28_at {W : World} {g : Nat} {c : Array Value} {a b : Int} {d : Nat → Int} (h : W.heap[g]? = some (.cells c 28 (0, 0))) (hs : c.size = 258) : (sv28 ⟨g, 0, none⟩ (.agg (csBay a b d))).run Tryd.prog W = .ok () (W.setRow g (csBay a b d)) := by
  unfold sv28
  exact run_storeVar_row W g 28 28 _ _ h (by rw [csBay_size]; exact info28s) (by rw [hs, csBay_size]) (csBay_one a b d)
set_option maxHeartbeats 8000000 in
set_option maxRecDepth 100000 in
theorem toBay_calls (a b : Int) (d : Nat → Int) (w : World) :
    Calls Tryd.prog 8 #[.agg (csBay a b d)] w fun e w' => e = .returned (.agg (csBay a b d)) ∧ Below w.heap.size w w' := by
  have hu26 := Tryd.underlying26
  have hu28 := Tryd.underlying28
  have HB := Aside0.mk (Below.refl w.heap.size w)
  have hal := al28_at
  go_enter Tryd.func8, Tryd.ntmps8
  go_upto_region 2 with (first | ((with_reducible refine gate_dst (N := 1) rfl ?_); refine box_event ?hg (N := 1) ?hd (cs := csBay a b d) (t := 26) ?hr ?_; (case hd => rfl); (case hg => rfl); (case hr => first | (go_simp; done) | (go_simp; rfl)); intro g1 hg w1 hbox hb; have n0_ := Aside0.mk (below_step HB.out hb); have GE1 := Aside0.mk (show w.heap.size ≤ g1 from by rw [hg]; exact below_size HB.out); clear HB; have HB := n0_; clear n0_; have BK1 := Aside0.mk hbox; clear hbox hb hg) | ((with_reducible refine gate_dst (N := 2) rfl ?_); refine box_event ?hg (N := 2) ?hd (cs := csBay 0 0 fun _ => 0) (t := 28) ?hr ?_; (case hd => rfl); (case hg => rfl); (case hr => first | (go_simp; done) | (go_simp; rfl)); intro g2 hg w2 hbox hb; have NE1_2 := Aside0.mk (show g1 ≠ g2 from by rw [hg]; exact Nat.ne_of_lt (blk_lt BK1.out)); have m1_ := Aside0.mk (blk_below BK1.out hb); clear BK1; have BK1 := m1_; clear m1_; have n0_ := Aside0.mk (below_step HB.out hb); have GE2 := Aside0.mk (show w.heap.size ≤ g2 from by rw [hg]; exact below_size HB.out); clear HB; have HB := n0_; clear n0_; have BK2 := Aside0.mk hbox; clear hbox hb hg) | ((with_reducible refine gate_dst (N := 3) rfl ?_); refine box_event ?hg (N := 3) ?hd (cs := csBay 0 0 fun _ => 0) (t := 28) ?hr ?_; (case hd => rfl); (case hg => rfl); (case hr => first | (go_simp; done) | (go_simp; rfl)); intro g3 hg w3 hbox hb; have NE1_3 := Aside0.mk (show g1 ≠ g3 from by rw [hg]; exact Nat.ne_of_lt (blk_lt BK1.out)); have m1_ := Aside0.mk (blk_below BK1.out hb); clear BK1; have BK1 := m1_; clear m1_; have NE2_3 := Aside0.mk (show g2 ≠ g3 from by rw [hg]; exact Nat.ne_of_lt (blk_lt BK2.out)); have m2_ := Aside0.mk (blk_below BK2.out hb); clear BK2; have BK2 := m2_; clear m2_; have n0_ := Aside0.mk (below_step HB.out hb); have GE3 := Aside0.mk (show w.heap.size ≤ g3 from by rw [hg]; exact below_size HB.out); clear HB; have HB := n0_; clear n0_; have BK3 := Aside0.mk hbox; clear hbox hb hg))
  clear hal
  have hx := (blk_cell BK1.out 0).trans (csBay_0 a b d)
  have hc := (blk_cell BK3.out 0).trans (csBay_0 0 0 fun _ => 0)
  have hf := blk_frozen BK3.out 0
  go_upto_region 3 with fail
  clear hx hc hf
  have n1 := Aside0.mk (blk_far BK1.out (p := ⟨g3, 0, none⟩) NE1_3.out (.int .i8 a))
  have n2 := Aside0.mk (blk_far BK2.out (p := ⟨g3, 0, none⟩) NE2_3.out (.int .i8 a))
  have n3 := Aside0.mk (blk_set BK3.out 0 (.int .i8 a))
  have n4 := Aside0.mk (below_set HB.out GE3.out (j := 0) (v := .int .i8 a))
  rw [set_0] at n3
  clear BK1 BK2 BK3 HB
  generalize w3.setCell ⟨g3, 0, none⟩ (.int .i8 a) = w4 at *
  have hx := (blk_cell n1.out 1).trans (csBay_1 a b d)
  have hc := (blk_cell n3.out 1).trans (csBay_1 a 0 fun _ => 0)
  have hf := blk_frozen n3.out 1
  go_upto_region 4 with fail
  clear hx hc hf
  have m1 := Aside0.mk (blk_far n1.out (p := ⟨g3, 1, none⟩) NE1_3.out (.int .i8 b))
  have m2 := Aside0.mk (blk_far n2.out (p := ⟨g3, 1, none⟩) NE2_3.out (.int .i8 b))
  have m3 := Aside0.mk (blk_set n3.out 1 (.int .i8 b))
  have m4 := Aside0.mk (below_set n4.out GE3.out (j := 1) (v := .int .i8 b))
  rw [set_1] at m3
  clear n1 n2 n3 n4
  generalize w4.setCell ⟨g3, 1, none⟩ (.int .i8 b) = w5 at *
  have hl := lv24_at m1.out
  go_upto_region 5 with (first | (go_at_call 24; (with_reducible refine (sq_calls _ _).mono ?_); rintro e w6 ⟨rfl, hb⟩; clear hl; have k2 := Aside0.mk (blk_below m2.out hb); have k3 := Aside0.mk (blk_below m3.out hb); have k4 := Aside0.mk (below_step m4.out hb); clear hb m1 m2 m3 m4; have hs := sv24_bay (d := d) k3.out))
  clear hs
  have j2 := Aside0.mk ((setRow_other w6 g3 g2 (csBay a b d) NE2_3.out).trans k2.out)
  have j3 := Aside0.mk (setRow_heap w6 g3 _ (csBay a b d) 28 _ k3.out)
  have j4 := Aside0.mk (below_setRow k4.out GE3.out (csBay a b d))
  clear k2 k3 k4
  generalize w6.setRow g3 (csBay a b d) = w7 at *
  have hl := lv28_at j3.out
  have hs := sv28_at (a := a) (b := b) (d := d) j2.out (csBay_size _ _ _)
  have HB2 := Aside0.mk (below_setRow j4.out GE2.out (csBay a b d))
  have hh := Aside0.mk (setRow_heap w7 g2 _ (csBay a b d) 28 _ j2.out)
  clear j2 j3 j4
  go_wp2
  refine bodyPost_ret (results_cell_row rfl _ _ g2 28 (csBay a b d) (0, 0) _ rfl hh.out Tryd.underlying28 rfl (by rw [csBay_size]; exact info28s)) rfl ?_
  exact ⟨rfl, HB2.out⟩
end Go.Proofs.YteffdjfiialdfaaDoor.BayIn
