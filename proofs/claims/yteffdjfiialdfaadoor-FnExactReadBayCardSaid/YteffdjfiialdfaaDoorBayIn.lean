import Derived.Test.YteffdjfiialdfaaDoorBay
import Derived.Test.YteffdjfiialdfaaDoorWMore
import Derived.Deep.WholeRow
import Derived.Deep.LoopGhost
import Derived.WalkKit
import Derived.OwnWalk
import Derived.RowKit3
import Derived.BigQuiet
import Derived.Laws.CopyOwn
namespace Go.Proofs.YteffdjfiialdfaaDoor.BayIn
open Go Go.RowKit Go.Proofs.YteffdjfiialdfaaDoorW.PrintWords Go.Proofs.YteffdjfiialdfaaDoorW.PrintLast Go.Proofs.YteffdjfiialdfaaDoorW.PrintMore Go.Proofs.YteffdjfiialdfaaDoor.Bay
set_option linter.unusedVariables false
/-- The cells of the depths alone; of one row. -/
def arA (d : Nat → Int) : Array Value := ⟨arL d⟩
theorem arA_size (d : Nat → Int) : (arA d).size = 256 := by simp [arA, arL_length]
theorem arA_get (d : Nat → Int) (i : Nat) (h : i < 256) : (arA d)[i]? = some (.int .i8 (d i)) := by simp [arA, arL_get d i h]
def arR (d : Nat → Int) (y : Nat) : Array Value := (arA d).extract (y * 16) (y * 16 + 16)
theorem arR_size (d : Nat → Int) (y : Nat) (h : y < 16) : (arR d y).size = 16 := by simp [arR, arA_size]; omega
theorem arR_get (d : Nat → Int) (y x : Nat) (h : y < 16) (h2 : x < 16) : (arR d y)[x]? = some (.int .i8 (d (16 * y + x))) := by
  have := arA_get d (y * 16 + x) (by omega)
  rw [arR, Array.getElem?_extract]
  rw [if_pos (by rw [arA_size]; omega), this, Nat.mul_comm]
theorem sz22 : (Tryd.prog.info? 22).map (·.size) = some 1 := by kernel_rfl
theorem sz23 : (Tryd.prog.info? 23).map (·.size) = some 16 := by kernel_rfl
theorem sz24 : (Tryd.prog.info? 24).map (·.size) = some 256 := by kernel_rfl
theorem run_size {t : TypeId} {n : Nat} (h : (Tryd.prog.info? t).map (·.size) = some n) (W : World) : (sizeOf t).run Tryd.prog W = .ok n W := by
  cases hq : Tryd.prog.info? t with
  | none => simp [hq] at h
  | some i => simp [hq] at h; simp [sizeOf, typeInfo, hq, h]
@[irreducible] def lv24 (a : Addr) : Sem Value := loadVar 24 a
theorem lv24_eq (a : Addr) : loadVar 24 a = lv24 a := by unfold lv24; rfl
@[irreducible] def lv23 (a : Addr) : Sem Value := loadVar 23 a
theorem lv23_eq (a : Addr) : loadVar 23 a = lv23 a := by unfold lv23; rfl
@[irreducible] def sv23 (a : Addr) (v : Value) : Sem Unit := storeVar 23 a v
theorem sv23_eq (a : Addr) (v : Value) : storeVar 23 a v = sv23 a v := by unfold sv23; rfl
@[irreducible] def ix24 (x i : Value) : Sem Value := Instr.index 24 x i
theorem ix24_eq (x i : Value) : Instr.index 24 x i = ix24 x i := by unfold ix24; rfl
@[irreducible] def ix23 (x i : Value) : Sem Value := Instr.index 23 x i
theorem ix23_eq (x i : Value) : Instr.index 23 x i = ix23 x i := by unfold ix23; rfl
attribute [local go_sem ↓] lv24_eq lv23_eq sv23_eq ix24_eq ix23_eq
theorem agg_of {t : TypeId} {n : Nat} {e : TypeId} (hu : Tryd.prog.underlying t = some (.array n e)) (W : World) : (isAgg t).run Tryd.prog W = .ok true W := by
  unfold isAgg
  rw [Sem.run_bind, run_underlying hu W]
  rfl
theorem lv24_at {W : World} {g : Nat} {a b : Int} {d : Nat → Int} {t : TypeId} (h : W.heap[g]? = some (.cells (csBay a b d) t (0, 0))) : (lv24 ⟨g, 2, none⟩).run Tryd.prog W = .ok (.agg (arA d)) W := by
  have hl : (loadCells ⟨g, 2, none⟩ (arL d).length).run Tryd.prog W = .ok (arL d).toArray W :=
    run_loadCells_list (P := Tryd.prog) W ⟨g, 2, none⟩ (arL d) (fun j v hv => by
      have hadd : (⟨g, 2, none⟩ : Addr).add j = ⟨g, 2 + j, none⟩ := by unfold Addr.add; split <;> simp_all
      have hj : j < 256 := by
        have := (List.getElem?_eq_some_iff.1 hv).1
        rwa [arL_length] at this
      rw [hadd, cell_at h j hj, ← arL_get d j hj, hv])
  rw [arL_length] at hl
  unfold lv24
  simp only [loadVar, Sem.run_bind, agg_of Tryd.underlying24 W, Result.andThen_ok, run_size sz24 W, if_true, hl]
  rfl
theorem lv23_at {W : World} {g : Nat} {cs : Array Value} (h : W.heap[g]? = some (.cells cs 23 (0, 0))) (hs : cs.size = 16) : (lv23 ⟨g, 0, none⟩).run Tryd.prog W = .ok (.agg cs) W := by
  unfold lv23
  exact run_loadVar_row W g 23 23 _ (0, 0) _ h Tryd.underlying23 rfl (by rw [hs]; exact sz23)
theorem ix24_at (W : World) (d : Nat → Int) (j : Int) (h0 : 0 ≤ j) (h1 : j < 16) : (ix24 (.agg (arA d)) (.int .i64 j)).run Tryd.prog W = .ok (.agg (arR d j.toNat)) W := by
  unfold ix24
  simp only [Instr.index, asIntOf, Sem.run_bind, Sem.run_pure, Result.andThen_ok, run_underlying Tryd.underlying24 W]
  rw [if_pos ⟨h0, h1⟩]
  simp only [Sem.run_bind, run_size sz23 W, Result.andThen_ok, part, agg_of Tryd.underlying23 W, if_true]
  rfl
theorem ix23_at (W : World) (d : Nat → Int) (y : Nat) (hy : y < 16) (j : Int) (h0 : 0 ≤ j) (h1 : j < 16) : (ix23 (.agg (arR d y)) (.int .i64 j)).run Tryd.prog W = .ok (.int .i8 (d (16 * y + j.toNat))) W := by
  have hn : (isAgg 22).run Tryd.prog W = .ok false W := by
    unfold isAgg
    rw [Sem.run_bind, run_underlying Tryd.underlying22 W]
    rfl
  unfold ix23
  simp only [Instr.index, asIntOf, Sem.run_bind, Sem.run_pure, Result.andThen_ok, run_underlying Tryd.underlying23 W]
  rw [if_pos ⟨h0, h1⟩]
  simp only [Sem.run_bind, run_size sz22 W, Result.andThen_ok, part, hn, Bool.false_eq_true, if_false, Nat.mul_one]
  rw [arR_get d y j.toNat hy (by omega)]
  rfl
theorem arR_one (d : Nat → Int) (y : Nat) (h : y < 16) : (arR d y).all (·.oneCell') = true := by
  rw [Array.all_eq_true']
  intro x hx
  obtain ⟨i, hi, rfl⟩ := Array.getElem_of_mem hx
  rw [arR_size d y h] at hi
  have := arR_get d y i h hi
  rw [Array.getElem?_eq_some_iff] at this
  obtain ⟨_, e⟩ := this
  rw [e]
  rfl
theorem sv23_at {W : World} {g : Nat} {c : Array Value} {d : Nat → Int} {y : Nat} (hy : y < 16) (h : W.heap[g]? = some (.cells c 23 (0, 0))) (hs : c.size = 16) : (sv23 ⟨g, 0, none⟩ (.agg (arR d y))).run Tryd.prog W = .ok () (W.setRow g (arR d y)) := by
  unfold sv23
  exact run_storeVar_row W g 23 23 _ _ h (by rw [arR_size d y hy]; exact sz23) (by rw [hs, arR_size d y hy]) (arR_one d y hy)
theorem w64r {n : Int} (h : -9223372036854775808 ≤ n) (h2 : n ≤ 9223372036854775807) : wrap64 n = n := by unfold wrap64; omega
/-- What the program asks of a depth; of a bay. -/
def okD (a b : Int) (y x : Nat) (v : Int) : Prop := 0 ≤ v ∧ v ≤ 30 ∧ (v ≠ 0 → (x : Int) < a ∧ (y : Int) < b)
instance (a b : Int) (y x : Nat) (v : Int) : Decidable (okD a b y x v) := by unfold okD; infer_instance
def okBay (a b : Int) (d : Nat → Int) : Prop := 1 ≤ a ∧ a ≤ 16 ∧ 1 ≤ b ∧ b ≤ 16 ∧ ∀ y, y < 16 → ∀ x, x < 16 → okD a b y x (d (16 * y + x))
instance (a b : Int) (d : Nat → Int) : Decidable (okBay a b d) := by unfold okBay; infer_instance
set_option maxHeartbeats 8000000 in
set_option maxRecDepth 100000 in
theorem validBay_calls (a b : Int) (d : Nat → Int) (w : World) :
    Calls Tryd.prog 25 #[.agg (csBay a b d)] w fun e w' => e = .returned (.bool (decide (okBay a b d))) ∧ Below w.heap.size w w' := by
  have hu28 := Tryd.underlying28
  obtain ⟨r, hr0⟩ : ∃ r, decide (okBay a b d) = r := ⟨_, rfl⟩
  rw [hr0]
  have HR := Aside0.mk hr0
  clear hr0
  have HB := Aside0.mk (Below.refl w.heap.size w)
  by_cases c1 : a < 1
  · have hr : decide (okBay a b d) = false := decide_eq_false (fun h => by have := h.1; have := h.2.1; have := h.2.2.1; have := h.2.2.2.1; omega)
    obtain rfl : r = false := HR.out.symm.trans hr
    clear hr HR
    have c1b0 : decide (a < 1) = true := decide_eq_true c1
    clear c1
    go_enter Tryd.func25, Tryd.ntmps25
    go_wp2_with (first | ((with_reducible refine gate_dst (N := 1) rfl ?_); refine box_event ?hg (N := 1) ?hd (cs := csBay a b d) (t := 28) ?hr ?_; (case hd => rfl); (case hg => rfl); (case hr => first | (go_simp; done) | (go_simp; rfl)); intro gb1 hg w1 hbox hb; have n0_ := Aside0.mk (below_step HB.out hb); have hc0 := (blk_cell hbox 0).trans (csBay_0 a b d); have hc1 := (blk_cell hbox 1).trans (csBay_1 a b d); have GE := Aside0.mk (show w.heap.size ≤ gb1 from by rw [hg]; exact Nat.le_refl _); clear HB; have HB := n0_; clear n0_; have BK := Aside0.mk hbox; clear hbox hb hg))
    go_ret
    exact ⟨rfl, HB.out⟩
  · skip
    by_cases c2 : 16 < a
    · have hr : decide (okBay a b d) = false := decide_eq_false (fun h => by have := h.1; have := h.2.1; have := h.2.2.1; have := h.2.2.2.1; omega)
      obtain rfl : r = false := HR.out.symm.trans hr
      clear hr HR
      have c1b0 : decide (a < 1) = false := decide_eq_false c1
      have c2b0 : decide (16 < a) = true := decide_eq_true c2
      clear c1 c2
      go_enter Tryd.func25, Tryd.ntmps25
      go_wp2_with (first | ((with_reducible refine gate_dst (N := 1) rfl ?_); refine box_event ?hg (N := 1) ?hd (cs := csBay a b d) (t := 28) ?hr ?_; (case hd => rfl); (case hg => rfl); (case hr => first | (go_simp; done) | (go_simp; rfl)); intro gb1 hg w1 hbox hb; have n0_ := Aside0.mk (below_step HB.out hb); have hc0 := (blk_cell hbox 0).trans (csBay_0 a b d); have hc1 := (blk_cell hbox 1).trans (csBay_1 a b d); have GE := Aside0.mk (show w.heap.size ≤ gb1 from by rw [hg]; exact Nat.le_refl _); clear HB; have HB := n0_; clear n0_; have BK := Aside0.mk hbox; clear hbox hb hg))
      go_ret
      exact ⟨rfl, HB.out⟩
    · skip
      by_cases c3 : b < 1
      · have hr : decide (okBay a b d) = false := decide_eq_false (fun h => by have := h.1; have := h.2.1; have := h.2.2.1; have := h.2.2.2.1; omega)
        obtain rfl : r = false := HR.out.symm.trans hr
        clear hr HR
        have c1b0 : decide (a < 1) = false := decide_eq_false c1
        have c2b0 : decide (16 < a) = false := decide_eq_false c2
        have c3b0 : decide (b < 1) = true := decide_eq_true c3
        clear c1 c2 c3
        go_enter Tryd.func25, Tryd.ntmps25
        go_wp2_with (first | ((with_reducible refine gate_dst (N := 1) rfl ?_); refine box_event ?hg (N := 1) ?hd (cs := csBay a b d) (t := 28) ?hr ?_; (case hd => rfl); (case hg => rfl); (case hr => first | (go_simp; done) | (go_simp; rfl)); intro gb1 hg w1 hbox hb; have n0_ := Aside0.mk (below_step HB.out hb); have hc0 := (blk_cell hbox 0).trans (csBay_0 a b d); have hc1 := (blk_cell hbox 1).trans (csBay_1 a b d); have GE := Aside0.mk (show w.heap.size ≤ gb1 from by rw [hg]; exact Nat.le_refl _); clear HB; have HB := n0_; clear n0_; have BK := Aside0.mk hbox; clear hbox hb hg))
        go_ret
        exact ⟨rfl, HB.out⟩
      · skip
        by_cases c4 : 16 < b
        · have hr : decide (okBay a b d) = false := decide_eq_false (fun h => by have := h.1; have := h.2.1; have := h.2.2.1; have := h.2.2.2.1; omega)
          obtain rfl : r = false := HR.out.symm.trans hr
          clear hr HR
          have c1b0 : decide (a < 1) = false := decide_eq_false c1
          have c2b0 : decide (16 < a) = false := decide_eq_false c2
          have c3b0 : decide (b < 1) = false := decide_eq_false c3
          have c4b0 : decide (16 < b) = true := decide_eq_true c4
          clear c1 c2 c3 c4
          go_enter Tryd.func25, Tryd.ntmps25
          go_wp2_with (first | ((with_reducible refine gate_dst (N := 1) rfl ?_); refine box_event ?hg (N := 1) ?hd (cs := csBay a b d) (t := 28) ?hr ?_; (case hd => rfl); (case hg => rfl); (case hr => first | (go_simp; done) | (go_simp; rfl)); intro gb1 hg w1 hbox hb; have n0_ := Aside0.mk (below_step HB.out hb); have hc0 := (blk_cell hbox 0).trans (csBay_0 a b d); have hc1 := (blk_cell hbox 1).trans (csBay_1 a b d); have GE := Aside0.mk (show w.heap.size ≤ gb1 from by rw [hg]; exact Nat.le_refl _); clear HB; have HB := n0_; clear n0_; have BK := Aside0.mk hbox; clear hbox hb hg))
          go_ret
          exact ⟨rfl, HB.out⟩
        · skip
          have c1b0 : decide (a < 1) = false := decide_eq_false c1
          have c2b0 : decide (16 < a) = false := decide_eq_false c2
          have c3b0 : decide (b < 1) = false := decide_eq_false c3
          have c4b0 : decide (16 < b) = false := decide_eq_false c4
          have C := Aside0.mk (show 1 ≤ a ∧ a ≤ 16 ∧ 1 ≤ b ∧ b ≤ 16 from by omega)
          clear c1 c2 c3 c4
          go_enter Tryd.func25, Tryd.ntmps25
          go_upto_region 3 with (first | ((with_reducible refine gate_dst (N := 1) rfl ?_); refine box_event ?hg (N := 1) ?hd (cs := csBay a b d) (t := 28) ?hr ?_; (case hd => rfl); (case hg => rfl); (case hr => first | (go_simp; done) | (go_simp; rfl)); intro gb1 hg w1 hbox hb; have n0_ := Aside0.mk (below_step HB.out hb); have hc0 := (blk_cell hbox 0).trans (csBay_0 a b d); have hc1 := (blk_cell hbox 1).trans (csBay_1 a b d); have GE := Aside0.mk (show w.heap.size ≤ gb1 from by rw [hg]; exact Nat.le_refl _); clear HB; have HB := n0_; clear n0_; have BK := Aside0.mk hbox; clear hbox hb hg))
          have hl24 := lv24_at BK.out
          go_wp2
          clear hl24 hc0 hc1
          go_loopg [27] 17 (fun kq v27 w' => ∃ y : Nat, v27 = .int .i64 (y : Int) ∧ Aside0 (y ≤ 16 ∧ kq = 17 - y) ∧ Aside0 (∀ j, j < y → ∀ x, x < 16 → okD a b j x (d (16 * j + x))) ∧ Aside0 (Below w.heap.size w w') ∧ Aside0 (w'.heap[gb1]? = some (.cells (csBay a b d) 28 (0, 0))))
          case atStart => exact ⟨0, rfl, ⟨by omega, rfl⟩, ⟨fun j h => by omega⟩, HB, BK⟩
          case round =>
            clear HB BK
            obtain ⟨y, rfl, HY, HA, HB, BK⟩ := hrel
            by_cases hy : (y : Int) < 16
            · have hix := fun (W : World) => ix24_at W d y (by omega) hy
              have hyb : decide ((y : Int) < 16) = true := decide_eq_true hy
              have hy2 : y < 16 := by omega
              have HY2 := Aside0.mk hy2
              clear hy hy2
              rw [Int.toNat_natCast] at hix
              have hs23 : (sv23 ⟨wr.heap.size, 0, none⟩ (.agg (arR d y))).run Tryd.prog (wr.alloc (.cells #[.int .i8 0, .int .i8 0, .int .i8 0, .int .i8 0, .int .i8 0, .int .i8 0, .int .i8 0, .int .i8 0, .int .i8 0, .int .i8 0, .int .i8 0, .int .i8 0, .int .i8 0, .int .i8 0, .int .i8 0, .int .i8 0] 23)) = .ok () (wr.alloc (.cells (arR d y) 23)) := by
                unfold sv23
                exact run_storeVar_new wr 23 _ _ (by rw [arR_size d y HY2.out]; exact sz23) (by rw [arR_size d y HY2.out]; rfl) (arR_one d y HY2.out)
              have hl23 : (lv23 ⟨wr.heap.size, 0, none⟩).run Tryd.prog (wr.alloc (.cells (arR d y) 23)) = .ok (.agg (arR d y)) (wr.alloc (.cells (arR d y) 23)) := lv23_at (heap_alloc_last wr _) (arR_size d y HY2.out)
              go_wp2
              clear hs23 hl23 hix hyb
              have HB2 := Aside0.mk (below_alloc HB.out (.cells (arR d y) 23))
              have BK2 := Aside0.mk (show (wr.alloc (.cells (arR d y) 23)).heap[gb1]? = some (.cells (csBay a b d) 28 (0, 0)) from blk_alloc BK.out _)
              clear HB BK
              go_loopg [32] 17 (fun kq v32 w' => ∃ x : Nat, v32 = .int .i64 (x : Int) ∧ Aside0 (x ≤ 16 ∧ kq = 17 - x) ∧ Aside0 (∀ j, j < x → okD a b y j (d (16 * y + j))) ∧ Aside0 (Below w.heap.size w w') ∧ Aside0 (w'.heap[gb1]? = some (.cells (csBay a b d) 28 (0, 0))))
              case atStart => exact ⟨0, rfl, ⟨by omega, rfl⟩, ⟨fun j h => by omega⟩, HB2, BK2⟩
              case round =>
                clear HB2 BK2
                obtain ⟨x, rfl, HX, HD, HB, BK⟩ := hrel
                by_cases hx : (x : Int) < 16
                · have hix := fun (W : World) => ix23_at W d y HY2.out x (by omega) hx
                  have hxb : decide ((x : Int) < 16) = true := decide_eq_true hx
                  have hx2 : x < 16 := by omega
                  rw [Int.toNat_natCast] at hix
                  have hc0 := (blk_cell BK.out 0).trans (csBay_0 a b d)
                  have hc1 := (blk_cell BK.out 1).trans (csBay_1 a b d)
                  have hwa : wrap64 a = a := w64r (by have := C.out; omega) (by have := C.out; omega)
                  have hwb : wrap64 b = b := w64r (by have := C.out; omega) (by have := C.out; omega)
                  have hwx : wrap64 ((x : Int) + 1) = ((x + 1 : Nat) : Int) := by rw [w64r (by omega) (by omega)]; omega
                  obtain ⟨v, hv⟩ : ∃ v, d (16 * y + x) = v := ⟨_, rfl⟩
                  simp only [hv] at hix
                  have HV := Aside0.mk hv
                  have HXX := Aside0.mk hx2
                  by_cases d1 : v < 0
                  · have hr : decide (okBay a b d) = false := decide_eq_false (fun h => by
                      have h9 := h.2.2.2.2 y HY2.out x hx2
                      rw [HV.out] at h9; have := h9.1; omega)
                    obtain rfl : r = false := HR.out.symm.trans hr
                    clear hr HR
                    have hb0 : decide (v < 0) = true := decide_eq_true d1
                    clear hv hx hx2
                    go_wp2
                    go_ret
                    exact ⟨rfl, HB.out⟩
                  · by_cases d2 : 30 < v
                    · have hr : decide (okBay a b d) = false := decide_eq_false (fun h => by
                        have h9 := h.2.2.2.2 y HY2.out x hx2
                        rw [HV.out] at h9; have := h9.2.1; omega)
                      obtain rfl : r = false := HR.out.symm.trans hr
                      clear hr HR
                      have hb0 : decide (v < 0) = false := decide_eq_false d1
                      have hb1 : decide (30 < v) = true := decide_eq_true d2
                      clear hv hx hx2
                      go_wp2
                      go_ret
                      exact ⟨rfl, HB.out⟩
                    · by_cases d3 : v = 0
                      · have hk : okD a b y x v := ⟨by omega, by omega, fun h => by first | exact absurd d3 h | omega⟩
                        have hb0 : decide (v < 0) = false := decide_eq_false d1
                        have hb1 : decide (30 < v) = false := decide_eq_false d2
                        have hb2 : (v == 0) = true := beq_iff_eq.mpr d3
                        have hb3 : (v != 0) = false := bne_eq_false_iff_eq.mpr d3
                        have HK := Aside0.mk hk
                        clear hk hv hx hx2
                        go_wp2
                        go_roundg (17 - (x + 1))
                        case measure => have := HX.out; have := HXX.out; omega
                        case rel => exact ⟨x + 1, by first | rfl | (simp; done) | (simp [*]; done) | (rw [hwx]), ⟨by have := HXX.out; omega, rfl⟩, ⟨fun j hj => by
                          by_cases e : j = x
                          · rw [e, HV.out]; exact HK.out
                          · exact HD.out j (by omega)⟩, HB, BK⟩
                      · by_cases d4 : a ≤ (x : Int)
                        · have hr : decide (okBay a b d) = false := decide_eq_false (fun h => by
                            have h9 := h.2.2.2.2 y HY2.out x hx2
                            rw [HV.out] at h9; have := (h9.2.2 d3).1; omega)
                          obtain rfl : r = false := HR.out.symm.trans hr
                          clear hr HR
                          have hb0 : decide (v < 0) = false := decide_eq_false d1
                          have hb1 : decide (30 < v) = false := decide_eq_false d2
                          have hb2 : (v == 0) = false := beq_eq_false_iff_ne.mpr d3
                          have hb3 : (v != 0) = true := bne_iff_ne.mpr d3
                          have hb4 : decide (a ≤ (x : Int)) = true := decide_eq_true d4
                          clear hv hx hx2
                          go_wp2
                          go_ret
                          exact ⟨rfl, HB.out⟩
                        · by_cases d5 : b ≤ (y : Int)
                          · have hr : decide (okBay a b d) = false := decide_eq_false (fun h => by
                              have h9 := h.2.2.2.2 y HY2.out x hx2
                              rw [HV.out] at h9; have := (h9.2.2 d3).2; omega)
                            obtain rfl : r = false := HR.out.symm.trans hr
                            clear hr HR
                            have hb0 : decide (v < 0) = false := decide_eq_false d1
                            have hb1 : decide (30 < v) = false := decide_eq_false d2
                            have hb2 : (v == 0) = false := beq_eq_false_iff_ne.mpr d3
                            have hb3 : (v != 0) = true := bne_iff_ne.mpr d3
                            have hb4 : decide (a ≤ (x : Int)) = false := decide_eq_false d4
                            have hb5 : decide (b ≤ (y : Int)) = true := decide_eq_true d5
                            clear hv hx hx2
                            go_wp2
                            go_ret
                            exact ⟨rfl, HB.out⟩
                          · have hk : okD a b y x v := ⟨by omega, by omega, fun h => by first | exact absurd d3 h | omega⟩
                            have hb0 : decide (v < 0) = false := decide_eq_false d1
                            have hb1 : decide (30 < v) = false := decide_eq_false d2
                            have hb2 : (v == 0) = false := beq_eq_false_iff_ne.mpr d3
                            have hb3 : (v != 0) = true := bne_iff_ne.mpr d3
                            have hb4 : decide (a ≤ (x : Int)) = false := decide_eq_false d4
                            have hb5 : decide (b ≤ (y : Int)) = false := decide_eq_false d5
                            have HK := Aside0.mk hk
                            clear hk hv hx hx2
                            go_wp2
                            go_roundg (17 - (x + 1))
                            case measure => have := HX.out; have := HXX.out; omega
                            case rel => exact ⟨x + 1, by first | rfl | (simp; done) | (simp [*]; done) | (rw [hwx]), ⟨by have := HXX.out; omega, rfl⟩, ⟨fun j hj => by
                              by_cases e : j = x
                              · rw [e, HV.out]; exact HK.out
                              · exact HD.out j (by omega)⟩, HB, BK⟩
                · have hxb : decide ((x : Int) < 16) = false := decide_eq_false hx
                  have HXX := Aside0.mk hx
                  have hwy : wrap64 ((y : Int) + 1) = ((y + 1 : Nat) : Int) := by rw [w64r (by have := HY2.out; omega) (by have := HY2.out; omega)]; omega
                  clear hx
                  go_wp2
                  go_roundg (17 - (y + 1))
                  case measure => have := HY.out; have := HY2.out; omega
                  case rel => exact ⟨y + 1, by first | rfl | (simp; done) | (simp [*]; done) | (rw [hwy]), ⟨by have := HY2.out; omega, rfl⟩, ⟨fun j hj => by
                    by_cases e : j = y
                    · rw [e]; exact fun q hq => HD.out q (by have := HXX.out; have := HX.out; omega)
                    · exact HA.out j (by omega)⟩, HB, BK⟩
            · have hyb : decide ((y : Int) < 16) = false := decide_eq_false hy
              have hr : decide (okBay a b d) = true := decide_eq_true ⟨C.out.1, C.out.2.1, C.out.2.2.1, C.out.2.2.2, fun j hj => HA.out j (by have := HY.out.1; omega)⟩
              obtain rfl : r = true := HR.out.symm.trans hr
              clear hr hy
              go_wp2
              go_ret
              exact ⟨rfl, HB.out⟩
end Go.Proofs.YteffdjfiialdfaaDoor.BayIn
