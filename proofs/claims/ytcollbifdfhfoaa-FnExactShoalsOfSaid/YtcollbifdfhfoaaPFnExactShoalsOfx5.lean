-- Written by a program out of this seat's translation (functions, and that the code comes to them).
import Derived.Test.YtcollbifdfhfoaaPFnExactShoalsOfx0
import Derived.Test.YtcollbifdfhfoaaPFnExactShoalsOfx1
import Derived.Test.YtcollbifdfhfoaaPFnExactShoalsOfx3
import Derived.Test.YtcollbifdfhfoaaPFnExactShoalsOfx4
namespace Go.Proofs.Ytcollbifdfhfoaa.PFnExactShoalsOf
open Go.RowKit Go.Proofs.YtcollbifdfhfoaaW.PrintWords Go.Proofs.YtcollbifdfhfoaaW.PrintLast Go.Proofs.YtcollbifdfhfoaaW.PrintMore
attribute [local go_sem] max2_int min2_int max_two min_two max_three min_three max_four min_four   -- for this text's walks alone
open Go.Proofs.Ytcollbifdfhfoaa.Bay Go.Proofs.Ytcollbifdfhfoaa.Short
attribute [local go_sem ↓] lv26_eq lv28_eq
attribute [local go_sem] lvv_set lvv_drewN lvv_drew lv26_run BayAt26_set BayAt26_drewN BayAt26_drew lv28_run BayAt28_set BayAt28_drewN BayAt28_drew
set_option linter.unusedVariables false
set_option linter.unusedSimpArgs false

/-! ### spec_ShoalsOf: function 52 -/
def spec_ShoalsOf.f (k : Nat) (a0_0 : Int) (a0_1 : Int) (a0_2 : (Nat → Int)) (a1_0 : Int) (a1_1 : Int) (a1_2 : Int) (a1_3 : Int) (a1_4 : Int) (a1_5 : Int) : Option ((List (S36)) × Int) := (spec_l01Swing.f k a0_0 a0_1 a0_2 a1_0 a1_1 a1_2 a1_3 a1_4 a1_5).bind fun bt199 => (if bt199.2.1 = 0 then ((spec_l01Over.f k bt199.2.2.1 bt199.2.2.2.1 bt199.2.2.2.2 a1_0 a1_1 bt199.1 (wrap64 (a1_4))).bind fun bt204 => (some (bt204.1, 0))) else (some ((([] : List (S36))), bt199.2.1)))
set_option maxHeartbeats 8000000 in
set_option maxRecDepth 100000 in
theorem spec_ShoalsOf.calls (k : Nat) (a0_0 : Int) (a0_1 : Int) (a0_2 : (Nat → Int)) (a1_0 : Int) (a1_1 : Int) (a1_2 : Int) (a1_3 : Int) (a1_4 : Int) (a1_5 : Int) (r1 : List (S36)) (r2 : Int) (w : World) (h : spec_ShoalsOf.f k a0_0 a0_1 a0_2 a1_0 a1_1 a1_2 a1_3 a1_4 a1_5 = some (r1, r2)) :
    Calls Try.prog 52 #[.agg (csBay a0_0 a0_1 a0_2), .agg #[.int .i8 a1_0, .int .i8 a1_1, .int .i8 a1_2, .int .i8 a1_3, .int .i8 a1_4, .int .i8 a1_5]] w fun e w' => ∃ v0_ : Value, e = .returned (.tuple #[v0_, .int .i64 r2]) ∧ Kd.R k36 36 w' w.heap.size (fun _ => True) v0_ r1 ∧ Below w.heap.size w w' := by
  have hu28 := Try.underlying28
  have hu38 := Try.underlying38
  have hu36 := Try.underlying36
  have HB := am (Below.refl w.heap.size w)
  have H : ((spec_l01Swing.f k a0_0 a0_1 a0_2 a1_0 a1_1 a1_2 a1_3 a1_4 a1_5).bind fun bt199 => (if bt199.2.1 = 0 then ((spec_l01Over.f k bt199.2.2.1 bt199.2.2.2.1 bt199.2.2.2.2 a1_0 a1_1 bt199.1 (wrap64 (a1_4))).bind fun bt204 => (some (bt204.1, 0))) else (some ((([] : List (S36))), bt199.2.1)))) = some (r1, r2) := h
  clear h
  replace H := Option.bind_eq_some_iff.mp H
  obtain ⟨⟨t199, t200, t201, t202, t203⟩, A30, H⟩ := H
  try dsimp only at H
  have A3 := am A30
  clear A30
  by_cases c4 : t200 = 0
  · rw [if_pos c4] at H
    have c4b0 : (t200 == 0) = true := beq_iff_eq.mpr c4
    have c4b1 : (t200 != 0) = false := bne_eq_false_iff_eq.mpr c4
    clear c4
    replace H := Option.bind_eq_some_iff.mp H
    obtain ⟨⟨t204, t207, t208, t209⟩, A50, H⟩ := H
    try dsimp only at H
    have A5 := am A50
    clear A50
    simp only [Option.some.injEq, Prod.mk.injEq] at H
    obtain ⟨rfl, rfl⟩ := H
    go_enter Try.func52, Try.ntmps52
    go_wp2_with (first | ((with_reducible refine gate_dst (N := 2) rfl ?_); refine bxe (N := 2) (cs := (csBay a0_0 a0_1 a0_2)) (t := 28) ?_; intro gb197 hg w6 hbox hb; have HI197 := am ((show IsS28 w w6 gb197 a0_0 a0_1 a0_2 from ⟨hbox, by rw [hg]; exact (below_size (be HB))⟩)); have GW197 := am (gN hg (below_size (be HB))); have GE197 := am (gN hg (below_size (be HB))); replace HB := am (below_step (be HB) hb); clear hb hbox hg) | ((with_reducible refine gate_dst (N := 3) rfl ?_); refine bxe (N := 3) (cs := #[.int .i8 a1_0, .int .i8 a1_1, .int .i8 a1_2, .int .i8 a1_3, .int .i8 a1_4, .int .i8 a1_5]) (t := 38) ?_; intro gb198 hg w7 hbox hb; have BK198 := am (hbox); have GW198 := am (gN hg (below_size (be HB))); have GE198 := am (gN hg (below_size (be HB))); have NB197_198 := am (nLi hg (IsS28.lt (show IsS28 w _ gb197 a0_0 a0_1 a0_2 from si28 HI197))); have NB198_197 := am (nRi hg (IsS28.lt (show IsS28 w _ gb197 a0_0 a0_1 a0_2 from si28 HI197))); replace HI197 := am (IsS28.below (si28 HI197) hb); replace HB := am (below_step (be HB) hb); clear hb hbox hg; have hnb8 := NB198_197.out; have hnc8 := NB197_198.out; obtain ⟨hcz9_0, hcz9_1, hcz9_2, hcz9_3, hcz9_4, hcz9_5, hfz9_0, hfz9_1, hfz9_2, hfz9_3, hfz9_4, hfz9_5⟩ := bx6 BK198) | ((with_reducible refine gate_callee (f := 113) rfl ?_); refine gL (some 10) Try.func113 #[.pointer (some ⟨gb197, 0, none⟩), .agg #[.int .i8 a1_0, .int .i8 a1_1, .int .i8 a1_2, .int .i8 a1_3, .int .i8 a1_4, .int .i8 a1_5]] ?_; (with_reducible refine (spec_l01Swing.calls k gb197 a0_0 a0_1 a0_2 a1_0 a1_1 a1_2 a1_3 a1_4 a1_5 t199 t200 t201 t202 t203 w _ ?side1 ?side2 A3.out).mono ?_); (case side1 => exact si28 HI197); (case side2 => exact be HB); rintro e w10 ⟨rfl, hi, hb, hk⟩; refine ⟨_, rfl, ?_⟩; replace BK198 := am (KeepBut.blk hk (g' := gb198) (o := .cells #[.int .i8 a1_0, .int .i8 a1_1, .int .i8 a1_2, .int .i8 a1_3, .int .i8 a1_4, .int .i8 a1_5] 38 (0, 0)) (kb BK198) NB198_197.out (by simp)); replace HB := am (hb); replace HI197 := am (hi); (try clear hb); (try clear hb2); (try clear hk); (try clear hi); obtain ⟨hcz11_0, hcz11_1, hcz11_2, hcz11_3, hcz11_4, hcz11_5, hfz11_0, hfz11_1, hfz11_2, hfz11_3, hfz11_4, hfz11_5⟩ := bx6 BK198) | ((with_reducible refine gate_callee (f := 122) rfl ?_); refine gL (some 23) Try.func122 #[.pointer (some ⟨gb197, 0, none⟩), .agg #[.int .i8 a1_0, .int .i8 a1_1], .int .i64 t199, .int .i64 (wrap64 (a1_4))] ?_; (with_reducible refine (spec_l01Over.calls k gb197 t201 t202 t203 a1_0 a1_1 t199 (wrap64 (a1_4)) t204 t207 t208 t209 w _ ?side1 ?side2 A5.out).mono ?_); (case side1 => exact si28 HI197); (case side2 => exact be HB); rintro e w12 ⟨v205, rfl, ho0, hi, hb, hk⟩; refine ⟨_, rfl, ?_⟩; have HO206 := am (Kd.R_lower ho0 (below_size (be HB))); replace BK198 := am (KeepBut.blk hk (g' := gb198) (o := .cells #[.int .i8 a1_0, .int .i8 a1_1, .int .i8 a1_2, .int .i8 a1_3, .int .i8 a1_4, .int .i8 a1_5] 38 (0, 0)) (kb BK198) NB198_197.out (by simp)); replace HB := am (hb); replace HI197 := am (hi); (try clear hb); (try clear hb2); (try clear hk); (try clear hi); (try clear ho0)))
    go_ret2
    exact ⟨_, by first | rfl | (simp [errW_none, errW_some] <;> rfl) | (simp [*, errW_none, errW_some] <;> rfl), by (with_reducible repeat (first | apply Kd.R_alloc | apply Kd.R_drewN | apply Kd.R_drew)); exact HO206.out, be HB⟩
  · rw [if_neg c4] at H
    have c4b0 : (t200 == 0) = false := beq_eq_false_iff_ne.mpr c4
    have c4b1 : (t200 != 0) = true := bne_iff_ne.mpr c4
    obtain ⟨y210, hy210⟩ : ∃ y_ : List (S36), y_ = (([] : List (S36))) := ⟨_, rfl⟩
    replace H : (some (y210, t200)) = some (r1, r2) := by first | (rw [hy210]; with_reducible exact H) | (have H2_ := (Option.bind_some _ _).symm.trans H; rw [hy210]; with_reducible exact H2_) | (have H2_ := (Option.bind_some _ _).symm.trans H; with_reducible exact H2_) | with_reducible exact H | (rw [hy210]; exact H) | exact H
    have Ny210 := am hy210
    clear hy210
    simp only [Option.some.injEq, Prod.mk.injEq] at H
    obtain ⟨rfl, rfl⟩ := H
    go_enter Try.func52, Try.ntmps52
    go_wp2_with (first | ((with_reducible refine gate_dst (N := 2) rfl ?_); refine bxe (N := 2) (cs := (csBay a0_0 a0_1 a0_2)) (t := 28) ?_; intro gb197 hg w13 hbox hb; have HI197 := am ((show IsS28 w w13 gb197 a0_0 a0_1 a0_2 from ⟨hbox, by rw [hg]; exact (below_size (be HB))⟩)); have GW197 := am (gN hg (below_size (be HB))); have GE197 := am (gN hg (below_size (be HB))); replace HB := am (below_step (be HB) hb); clear hb hbox hg) | ((with_reducible refine gate_dst (N := 3) rfl ?_); refine bxe (N := 3) (cs := #[.int .i8 a1_0, .int .i8 a1_1, .int .i8 a1_2, .int .i8 a1_3, .int .i8 a1_4, .int .i8 a1_5]) (t := 38) ?_; intro gb198 hg w14 hbox hb; have BK198 := am (hbox); have GW198 := am (gN hg (below_size (be HB))); have GE198 := am (gN hg (below_size (be HB))); have NB197_198 := am (nLi hg (IsS28.lt (show IsS28 w _ gb197 a0_0 a0_1 a0_2 from si28 HI197))); have NB198_197 := am (nRi hg (IsS28.lt (show IsS28 w _ gb197 a0_0 a0_1 a0_2 from si28 HI197))); replace HI197 := am (IsS28.below (si28 HI197) hb); replace HB := am (below_step (be HB) hb); clear hb hbox hg; have hnb15 := NB198_197.out; have hnc15 := NB197_198.out; obtain ⟨hcz16_0, hcz16_1, hcz16_2, hcz16_3, hcz16_4, hcz16_5, hfz16_0, hfz16_1, hfz16_2, hfz16_3, hfz16_4, hfz16_5⟩ := bx6 BK198) | ((with_reducible refine gate_callee (f := 113) rfl ?_); refine gL (some 10) Try.func113 #[.pointer (some ⟨gb197, 0, none⟩), .agg #[.int .i8 a1_0, .int .i8 a1_1, .int .i8 a1_2, .int .i8 a1_3, .int .i8 a1_4, .int .i8 a1_5]] ?_; (with_reducible refine (spec_l01Swing.calls k gb197 a0_0 a0_1 a0_2 a1_0 a1_1 a1_2 a1_3 a1_4 a1_5 t199 t200 t201 t202 t203 w _ ?side1 ?side2 A3.out).mono ?_); (case side1 => exact si28 HI197); (case side2 => exact be HB); rintro e w17 ⟨rfl, hi, hb, hk⟩; refine ⟨_, rfl, ?_⟩; replace BK198 := am (KeepBut.blk hk (g' := gb198) (o := .cells #[.int .i8 a1_0, .int .i8 a1_1, .int .i8 a1_2, .int .i8 a1_3, .int .i8 a1_4, .int .i8 a1_5] 38 (0, 0)) (kb BK198) NB198_197.out (by simp)); replace HB := am (hb); replace HI197 := am (hi); (try clear hb); (try clear hb2); (try clear hk); (try clear hi)) | ((with_reducible refine gate_dst (N := 15) rfl ?_); refine Kd.R_lit k36 _ 36 ?hg (N := 15) ?hd (xs := ([] : List (S36))) (inner := []) (ok := fun _ => True) (okp := fun _ => True) ?hr ?hp (fun _ hk => hk) trivial (Below.refl _ _) (Nat.le_refl _) (by simp) ?_; (case hd => rfl); (case hg => rfl); (case hr => first | (go_simp; done) | (go_simp; rfl)); (case hp => exact (Reps.none _ _)); intro v211 w18 ho19 hb hg_ hnew_; clear hg_ hnew_; (first | rw [← Ny210.out] at ho19 | (simp only [Int.reduceToNat] at ho19; rw [← Ny210.out] at ho19)); have HO212 := am (Kd.R_lower ho19 (below_size (be HB))); replace HI197 := am (IsS28.below (si28 HI197) hb); replace BK198 := bB BK198 hb; replace HB := am (below_step (be HB) hb); clear hb ho19))
    go_ret2
    exact ⟨_, by first | rfl | (simp [errW_none, errW_some] <;> rfl) | (simp [*, errW_none, errW_some] <;> rfl), by (with_reducible repeat (first | apply Kd.R_alloc | apply Kd.R_drewN | apply Kd.R_drew)); exact HO212.out, be HB⟩

/-! ### impl_ValidBay: function 27 -/
def impl_ValidBay.f (a0_0 : Int) (a0_1 : Int) (a0_2 : (Nat → Int)) : Option (Bool) := some (decide (Go.Proofs.Ytcollbifdfhfoaa.BayIn.okBay a0_0 a0_1 a0_2))
theorem impl_ValidBay.calls (a0_0 : Int) (a0_1 : Int) (a0_2 : (Nat → Int)) (r : Bool) (w : World) (h : impl_ValidBay.f a0_0 a0_1 a0_2 = some r) :
    Calls Try.prog 27 #[.agg (csBay a0_0 a0_1 a0_2)] w fun e w' => e = .returned (.bool r) ∧ Below w.heap.size w w' := by
  obtain rfl := Option.some.inj h
  exact Go.Proofs.Ytcollbifdfhfoaa.BayIn.validBay_calls _ _ _ w

/-! ### impl_depth: function 112 -/
def impl_depth.f (a0_0 : Int) (a0_1 : Int) (a0_2 : (Nat → Int)) (a1_0 : Int) (a1_1 : Int) : Option (Int) := if 0 ≤ a1_1 then (if a1_1 < 16 then (if 0 ≤ a1_0 then (if a1_0 < 16 then (some (wrap64 (a0_2 (16 * (a1_1 : Int).toNat + (a1_0 : Int).toNat)))) else (none)) else (none)) else (none)) else (none)
set_option maxHeartbeats 8000000 in
set_option maxRecDepth 100000 in
theorem impl_depth.calls (a0_0 : Int) (a0_1 : Int) (a0_2 : (Nat → Int)) (a1_0 : Int) (a1_1 : Int) (r : Int) (w : World) (h : impl_depth.f a0_0 a0_1 a0_2 a1_0 a1_1 = some r) :
    Calls Try.prog 112 #[.agg (csBay a0_0 a0_1 a0_2), .agg #[.int .i8 a1_0, .int .i8 a1_1]] w fun e w' => e = .returned (.int .i64 r) ∧ Below w.heap.size w w' := by
  have hu28 := Try.underlying28
  have hu36 := Try.underlying36
  have HB := am (Below.refl w.heap.size w)
  have H : (if 0 ≤ a1_1 then (if a1_1 < 16 then (if 0 ≤ a1_0 then (if a1_0 < 16 then (some (wrap64 (a0_2 (16 * (a1_1 : Int).toNat + (a1_0 : Int).toNat)))) else (none)) else (none)) else (none)) else (none)) = some r := h
  clear h
  by_cases c3 : 0 ≤ a1_1
  · rw [if_pos c3] at H
    have c3b0 : decide (0 ≤ a1_1) = true := decide_eq_true c3
    have c3b1 : 0 ≤ a1_1 := c3
    clear c3
    by_cases c4 : a1_1 < 16
    · rw [if_pos c4] at H
      have c4b0 : decide (a1_1 < 16) = true := decide_eq_true c4
      have c4b1 : a1_1 < 16 := c4
      clear c4
      by_cases c5 : 0 ≤ a1_0
      · rw [if_pos c5] at H
        have c5b0 : decide (0 ≤ a1_0) = true := decide_eq_true c5
        have c5b1 : 0 ≤ a1_0 := c5
        clear c5
        by_cases c6 : a1_0 < 16
        · rw [if_pos c6] at H
          have c6b0 : decide (a1_0 < 16) = true := decide_eq_true c6
          have c6b1 : a1_0 < 16 := c6
          clear c6
          obtain rfl := Option.some.inj H
          go_enter Try.func112, Try.ntmps112
          go_wp2_with (first | ((with_reducible refine gate_dst (N := 2) rfl ?_); refine bxe (N := 2) (cs := (csBay a0_0 a0_1 a0_2)) (t := 28) ?_; intro gb213 hg w7 hbox hb; have BK213 := am (hbox); have GW213 := am (gN hg (below_size (be HB))); have GE213 := am (gN hg (below_size (be HB))); replace HB := am (below_step (be HB) hb); clear hb hbox hg) | ((with_reducible refine gate_dst (N := 3) rfl ?_); refine bxe (N := 3) (cs := #[.int .i8 a1_0, .int .i8 a1_1]) (t := 36) ?_; intro gb214 hg w8 hbox hb; have BK214 := am (hbox); have GW214 := am (gN hg (below_size (be HB))); have GE214 := am (gN hg (below_size (be HB))); have NB213_214 := nL BK213 hg; have NB214_213 := nR BK213 hg; replace BK213 := bB BK213 hb; replace HB := am (below_step (be HB) hb); clear hb hbox hg; have hnb9 := NB214_213.out; have hnc9 := NB213_214.out; obtain ⟨hcz10_0, hcz10_1, hfz10_0, hfz10_1⟩ := bx2 BK214; have hcz11_0 : w8.cell? ⟨gb213, 0, none⟩ = some (.int .i8 a0_0) := (blk_cell BK213.out 0).trans rfl; have hcz11_1 : w8.cell? ⟨gb213, 1, none⟩ = some (.int .i8 a0_1) := (blk_cell BK213.out 1).trans rfl; have hwz11 := lv28_at BK213.out; have haz11 := at_cells BK213.out; have hyz11 := BayAt28_of BK213.out; have hvz11 := lvv_of BK213.out; have hfz11_0 := blk_frozen BK213.out 0; have hfz11_1 := blk_frozen BK213.out 1; have hfz11_2 := blk_frozen BK213.out 2))
          repeat (go_quiet (first | ((with_reducible refine gate_dst (N := 2) rfl ?_); refine bxe (N := 2) (cs := (csBay a0_0 a0_1 a0_2)) (t := 28) ?_; intro gb213 hg w7 hbox hb; have BK213 := am (hbox); have GW213 := am (gN hg (below_size (be HB))); have GE213 := am (gN hg (below_size (be HB))); replace HB := am (below_step (be HB) hb); clear hb hbox hg) | ((with_reducible refine gate_dst (N := 3) rfl ?_); refine bxe (N := 3) (cs := #[.int .i8 a1_0, .int .i8 a1_1]) (t := 36) ?_; intro gb214 hg w8 hbox hb; have BK214 := am (hbox); have GW214 := am (gN hg (below_size (be HB))); have GE214 := am (gN hg (below_size (be HB))); have NB213_214 := nL BK213 hg; have NB214_213 := nR BK213 hg; replace BK213 := bB BK213 hb; replace HB := am (below_step (be HB) hb); clear hb hbox hg; have hnb9 := NB214_213.out; have hnc9 := NB213_214.out; obtain ⟨hcz10_0, hcz10_1, hfz10_0, hfz10_1⟩ := bx2 BK214; have hcz11_0 : w8.cell? ⟨gb213, 0, none⟩ = some (.int .i8 a0_0) := (blk_cell BK213.out 0).trans rfl; have hcz11_1 : w8.cell? ⟨gb213, 1, none⟩ = some (.int .i8 a0_1) := (blk_cell BK213.out 1).trans rfl; have hwz11 := lv28_at BK213.out; have haz11 := at_cells BK213.out; have hyz11 := BayAt28_of BK213.out; have hvz11 := lvv_of BK213.out; have hfz11_0 := blk_frozen BK213.out 0; have hfz11_1 := blk_frozen BK213.out 1; have hfz11_2 := blk_frozen BK213.out 2)); try go_wp2_with (first | ((with_reducible refine gate_dst (N := 2) rfl ?_); refine bxe (N := 2) (cs := (csBay a0_0 a0_1 a0_2)) (t := 28) ?_; intro gb213 hg w7 hbox hb; have BK213 := am (hbox); have GW213 := am (gN hg (below_size (be HB))); have GE213 := am (gN hg (below_size (be HB))); replace HB := am (below_step (be HB) hb); clear hb hbox hg) | ((with_reducible refine gate_dst (N := 3) rfl ?_); refine bxe (N := 3) (cs := #[.int .i8 a1_0, .int .i8 a1_1]) (t := 36) ?_; intro gb214 hg w8 hbox hb; have BK214 := am (hbox); have GW214 := am (gN hg (below_size (be HB))); have GE214 := am (gN hg (below_size (be HB))); have NB213_214 := nL BK213 hg; have NB214_213 := nR BK213 hg; replace BK213 := bB BK213 hb; replace HB := am (below_step (be HB) hb); clear hb hbox hg; have hnb9 := NB214_213.out; have hnc9 := NB213_214.out; obtain ⟨hcz10_0, hcz10_1, hfz10_0, hfz10_1⟩ := bx2 BK214; have hcz11_0 : w8.cell? ⟨gb213, 0, none⟩ = some (.int .i8 a0_0) := (blk_cell BK213.out 0).trans rfl; have hcz11_1 : w8.cell? ⟨gb213, 1, none⟩ = some (.int .i8 a0_1) := (blk_cell BK213.out 1).trans rfl; have hwz11 := lv28_at BK213.out; have haz11 := at_cells BK213.out; have hyz11 := BayAt28_of BK213.out; have hvz11 := lvv_of BK213.out; have hfz11_0 := blk_frozen BK213.out 0; have hfz11_1 := blk_frozen BK213.out 1; have hfz11_2 := blk_frozen BK213.out 2)))
          go_ret
          exact ⟨by first | rfl | (simp [errW_none, errW_some] <;> rfl) | (simp [*, errW_none, errW_some] <;> rfl), be HB⟩
        · rw [if_neg c6] at H
          exact absurd H (by simp)
      · rw [if_neg c5] at H
        exact absurd H (by simp)
    · rw [if_neg c4] at H
      exact absurd H (by simp)
  · rw [if_neg c3] at H
    exact absurd H (by simp)

/-! ### impl_isPlace: function 178 -/
def impl_isPlace.f (a0_0 : Int) (a0_1 : Int) (a0_2 : (Nat → Int)) (a1_0 : Int) (a1_1 : Int) : Option (Bool) := if a1_0 ≥ 0 then (if a1_0 < a0_0 then (if a1_1 ≥ 0 then (some (decide (a1_1 < a0_1))) else (some false)) else (some false)) else (some false)
set_option maxHeartbeats 8000000 in
set_option maxRecDepth 100000 in
theorem impl_isPlace.calls (a0_0 : Int) (a0_1 : Int) (a0_2 : (Nat → Int)) (a1_0 : Int) (a1_1 : Int) (r : Bool) (w : World) (h : impl_isPlace.f a0_0 a0_1 a0_2 a1_0 a1_1 = some r) :
    Calls Try.prog 178 #[.agg (csBay a0_0 a0_1 a0_2), .agg #[.int .i8 a1_0, .int .i8 a1_1]] w fun e w' => e = .returned (.bool r) ∧ Below w.heap.size w w' := by
  have hu28 := Try.underlying28
  have hu36 := Try.underlying36
  have HB := am (Below.refl w.heap.size w)
  have H : (if a1_0 ≥ 0 then (if a1_0 < a0_0 then (if a1_1 ≥ 0 then (some (decide (a1_1 < a0_1))) else (some false)) else (some false)) else (some false)) = some r := h
  clear h
  by_cases c3 : a1_0 ≥ 0
  · rw [if_pos c3] at H
    have c3b0 : decide (0 ≤ a1_0) = true := decide_eq_true c3
    have c3b1 : 0 ≤ a1_0 := c3
    clear c3
    by_cases c4 : a1_0 < a0_0
    · rw [if_pos c4] at H
      have c4b0 : decide (a1_0 < a0_0) = true := decide_eq_true c4
      clear c4
      by_cases c5 : a1_1 ≥ 0
      · rw [if_pos c5] at H
        have c5b0 : decide (0 ≤ a1_1) = true := decide_eq_true c5
        have c5b1 : 0 ≤ a1_1 := c5
        clear c5
        obtain rfl := Option.some.inj H
        go_enter Try.func178, Try.ntmps178
        go_wp2_with (first | ((with_reducible refine gate_dst (N := 2) rfl ?_); refine bxe (N := 2) (cs := (csBay a0_0 a0_1 a0_2)) (t := 28) ?_; intro gb215 hg w6 hbox hb; have BK215 := am (hbox); have GW215 := am (gN hg (below_size (be HB))); have GE215 := am (gN hg (below_size (be HB))); replace HB := am (below_step (be HB) hb); clear hb hbox hg) | ((with_reducible refine gate_dst (N := 3) rfl ?_); refine bxe (N := 3) (cs := #[.int .i8 a1_0, .int .i8 a1_1]) (t := 36) ?_; intro gb216 hg w7 hbox hb; have BK216 := am (hbox); have GW216 := am (gN hg (below_size (be HB))); have GE216 := am (gN hg (below_size (be HB))); have NB215_216 := nL BK215 hg; have NB216_215 := nR BK215 hg; replace BK215 := bB BK215 hb; replace HB := am (below_step (be HB) hb); clear hb hbox hg; have hnb8 := NB216_215.out; have hnc8 := NB215_216.out; obtain ⟨hcz9_0, hcz9_1, hfz9_0, hfz9_1⟩ := bx2 BK216; have hcz10_0 : w7.cell? ⟨gb215, 0, none⟩ = some (.int .i8 a0_0) := (blk_cell BK215.out 0).trans rfl; have hcz10_1 : w7.cell? ⟨gb215, 1, none⟩ = some (.int .i8 a0_1) := (blk_cell BK215.out 1).trans rfl; have hwz10 := lv28_at BK215.out; have haz10 := at_cells BK215.out; have hyz10 := BayAt28_of BK215.out; have hvz10 := lvv_of BK215.out; have hfz10_0 := blk_frozen BK215.out 0; have hfz10_1 := blk_frozen BK215.out 1; have hfz10_2 := blk_frozen BK215.out 2))
        go_ret
        exact ⟨by first | rfl | (simp [errW_none, errW_some] <;> rfl) | (simp [*, errW_none, errW_some] <;> rfl), be HB⟩
      · rw [if_neg c5] at H
        have c5b0 : decide (0 ≤ a1_1) = false := decide_eq_false c5
        clear c5
        obtain rfl := Option.some.inj H
        go_enter Try.func178, Try.ntmps178
        go_wp2_with (first | ((with_reducible refine gate_dst (N := 2) rfl ?_); refine bxe (N := 2) (cs := (csBay a0_0 a0_1 a0_2)) (t := 28) ?_; intro gb215 hg w11 hbox hb; have BK215 := am (hbox); have GW215 := am (gN hg (below_size (be HB))); have GE215 := am (gN hg (below_size (be HB))); replace HB := am (below_step (be HB) hb); clear hb hbox hg) | ((with_reducible refine gate_dst (N := 3) rfl ?_); refine bxe (N := 3) (cs := #[.int .i8 a1_0, .int .i8 a1_1]) (t := 36) ?_; intro gb216 hg w12 hbox hb; have BK216 := am (hbox); have GW216 := am (gN hg (below_size (be HB))); have GE216 := am (gN hg (below_size (be HB))); have NB215_216 := nL BK215 hg; have NB216_215 := nR BK215 hg; replace BK215 := bB BK215 hb; replace HB := am (below_step (be HB) hb); clear hb hbox hg; have hnb13 := NB216_215.out; have hnc13 := NB215_216.out; obtain ⟨hcz14_0, hcz14_1, hfz14_0, hfz14_1⟩ := bx2 BK216; have hcz15_0 : w12.cell? ⟨gb215, 0, none⟩ = some (.int .i8 a0_0) := (blk_cell BK215.out 0).trans rfl; have hcz15_1 : w12.cell? ⟨gb215, 1, none⟩ = some (.int .i8 a0_1) := (blk_cell BK215.out 1).trans rfl; have hwz15 := lv28_at BK215.out; have haz15 := at_cells BK215.out; have hyz15 := BayAt28_of BK215.out; have hvz15 := lvv_of BK215.out; have hfz15_0 := blk_frozen BK215.out 0; have hfz15_1 := blk_frozen BK215.out 1; have hfz15_2 := blk_frozen BK215.out 2))
        go_ret
        exact ⟨by first | rfl | (simp [errW_none, errW_some] <;> rfl) | (simp [*, errW_none, errW_some] <;> rfl), be HB⟩
    · rw [if_neg c4] at H
      have c4b0 : decide (a1_0 < a0_0) = false := decide_eq_false c4
      clear c4
      obtain rfl := Option.some.inj H
      go_enter Try.func178, Try.ntmps178
      go_wp2_with (first | ((with_reducible refine gate_dst (N := 2) rfl ?_); refine bxe (N := 2) (cs := (csBay a0_0 a0_1 a0_2)) (t := 28) ?_; intro gb215 hg w16 hbox hb; have BK215 := am (hbox); have GW215 := am (gN hg (below_size (be HB))); have GE215 := am (gN hg (below_size (be HB))); replace HB := am (below_step (be HB) hb); clear hb hbox hg) | ((with_reducible refine gate_dst (N := 3) rfl ?_); refine bxe (N := 3) (cs := #[.int .i8 a1_0, .int .i8 a1_1]) (t := 36) ?_; intro gb216 hg w17 hbox hb; have BK216 := am (hbox); have GW216 := am (gN hg (below_size (be HB))); have GE216 := am (gN hg (below_size (be HB))); have NB215_216 := nL BK215 hg; have NB216_215 := nR BK215 hg; replace BK215 := bB BK215 hb; replace HB := am (below_step (be HB) hb); clear hb hbox hg; have hnb18 := NB216_215.out; have hnc18 := NB215_216.out; obtain ⟨hcz19_0, hcz19_1, hfz19_0, hfz19_1⟩ := bx2 BK216; have hcz20_0 : w17.cell? ⟨gb215, 0, none⟩ = some (.int .i8 a0_0) := (blk_cell BK215.out 0).trans rfl; have hcz20_1 : w17.cell? ⟨gb215, 1, none⟩ = some (.int .i8 a0_1) := (blk_cell BK215.out 1).trans rfl; have hwz20 := lv28_at BK215.out; have haz20 := at_cells BK215.out; have hyz20 := BayAt28_of BK215.out; have hvz20 := lvv_of BK215.out; have hfz20_0 := blk_frozen BK215.out 0; have hfz20_1 := blk_frozen BK215.out 1; have hfz20_2 := blk_frozen BK215.out 2))
      go_ret
      exact ⟨by first | rfl | (simp [errW_none, errW_some] <;> rfl) | (simp [*, errW_none, errW_some] <;> rfl), be HB⟩
  · rw [if_neg c3] at H
    have c3b0 : decide (0 ≤ a1_0) = false := decide_eq_false c3
    clear c3
    obtain rfl := Option.some.inj H
    go_enter Try.func178, Try.ntmps178
    go_wp2_with (first | ((with_reducible refine gate_dst (N := 2) rfl ?_); refine bxe (N := 2) (cs := (csBay a0_0 a0_1 a0_2)) (t := 28) ?_; intro gb215 hg w21 hbox hb; have BK215 := am (hbox); have GW215 := am (gN hg (below_size (be HB))); have GE215 := am (gN hg (below_size (be HB))); replace HB := am (below_step (be HB) hb); clear hb hbox hg) | ((with_reducible refine gate_dst (N := 3) rfl ?_); refine bxe (N := 3) (cs := #[.int .i8 a1_0, .int .i8 a1_1]) (t := 36) ?_; intro gb216 hg w22 hbox hb; have BK216 := am (hbox); have GW216 := am (gN hg (below_size (be HB))); have GE216 := am (gN hg (below_size (be HB))); have NB215_216 := nL BK215 hg; have NB216_215 := nR BK215 hg; replace BK215 := bB BK215 hb; replace HB := am (below_step (be HB) hb); clear hb hbox hg; have hnb23 := NB216_215.out; have hnc23 := NB215_216.out; obtain ⟨hcz24_0, hcz24_1, hfz24_0, hfz24_1⟩ := bx2 BK216))
    go_ret
    exact ⟨by first | rfl | (simp [errW_none, errW_some] <;> rfl) | (simp [*, errW_none, errW_some] <;> rfl), be HB⟩

/-! ### impl_isWater: function 167 -/
def impl_isWater.f (a0_0 : Int) (a0_1 : Int) (a0_2 : (Nat → Int)) (a1_0 : Int) (a1_1 : Int) : Option (Bool) := (impl_isPlace.f a0_0 a0_1 a0_2 a1_0 a1_1).bind fun t219 => (if t219 = true then ((impl_depth.f a0_0 a0_1 a0_2 a1_0 a1_1).bind fun t220 => (some (decide (t220 > 0)))) else (some false))
set_option maxHeartbeats 8000000 in
set_option maxRecDepth 100000 in
theorem impl_isWater.calls (a0_0 : Int) (a0_1 : Int) (a0_2 : (Nat → Int)) (a1_0 : Int) (a1_1 : Int) (r : Bool) (w : World) (h : impl_isWater.f a0_0 a0_1 a0_2 a1_0 a1_1 = some r) :
    Calls Try.prog 167 #[.agg (csBay a0_0 a0_1 a0_2), .agg #[.int .i8 a1_0, .int .i8 a1_1]] w fun e w' => e = .returned (.bool r) ∧ Below w.heap.size w w' := by
  have hu28 := Try.underlying28
  have hu36 := Try.underlying36
  have HB := am (Below.refl w.heap.size w)
  have H : ((impl_isPlace.f a0_0 a0_1 a0_2 a1_0 a1_1).bind fun t219 => (if t219 = true then ((impl_depth.f a0_0 a0_1 a0_2 a1_0 a1_1).bind fun t220 => (some (decide (t220 > 0)))) else (some false))) = some r := h
  clear h
  replace H := Option.bind_eq_some_iff.mp H
  obtain ⟨t219, A30, H⟩ := H
  try dsimp only at H
  have A3 := am A30
  clear A30
  by_cases c4 : t219 = true
  · subst c4
    rw [if_pos rfl] at H
    replace H := Option.bind_eq_some_iff.mp H
    obtain ⟨t220, A50, H⟩ := H
    try dsimp only at H
    have A5 := am A50
    clear A50
    obtain rfl := Option.some.inj H
    go_enter Try.func167, Try.ntmps167
    go_wp2_with (first | ((with_reducible refine gate_dst (N := 2) rfl ?_); refine bxe (N := 2) (cs := (csBay a0_0 a0_1 a0_2)) (t := 28) ?_; intro gb217 hg w6 hbox hb; have BK217 := am (hbox); have GW217 := am (gN hg (below_size (be HB))); have GE217 := am (gN hg (below_size (be HB))); replace HB := am (below_step (be HB) hb); clear hb hbox hg) | ((with_reducible refine gate_dst (N := 3) rfl ?_); refine bxe (N := 3) (cs := #[.int .i8 a1_0, .int .i8 a1_1]) (t := 36) ?_; intro gb218 hg w7 hbox hb; have BK218 := am (hbox); have GW218 := am (gN hg (below_size (be HB))); have GE218 := am (gN hg (below_size (be HB))); have NB217_218 := nL BK217 hg; have NB218_217 := nR BK217 hg; replace BK217 := bB BK217 hb; replace HB := am (below_step (be HB) hb); clear hb hbox hg; have hnb8 := NB217_218.out; have hnc8 := NB218_217.out; have hcz9_0 : w7.cell? ⟨gb217, 0, none⟩ = some (.int .i8 a0_0) := (blk_cell BK217.out 0).trans rfl; have hcz9_1 : w7.cell? ⟨gb217, 1, none⟩ = some (.int .i8 a0_1) := (blk_cell BK217.out 1).trans rfl; have hwz9 := lv28_at BK217.out; have haz9 := at_cells BK217.out; have hyz9 := BayAt28_of BK217.out; have hvz9 := lvv_of BK217.out; have hfz9_0 := blk_frozen BK217.out 0; have hfz9_1 := blk_frozen BK217.out 1; have hfz9_2 := blk_frozen BK217.out 2; obtain ⟨hcz10_0, hcz10_1, hfz10_0, hfz10_1⟩ := bx2 BK218) | ((with_reducible refine gate_callee (f := 178) rfl ?_); refine gL (some 7) Try.func178 #[.agg (csBay a0_0 a0_1 a0_2), .agg #[.int .i8 a1_0, .int .i8 a1_1]] ?_; (with_reducible refine (impl_isPlace.calls a0_0 a0_1 a0_2 a1_0 a1_1 true _ A3.out).mono ?_); rintro e w11 ⟨rfl, hb⟩; refine ⟨_, rfl, ?_⟩; replace BK217 := bB BK217 hb; replace BK218 := bB BK218 hb; replace HB := am (below_step (be HB) hb); (try clear hb); (try clear hb2); (try clear hk); (try clear hi); have hcz12_0 : w11.cell? ⟨gb217, 0, none⟩ = some (.int .i8 a0_0) := (blk_cell BK217.out 0).trans rfl; have hcz12_1 : w11.cell? ⟨gb217, 1, none⟩ = some (.int .i8 a0_1) := (blk_cell BK217.out 1).trans rfl; have hwz12 := lv28_at BK217.out; have haz12 := at_cells BK217.out; have hyz12 := BayAt28_of BK217.out; have hvz12 := lvv_of BK217.out; have hfz12_0 := blk_frozen BK217.out 0; have hfz12_1 := blk_frozen BK217.out 1; have hfz12_2 := blk_frozen BK217.out 2; obtain ⟨hcz13_0, hcz13_1, hfz13_0, hfz13_1⟩ := bx2 BK218) | (go_at_call 112; (with_reducible refine (impl_depth.calls a0_0 a0_1 a0_2 a1_0 a1_1 t220 _ A5.out).mono ?_); rintro e w14 ⟨rfl, hb⟩; replace BK217 := bB BK217 hb; replace BK218 := bB BK218 hb; replace HB := am (below_step (be HB) hb); (try clear hb); (try clear hb2); (try clear hk); (try clear hi)))
    go_ret
    exact ⟨by first | rfl | (simp [errW_none, errW_some] <;> rfl) | (simp [*, errW_none, errW_some] <;> rfl), be HB⟩
  · replace c4 := Bool.eq_false_iff.mpr c4
    subst c4
    have H1 : (some false) = some r := by rw [if_neg (show ¬ (false = true) by decide)] at H; exact H
    clear H
    have H := H1
    clear H1
    obtain rfl := Option.some.inj H
    go_enter Try.func167, Try.ntmps167
    go_wp2_with (first | ((with_reducible refine gate_dst (N := 2) rfl ?_); refine bxe (N := 2) (cs := (csBay a0_0 a0_1 a0_2)) (t := 28) ?_; intro gb217 hg w15 hbox hb; have BK217 := am (hbox); have GW217 := am (gN hg (below_size (be HB))); have GE217 := am (gN hg (below_size (be HB))); replace HB := am (below_step (be HB) hb); clear hb hbox hg) | ((with_reducible refine gate_dst (N := 3) rfl ?_); refine bxe (N := 3) (cs := #[.int .i8 a1_0, .int .i8 a1_1]) (t := 36) ?_; intro gb218 hg w16 hbox hb; have BK218 := am (hbox); have GW218 := am (gN hg (below_size (be HB))); have GE218 := am (gN hg (below_size (be HB))); have NB217_218 := nL BK217 hg; have NB218_217 := nR BK217 hg; replace BK217 := bB BK217 hb; replace HB := am (below_step (be HB) hb); clear hb hbox hg; have hnb17 := NB217_218.out; have hnc17 := NB218_217.out; have hcz18_0 : w16.cell? ⟨gb217, 0, none⟩ = some (.int .i8 a0_0) := (blk_cell BK217.out 0).trans rfl; have hcz18_1 : w16.cell? ⟨gb217, 1, none⟩ = some (.int .i8 a0_1) := (blk_cell BK217.out 1).trans rfl; have hwz18 := lv28_at BK217.out; have haz18 := at_cells BK217.out; have hyz18 := BayAt28_of BK217.out; have hvz18 := lvv_of BK217.out; have hfz18_0 := blk_frozen BK217.out 0; have hfz18_1 := blk_frozen BK217.out 1; have hfz18_2 := blk_frozen BK217.out 2; obtain ⟨hcz19_0, hcz19_1, hfz19_0, hfz19_1⟩ := bx2 BK218) | ((with_reducible refine gate_callee (f := 178) rfl ?_); refine gL (some 7) Try.func178 #[.agg (csBay a0_0 a0_1 a0_2), .agg #[.int .i8 a1_0, .int .i8 a1_1]] ?_; (with_reducible refine (impl_isPlace.calls a0_0 a0_1 a0_2 a1_0 a1_1 false _ A3.out).mono ?_); rintro e w20 ⟨rfl, hb⟩; refine ⟨_, rfl, ?_⟩; replace BK217 := bB BK217 hb; replace BK218 := bB BK218 hb; replace HB := am (below_step (be HB) hb); (try clear hb); (try clear hb2); (try clear hk); (try clear hi)))
    go_ret
    exact ⟨by first | rfl | (simp [errW_none, errW_some] <;> rfl) | (simp [*, errW_none, errW_some] <;> rfl), be HB⟩

/-! ### impl_isBoat: function 107 -/
def impl_isBoat.f (a0_0 : Int) (a0_1 : Int) (a0_2 : (Nat → Int)) (a1_0 : Int) (a1_1 : Int) (a1_2 : Int) (a1_3 : Int) (a1_4 : Int) (a1_5 : Int) : Option (Bool) := (impl_isWater.f a0_0 a0_1 a0_2 a1_0 a1_1).bind fun t223 => (if t223 = true then (if a1_2 ≥ 1 then (if a1_2 ≤ 60 then (if a1_3 ≥ 0 then (if a1_3 ≤ 5 then (if a1_4 ≥ 1 then (if a1_4 ≤ 30 then (if a1_5 ≥ 0 then (some (decide (a1_5 ≤ 9))) else (some false)) else (some false)) else (some false)) else (some false)) else (some false)) else (some false)) else (some false)) else (some false))
set_option maxHeartbeats 8000000 in
set_option maxRecDepth 100000 in
theorem impl_isBoat.calls (a0_0 : Int) (a0_1 : Int) (a0_2 : (Nat → Int)) (a1_0 : Int) (a1_1 : Int) (a1_2 : Int) (a1_3 : Int) (a1_4 : Int) (a1_5 : Int) (r : Bool) (w : World) (h : impl_isBoat.f a0_0 a0_1 a0_2 a1_0 a1_1 a1_2 a1_3 a1_4 a1_5 = some r) :
    Calls Try.prog 107 #[.agg (csBay a0_0 a0_1 a0_2), .agg #[.int .i8 a1_0, .int .i8 a1_1, .int .i8 a1_2, .int .i8 a1_3, .int .i8 a1_4, .int .i8 a1_5]] w fun e w' => e = .returned (.bool r) ∧ Below w.heap.size w w' := by
  have hu28 := Try.underlying28
  have hu38 := Try.underlying38
  have hu36 := Try.underlying36
  have HB := am (Below.refl w.heap.size w)
  have H : ((impl_isWater.f a0_0 a0_1 a0_2 a1_0 a1_1).bind fun t223 => (if t223 = true then (if a1_2 ≥ 1 then (if a1_2 ≤ 60 then (if a1_3 ≥ 0 then (if a1_3 ≤ 5 then (if a1_4 ≥ 1 then (if a1_4 ≤ 30 then (if a1_5 ≥ 0 then (some (decide (a1_5 ≤ 9))) else (some false)) else (some false)) else (some false)) else (some false)) else (some false)) else (some false)) else (some false)) else (some false))) = some r := h
  clear h
  replace H := Option.bind_eq_some_iff.mp H
  obtain ⟨t223, A30, H⟩ := H
  try dsimp only at H
  have A3 := am A30
  clear A30
  by_cases c4 : t223 = true
  · subst c4
    rw [if_pos rfl] at H
    by_cases c5 : a1_2 ≥ 1
    · rw [if_pos c5] at H
      have c5b0 : decide (1 ≤ a1_2) = true := decide_eq_true c5
      clear c5
      by_cases c6 : a1_2 ≤ 60
      · rw [if_pos c6] at H
        have c6b0 : decide (a1_2 ≤ 60) = true := decide_eq_true c6
        clear c6
        by_cases c7 : a1_3 ≥ 0
        · rw [if_pos c7] at H
          have c7b0 : decide (0 ≤ a1_3) = true := decide_eq_true c7
          have c7b1 : 0 ≤ a1_3 := c7
          clear c7
          by_cases c8 : a1_3 ≤ 5
          · rw [if_pos c8] at H
            have c8b0 : decide (a1_3 ≤ 5) = true := decide_eq_true c8
            clear c8
            by_cases c9 : a1_4 ≥ 1
            · rw [if_pos c9] at H
              have c9b0 : decide (1 ≤ a1_4) = true := decide_eq_true c9
              clear c9
              by_cases c10 : a1_4 ≤ 30
              · rw [if_pos c10] at H
                have c10b0 : decide (a1_4 ≤ 30) = true := decide_eq_true c10
                clear c10
                by_cases c11 : a1_5 ≥ 0
                · rw [if_pos c11] at H
                  have c11b0 : decide (0 ≤ a1_5) = true := decide_eq_true c11
                  have c11b1 : 0 ≤ a1_5 := c11
                  clear c11
                  obtain rfl := Option.some.inj H
                  go_enter Try.func107, Try.ntmps107
                  go_wp2_with (first | ((with_reducible refine gate_dst (N := 2) rfl ?_); refine bxe (N := 2) (cs := (csBay a0_0 a0_1 a0_2)) (t := 28) ?_; intro gb221 hg w12 hbox hb; have BK221 := am (hbox); have GW221 := am (gN hg (below_size (be HB))); have GE221 := am (gN hg (below_size (be HB))); replace HB := am (below_step (be HB) hb); clear hb hbox hg) | ((with_reducible refine gate_dst (N := 3) rfl ?_); refine bxe (N := 3) (cs := #[.int .i8 a1_0, .int .i8 a1_1, .int .i8 a1_2, .int .i8 a1_3, .int .i8 a1_4, .int .i8 a1_5]) (t := 38) ?_; intro gb222 hg w13 hbox hb; have BK222 := am (hbox); have GW222 := am (gN hg (below_size (be HB))); have GE222 := am (gN hg (below_size (be HB))); have NB221_222 := nL BK221 hg; have NB222_221 := nR BK221 hg; replace BK221 := bB BK221 hb; replace HB := am (below_step (be HB) hb); clear hb hbox hg; have hnb14 := NB221_222.out; have hnc14 := NB222_221.out; have hcz15_0 : w13.cell? ⟨gb221, 0, none⟩ = some (.int .i8 a0_0) := (blk_cell BK221.out 0).trans rfl; have hcz15_1 : w13.cell? ⟨gb221, 1, none⟩ = some (.int .i8 a0_1) := (blk_cell BK221.out 1).trans rfl; have hwz15 := lv28_at BK221.out; have haz15 := at_cells BK221.out; have hyz15 := BayAt28_of BK221.out; have hvz15 := lvv_of BK221.out; have hfz15_0 := blk_frozen BK221.out 0; have hfz15_1 := blk_frozen BK221.out 1; have hfz15_2 := blk_frozen BK221.out 2; obtain ⟨hcz16_0, hcz16_1, hcz16_2, hcz16_3, hcz16_4, hcz16_5, hfz16_0, hfz16_1, hfz16_2, hfz16_3, hfz16_4, hfz16_5⟩ := bx6 BK222) | ((with_reducible refine gate_callee (f := 167) rfl ?_); refine gL (some 8) Try.func167 #[.agg (csBay a0_0 a0_1 a0_2), .agg #[.int .i8 a1_0, .int .i8 a1_1]] ?_; (with_reducible refine (impl_isWater.calls a0_0 a0_1 a0_2 a1_0 a1_1 true _ A3.out).mono ?_); rintro e w17 ⟨rfl, hb⟩; refine ⟨_, rfl, ?_⟩; replace BK221 := bB BK221 hb; replace BK222 := bB BK222 hb; replace HB := am (below_step (be HB) hb); (try clear hb); (try clear hb2); (try clear hk); (try clear hi); obtain ⟨hcz18_0, hcz18_1, hcz18_2, hcz18_3, hcz18_4, hcz18_5, hfz18_0, hfz18_1, hfz18_2, hfz18_3, hfz18_4, hfz18_5⟩ := bx6 BK222))
                  go_ret
                  exact ⟨by first | rfl | (simp [errW_none, errW_some] <;> rfl) | (simp [*, errW_none, errW_some] <;> rfl), be HB⟩
                · rw [if_neg c11] at H
                  have c11b0 : decide (0 ≤ a1_5) = false := decide_eq_false c11
                  clear c11
                  obtain rfl := Option.some.inj H
                  go_enter Try.func107, Try.ntmps107
                  go_wp2_with (first | ((with_reducible refine gate_dst (N := 2) rfl ?_); refine bxe (N := 2) (cs := (csBay a0_0 a0_1 a0_2)) (t := 28) ?_; intro gb221 hg w19 hbox hb; have BK221 := am (hbox); have GW221 := am (gN hg (below_size (be HB))); have GE221 := am (gN hg (below_size (be HB))); replace HB := am (below_step (be HB) hb); clear hb hbox hg) | ((with_reducible refine gate_dst (N := 3) rfl ?_); refine bxe (N := 3) (cs := #[.int .i8 a1_0, .int .i8 a1_1, .int .i8 a1_2, .int .i8 a1_3, .int .i8 a1_4, .int .i8 a1_5]) (t := 38) ?_; intro gb222 hg w20 hbox hb; have BK222 := am (hbox); have GW222 := am (gN hg (below_size (be HB))); have GE222 := am (gN hg (below_size (be HB))); have NB221_222 := nL BK221 hg; have NB222_221 := nR BK221 hg; replace BK221 := bB BK221 hb; replace HB := am (below_step (be HB) hb); clear hb hbox hg; have hnb21 := NB221_222.out; have hnc21 := NB222_221.out; have hcz22_0 : w20.cell? ⟨gb221, 0, none⟩ = some (.int .i8 a0_0) := (blk_cell BK221.out 0).trans rfl; have hcz22_1 : w20.cell? ⟨gb221, 1, none⟩ = some (.int .i8 a0_1) := (blk_cell BK221.out 1).trans rfl; have hwz22 := lv28_at BK221.out; have haz22 := at_cells BK221.out; have hyz22 := BayAt28_of BK221.out; have hvz22 := lvv_of BK221.out; have hfz22_0 := blk_frozen BK221.out 0; have hfz22_1 := blk_frozen BK221.out 1; have hfz22_2 := blk_frozen BK221.out 2; obtain ⟨hcz23_0, hcz23_1, hcz23_2, hcz23_3, hcz23_4, hcz23_5, hfz23_0, hfz23_1, hfz23_2, hfz23_3, hfz23_4, hfz23_5⟩ := bx6 BK222) | ((with_reducible refine gate_callee (f := 167) rfl ?_); refine gL (some 8) Try.func167 #[.agg (csBay a0_0 a0_1 a0_2), .agg #[.int .i8 a1_0, .int .i8 a1_1]] ?_; (with_reducible refine (impl_isWater.calls a0_0 a0_1 a0_2 a1_0 a1_1 true _ A3.out).mono ?_); rintro e w24 ⟨rfl, hb⟩; refine ⟨_, rfl, ?_⟩; replace BK221 := bB BK221 hb; replace BK222 := bB BK222 hb; replace HB := am (below_step (be HB) hb); (try clear hb); (try clear hb2); (try clear hk); (try clear hi); obtain ⟨hcz25_0, hcz25_1, hcz25_2, hcz25_3, hcz25_4, hcz25_5, hfz25_0, hfz25_1, hfz25_2, hfz25_3, hfz25_4, hfz25_5⟩ := bx6 BK222))
                  go_ret
                  exact ⟨by first | rfl | (simp [errW_none, errW_some] <;> rfl) | (simp [*, errW_none, errW_some] <;> rfl), be HB⟩
              · rw [if_neg c10] at H
                have c10b0 : decide (a1_4 ≤ 30) = false := decide_eq_false c10
                clear c10
                obtain rfl := Option.some.inj H
                go_enter Try.func107, Try.ntmps107
                go_wp2_with (first | ((with_reducible refine gate_dst (N := 2) rfl ?_); refine bxe (N := 2) (cs := (csBay a0_0 a0_1 a0_2)) (t := 28) ?_; intro gb221 hg w26 hbox hb; have BK221 := am (hbox); have GW221 := am (gN hg (below_size (be HB))); have GE221 := am (gN hg (below_size (be HB))); replace HB := am (below_step (be HB) hb); clear hb hbox hg) | ((with_reducible refine gate_dst (N := 3) rfl ?_); refine bxe (N := 3) (cs := #[.int .i8 a1_0, .int .i8 a1_1, .int .i8 a1_2, .int .i8 a1_3, .int .i8 a1_4, .int .i8 a1_5]) (t := 38) ?_; intro gb222 hg w27 hbox hb; have BK222 := am (hbox); have GW222 := am (gN hg (below_size (be HB))); have GE222 := am (gN hg (below_size (be HB))); have NB221_222 := nL BK221 hg; have NB222_221 := nR BK221 hg; replace BK221 := bB BK221 hb; replace HB := am (below_step (be HB) hb); clear hb hbox hg; have hnb28 := NB221_222.out; have hnc28 := NB222_221.out; have hcz29_0 : w27.cell? ⟨gb221, 0, none⟩ = some (.int .i8 a0_0) := (blk_cell BK221.out 0).trans rfl; have hcz29_1 : w27.cell? ⟨gb221, 1, none⟩ = some (.int .i8 a0_1) := (blk_cell BK221.out 1).trans rfl; have hwz29 := lv28_at BK221.out; have haz29 := at_cells BK221.out; have hyz29 := BayAt28_of BK221.out; have hvz29 := lvv_of BK221.out; have hfz29_0 := blk_frozen BK221.out 0; have hfz29_1 := blk_frozen BK221.out 1; have hfz29_2 := blk_frozen BK221.out 2; obtain ⟨hcz30_0, hcz30_1, hcz30_2, hcz30_3, hcz30_4, hcz30_5, hfz30_0, hfz30_1, hfz30_2, hfz30_3, hfz30_4, hfz30_5⟩ := bx6 BK222) | ((with_reducible refine gate_callee (f := 167) rfl ?_); refine gL (some 8) Try.func167 #[.agg (csBay a0_0 a0_1 a0_2), .agg #[.int .i8 a1_0, .int .i8 a1_1]] ?_; (with_reducible refine (impl_isWater.calls a0_0 a0_1 a0_2 a1_0 a1_1 true _ A3.out).mono ?_); rintro e w31 ⟨rfl, hb⟩; refine ⟨_, rfl, ?_⟩; replace BK221 := bB BK221 hb; replace BK222 := bB BK222 hb; replace HB := am (below_step (be HB) hb); (try clear hb); (try clear hb2); (try clear hk); (try clear hi); obtain ⟨hcz32_0, hcz32_1, hcz32_2, hcz32_3, hcz32_4, hcz32_5, hfz32_0, hfz32_1, hfz32_2, hfz32_3, hfz32_4, hfz32_5⟩ := bx6 BK222))
                go_ret
                exact ⟨by first | rfl | (simp [errW_none, errW_some] <;> rfl) | (simp [*, errW_none, errW_some] <;> rfl), be HB⟩
            · rw [if_neg c9] at H
              have c9b0 : decide (1 ≤ a1_4) = false := decide_eq_false c9
              clear c9
              obtain rfl := Option.some.inj H
              go_enter Try.func107, Try.ntmps107
              go_wp2_with (first | ((with_reducible refine gate_dst (N := 2) rfl ?_); refine bxe (N := 2) (cs := (csBay a0_0 a0_1 a0_2)) (t := 28) ?_; intro gb221 hg w33 hbox hb; have BK221 := am (hbox); have GW221 := am (gN hg (below_size (be HB))); have GE221 := am (gN hg (below_size (be HB))); replace HB := am (below_step (be HB) hb); clear hb hbox hg) | ((with_reducible refine gate_dst (N := 3) rfl ?_); refine bxe (N := 3) (cs := #[.int .i8 a1_0, .int .i8 a1_1, .int .i8 a1_2, .int .i8 a1_3, .int .i8 a1_4, .int .i8 a1_5]) (t := 38) ?_; intro gb222 hg w34 hbox hb; have BK222 := am (hbox); have GW222 := am (gN hg (below_size (be HB))); have GE222 := am (gN hg (below_size (be HB))); have NB221_222 := nL BK221 hg; have NB222_221 := nR BK221 hg; replace BK221 := bB BK221 hb; replace HB := am (below_step (be HB) hb); clear hb hbox hg; have hnb35 := NB221_222.out; have hnc35 := NB222_221.out; have hcz36_0 : w34.cell? ⟨gb221, 0, none⟩ = some (.int .i8 a0_0) := (blk_cell BK221.out 0).trans rfl; have hcz36_1 : w34.cell? ⟨gb221, 1, none⟩ = some (.int .i8 a0_1) := (blk_cell BK221.out 1).trans rfl; have hwz36 := lv28_at BK221.out; have haz36 := at_cells BK221.out; have hyz36 := BayAt28_of BK221.out; have hvz36 := lvv_of BK221.out; have hfz36_0 := blk_frozen BK221.out 0; have hfz36_1 := blk_frozen BK221.out 1; have hfz36_2 := blk_frozen BK221.out 2; obtain ⟨hcz37_0, hcz37_1, hcz37_2, hcz37_3, hcz37_4, hcz37_5, hfz37_0, hfz37_1, hfz37_2, hfz37_3, hfz37_4, hfz37_5⟩ := bx6 BK222) | ((with_reducible refine gate_callee (f := 167) rfl ?_); refine gL (some 8) Try.func167 #[.agg (csBay a0_0 a0_1 a0_2), .agg #[.int .i8 a1_0, .int .i8 a1_1]] ?_; (with_reducible refine (impl_isWater.calls a0_0 a0_1 a0_2 a1_0 a1_1 true _ A3.out).mono ?_); rintro e w38 ⟨rfl, hb⟩; refine ⟨_, rfl, ?_⟩; replace BK221 := bB BK221 hb; replace BK222 := bB BK222 hb; replace HB := am (below_step (be HB) hb); (try clear hb); (try clear hb2); (try clear hk); (try clear hi); obtain ⟨hcz39_0, hcz39_1, hcz39_2, hcz39_3, hcz39_4, hcz39_5, hfz39_0, hfz39_1, hfz39_2, hfz39_3, hfz39_4, hfz39_5⟩ := bx6 BK222))
              go_ret
              exact ⟨by first | rfl | (simp [errW_none, errW_some] <;> rfl) | (simp [*, errW_none, errW_some] <;> rfl), be HB⟩
          · rw [if_neg c8] at H
            have c8b0 : decide (a1_3 ≤ 5) = false := decide_eq_false c8
            clear c8
            obtain rfl := Option.some.inj H
            go_enter Try.func107, Try.ntmps107
            go_wp2_with (first | ((with_reducible refine gate_dst (N := 2) rfl ?_); refine bxe (N := 2) (cs := (csBay a0_0 a0_1 a0_2)) (t := 28) ?_; intro gb221 hg w40 hbox hb; have BK221 := am (hbox); have GW221 := am (gN hg (below_size (be HB))); have GE221 := am (gN hg (below_size (be HB))); replace HB := am (below_step (be HB) hb); clear hb hbox hg) | ((with_reducible refine gate_dst (N := 3) rfl ?_); refine bxe (N := 3) (cs := #[.int .i8 a1_0, .int .i8 a1_1, .int .i8 a1_2, .int .i8 a1_3, .int .i8 a1_4, .int .i8 a1_5]) (t := 38) ?_; intro gb222 hg w41 hbox hb; have BK222 := am (hbox); have GW222 := am (gN hg (below_size (be HB))); have GE222 := am (gN hg (below_size (be HB))); have NB221_222 := nL BK221 hg; have NB222_221 := nR BK221 hg; replace BK221 := bB BK221 hb; replace HB := am (below_step (be HB) hb); clear hb hbox hg; have hnb42 := NB221_222.out; have hnc42 := NB222_221.out; have hcz43_0 : w41.cell? ⟨gb221, 0, none⟩ = some (.int .i8 a0_0) := (blk_cell BK221.out 0).trans rfl; have hcz43_1 : w41.cell? ⟨gb221, 1, none⟩ = some (.int .i8 a0_1) := (blk_cell BK221.out 1).trans rfl; have hwz43 := lv28_at BK221.out; have haz43 := at_cells BK221.out; have hyz43 := BayAt28_of BK221.out; have hvz43 := lvv_of BK221.out; have hfz43_0 := blk_frozen BK221.out 0; have hfz43_1 := blk_frozen BK221.out 1; have hfz43_2 := blk_frozen BK221.out 2; obtain ⟨hcz44_0, hcz44_1, hcz44_2, hcz44_3, hcz44_4, hcz44_5, hfz44_0, hfz44_1, hfz44_2, hfz44_3, hfz44_4, hfz44_5⟩ := bx6 BK222) | ((with_reducible refine gate_callee (f := 167) rfl ?_); refine gL (some 8) Try.func167 #[.agg (csBay a0_0 a0_1 a0_2), .agg #[.int .i8 a1_0, .int .i8 a1_1]] ?_; (with_reducible refine (impl_isWater.calls a0_0 a0_1 a0_2 a1_0 a1_1 true _ A3.out).mono ?_); rintro e w45 ⟨rfl, hb⟩; refine ⟨_, rfl, ?_⟩; replace BK221 := bB BK221 hb; replace BK222 := bB BK222 hb; replace HB := am (below_step (be HB) hb); (try clear hb); (try clear hb2); (try clear hk); (try clear hi); obtain ⟨hcz46_0, hcz46_1, hcz46_2, hcz46_3, hcz46_4, hcz46_5, hfz46_0, hfz46_1, hfz46_2, hfz46_3, hfz46_4, hfz46_5⟩ := bx6 BK222))
            go_ret
            exact ⟨by first | rfl | (simp [errW_none, errW_some] <;> rfl) | (simp [*, errW_none, errW_some] <;> rfl), be HB⟩
        · rw [if_neg c7] at H
          have c7b0 : decide (0 ≤ a1_3) = false := decide_eq_false c7
          clear c7
          obtain rfl := Option.some.inj H
          go_enter Try.func107, Try.ntmps107
          go_wp2_with (first | ((with_reducible refine gate_dst (N := 2) rfl ?_); refine bxe (N := 2) (cs := (csBay a0_0 a0_1 a0_2)) (t := 28) ?_; intro gb221 hg w47 hbox hb; have BK221 := am (hbox); have GW221 := am (gN hg (below_size (be HB))); have GE221 := am (gN hg (below_size (be HB))); replace HB := am (below_step (be HB) hb); clear hb hbox hg) | ((with_reducible refine gate_dst (N := 3) rfl ?_); refine bxe (N := 3) (cs := #[.int .i8 a1_0, .int .i8 a1_1, .int .i8 a1_2, .int .i8 a1_3, .int .i8 a1_4, .int .i8 a1_5]) (t := 38) ?_; intro gb222 hg w48 hbox hb; have BK222 := am (hbox); have GW222 := am (gN hg (below_size (be HB))); have GE222 := am (gN hg (below_size (be HB))); have NB221_222 := nL BK221 hg; have NB222_221 := nR BK221 hg; replace BK221 := bB BK221 hb; replace HB := am (below_step (be HB) hb); clear hb hbox hg; have hnb49 := NB221_222.out; have hnc49 := NB222_221.out; have hcz50_0 : w48.cell? ⟨gb221, 0, none⟩ = some (.int .i8 a0_0) := (blk_cell BK221.out 0).trans rfl; have hcz50_1 : w48.cell? ⟨gb221, 1, none⟩ = some (.int .i8 a0_1) := (blk_cell BK221.out 1).trans rfl; have hwz50 := lv28_at BK221.out; have haz50 := at_cells BK221.out; have hyz50 := BayAt28_of BK221.out; have hvz50 := lvv_of BK221.out; have hfz50_0 := blk_frozen BK221.out 0; have hfz50_1 := blk_frozen BK221.out 1; have hfz50_2 := blk_frozen BK221.out 2; obtain ⟨hcz51_0, hcz51_1, hcz51_2, hcz51_3, hcz51_4, hcz51_5, hfz51_0, hfz51_1, hfz51_2, hfz51_3, hfz51_4, hfz51_5⟩ := bx6 BK222) | ((with_reducible refine gate_callee (f := 167) rfl ?_); refine gL (some 8) Try.func167 #[.agg (csBay a0_0 a0_1 a0_2), .agg #[.int .i8 a1_0, .int .i8 a1_1]] ?_; (with_reducible refine (impl_isWater.calls a0_0 a0_1 a0_2 a1_0 a1_1 true _ A3.out).mono ?_); rintro e w52 ⟨rfl, hb⟩; refine ⟨_, rfl, ?_⟩; replace BK221 := bB BK221 hb; replace BK222 := bB BK222 hb; replace HB := am (below_step (be HB) hb); (try clear hb); (try clear hb2); (try clear hk); (try clear hi); obtain ⟨hcz53_0, hcz53_1, hcz53_2, hcz53_3, hcz53_4, hcz53_5, hfz53_0, hfz53_1, hfz53_2, hfz53_3, hfz53_4, hfz53_5⟩ := bx6 BK222))
          go_ret
          exact ⟨by first | rfl | (simp [errW_none, errW_some] <;> rfl) | (simp [*, errW_none, errW_some] <;> rfl), be HB⟩
      · rw [if_neg c6] at H
        have c6b0 : decide (a1_2 ≤ 60) = false := decide_eq_false c6
        clear c6
        obtain rfl := Option.some.inj H
        go_enter Try.func107, Try.ntmps107
        go_wp2_with (first | ((with_reducible refine gate_dst (N := 2) rfl ?_); refine bxe (N := 2) (cs := (csBay a0_0 a0_1 a0_2)) (t := 28) ?_; intro gb221 hg w54 hbox hb; have BK221 := am (hbox); have GW221 := am (gN hg (below_size (be HB))); have GE221 := am (gN hg (below_size (be HB))); replace HB := am (below_step (be HB) hb); clear hb hbox hg) | ((with_reducible refine gate_dst (N := 3) rfl ?_); refine bxe (N := 3) (cs := #[.int .i8 a1_0, .int .i8 a1_1, .int .i8 a1_2, .int .i8 a1_3, .int .i8 a1_4, .int .i8 a1_5]) (t := 38) ?_; intro gb222 hg w55 hbox hb; have BK222 := am (hbox); have GW222 := am (gN hg (below_size (be HB))); have GE222 := am (gN hg (below_size (be HB))); have NB221_222 := nL BK221 hg; have NB222_221 := nR BK221 hg; replace BK221 := bB BK221 hb; replace HB := am (below_step (be HB) hb); clear hb hbox hg; have hnb56 := NB221_222.out; have hnc56 := NB222_221.out; have hcz57_0 : w55.cell? ⟨gb221, 0, none⟩ = some (.int .i8 a0_0) := (blk_cell BK221.out 0).trans rfl; have hcz57_1 : w55.cell? ⟨gb221, 1, none⟩ = some (.int .i8 a0_1) := (blk_cell BK221.out 1).trans rfl; have hwz57 := lv28_at BK221.out; have haz57 := at_cells BK221.out; have hyz57 := BayAt28_of BK221.out; have hvz57 := lvv_of BK221.out; have hfz57_0 := blk_frozen BK221.out 0; have hfz57_1 := blk_frozen BK221.out 1; have hfz57_2 := blk_frozen BK221.out 2; obtain ⟨hcz58_0, hcz58_1, hcz58_2, hcz58_3, hcz58_4, hcz58_5, hfz58_0, hfz58_1, hfz58_2, hfz58_3, hfz58_4, hfz58_5⟩ := bx6 BK222) | ((with_reducible refine gate_callee (f := 167) rfl ?_); refine gL (some 8) Try.func167 #[.agg (csBay a0_0 a0_1 a0_2), .agg #[.int .i8 a1_0, .int .i8 a1_1]] ?_; (with_reducible refine (impl_isWater.calls a0_0 a0_1 a0_2 a1_0 a1_1 true _ A3.out).mono ?_); rintro e w59 ⟨rfl, hb⟩; refine ⟨_, rfl, ?_⟩; replace BK221 := bB BK221 hb; replace BK222 := bB BK222 hb; replace HB := am (below_step (be HB) hb); (try clear hb); (try clear hb2); (try clear hk); (try clear hi); obtain ⟨hcz60_0, hcz60_1, hcz60_2, hcz60_3, hcz60_4, hcz60_5, hfz60_0, hfz60_1, hfz60_2, hfz60_3, hfz60_4, hfz60_5⟩ := bx6 BK222))
        go_ret
        exact ⟨by first | rfl | (simp [errW_none, errW_some] <;> rfl) | (simp [*, errW_none, errW_some] <;> rfl), be HB⟩
    · rw [if_neg c5] at H
      have c5b0 : decide (1 ≤ a1_2) = false := decide_eq_false c5
      clear c5
      obtain rfl := Option.some.inj H
      go_enter Try.func107, Try.ntmps107
      go_wp2_with (first | ((with_reducible refine gate_dst (N := 2) rfl ?_); refine bxe (N := 2) (cs := (csBay a0_0 a0_1 a0_2)) (t := 28) ?_; intro gb221 hg w61 hbox hb; have BK221 := am (hbox); have GW221 := am (gN hg (below_size (be HB))); have GE221 := am (gN hg (below_size (be HB))); replace HB := am (below_step (be HB) hb); clear hb hbox hg) | ((with_reducible refine gate_dst (N := 3) rfl ?_); refine bxe (N := 3) (cs := #[.int .i8 a1_0, .int .i8 a1_1, .int .i8 a1_2, .int .i8 a1_3, .int .i8 a1_4, .int .i8 a1_5]) (t := 38) ?_; intro gb222 hg w62 hbox hb; have BK222 := am (hbox); have GW222 := am (gN hg (below_size (be HB))); have GE222 := am (gN hg (below_size (be HB))); have NB221_222 := nL BK221 hg; have NB222_221 := nR BK221 hg; replace BK221 := bB BK221 hb; replace HB := am (below_step (be HB) hb); clear hb hbox hg; have hnb63 := NB221_222.out; have hnc63 := NB222_221.out; have hcz64_0 : w62.cell? ⟨gb221, 0, none⟩ = some (.int .i8 a0_0) := (blk_cell BK221.out 0).trans rfl; have hcz64_1 : w62.cell? ⟨gb221, 1, none⟩ = some (.int .i8 a0_1) := (blk_cell BK221.out 1).trans rfl; have hwz64 := lv28_at BK221.out; have haz64 := at_cells BK221.out; have hyz64 := BayAt28_of BK221.out; have hvz64 := lvv_of BK221.out; have hfz64_0 := blk_frozen BK221.out 0; have hfz64_1 := blk_frozen BK221.out 1; have hfz64_2 := blk_frozen BK221.out 2; obtain ⟨hcz65_0, hcz65_1, hcz65_2, hcz65_3, hcz65_4, hcz65_5, hfz65_0, hfz65_1, hfz65_2, hfz65_3, hfz65_4, hfz65_5⟩ := bx6 BK222) | ((with_reducible refine gate_callee (f := 167) rfl ?_); refine gL (some 8) Try.func167 #[.agg (csBay a0_0 a0_1 a0_2), .agg #[.int .i8 a1_0, .int .i8 a1_1]] ?_; (with_reducible refine (impl_isWater.calls a0_0 a0_1 a0_2 a1_0 a1_1 true _ A3.out).mono ?_); rintro e w66 ⟨rfl, hb⟩; refine ⟨_, rfl, ?_⟩; replace BK221 := bB BK221 hb; replace BK222 := bB BK222 hb; replace HB := am (below_step (be HB) hb); (try clear hb); (try clear hb2); (try clear hk); (try clear hi); obtain ⟨hcz67_0, hcz67_1, hcz67_2, hcz67_3, hcz67_4, hcz67_5, hfz67_0, hfz67_1, hfz67_2, hfz67_3, hfz67_4, hfz67_5⟩ := bx6 BK222))
      go_ret
      exact ⟨by first | rfl | (simp [errW_none, errW_some] <;> rfl) | (simp [*, errW_none, errW_some] <;> rfl), be HB⟩
  · replace c4 := Bool.eq_false_iff.mpr c4
    subst c4
    have H1 : (some false) = some r := by rw [if_neg (show ¬ (false = true) by decide)] at H; exact H
    clear H
    have H := H1
    clear H1
    obtain rfl := Option.some.inj H
    go_enter Try.func107, Try.ntmps107
    go_wp2_with (first | ((with_reducible refine gate_dst (N := 2) rfl ?_); refine bxe (N := 2) (cs := (csBay a0_0 a0_1 a0_2)) (t := 28) ?_; intro gb221 hg w68 hbox hb; have BK221 := am (hbox); have GW221 := am (gN hg (below_size (be HB))); have GE221 := am (gN hg (below_size (be HB))); replace HB := am (below_step (be HB) hb); clear hb hbox hg) | ((with_reducible refine gate_dst (N := 3) rfl ?_); refine bxe (N := 3) (cs := #[.int .i8 a1_0, .int .i8 a1_1, .int .i8 a1_2, .int .i8 a1_3, .int .i8 a1_4, .int .i8 a1_5]) (t := 38) ?_; intro gb222 hg w69 hbox hb; have BK222 := am (hbox); have GW222 := am (gN hg (below_size (be HB))); have GE222 := am (gN hg (below_size (be HB))); have NB221_222 := nL BK221 hg; have NB222_221 := nR BK221 hg; replace BK221 := bB BK221 hb; replace HB := am (below_step (be HB) hb); clear hb hbox hg; have hnb70 := NB221_222.out; have hnc70 := NB222_221.out; have hcz71_0 : w69.cell? ⟨gb221, 0, none⟩ = some (.int .i8 a0_0) := (blk_cell BK221.out 0).trans rfl; have hcz71_1 : w69.cell? ⟨gb221, 1, none⟩ = some (.int .i8 a0_1) := (blk_cell BK221.out 1).trans rfl; have hwz71 := lv28_at BK221.out; have haz71 := at_cells BK221.out; have hyz71 := BayAt28_of BK221.out; have hvz71 := lvv_of BK221.out; have hfz71_0 := blk_frozen BK221.out 0; have hfz71_1 := blk_frozen BK221.out 1; have hfz71_2 := blk_frozen BK221.out 2; obtain ⟨hcz72_0, hcz72_1, hcz72_2, hcz72_3, hcz72_4, hcz72_5, hfz72_0, hfz72_1, hfz72_2, hfz72_3, hfz72_4, hfz72_5⟩ := bx6 BK222) | ((with_reducible refine gate_callee (f := 167) rfl ?_); refine gL (some 8) Try.func167 #[.agg (csBay a0_0 a0_1 a0_2), .agg #[.int .i8 a1_0, .int .i8 a1_1]] ?_; (with_reducible refine (impl_isWater.calls a0_0 a0_1 a0_2 a1_0 a1_1 false _ A3.out).mono ?_); rintro e w73 ⟨rfl, hb⟩; refine ⟨_, rfl, ?_⟩; replace BK221 := bB BK221 hb; replace BK222 := bB BK222 hb; replace HB := am (below_step (be HB) hb); (try clear hb); (try clear hb2); (try clear hk); (try clear hi)))
    go_ret
    exact ⟨by first | rfl | (simp [errW_none, errW_some] <;> rfl) | (simp [*, errW_none, errW_some] <;> rfl), be HB⟩

/-! ### impl_ValidBoat: function 30 -/
def impl_ValidBoat.f (a0_0 : Int) (a0_1 : Int) (a0_2 : (Nat → Int)) (a1_0 : Int) (a1_1 : Int) (a1_2 : Int) (a1_3 : Int) (a1_4 : Int) (a1_5 : Int) : Option (Bool) := (impl_ValidBay.f a0_0 a0_1 a0_2).bind fun t226 => (if t226 = true then ((impl_isBoat.f a0_0 a0_1 a0_2 a1_0 a1_1 a1_2 a1_3 a1_4 a1_5).bind fun t227 => (some t227)) else (some false))
set_option maxHeartbeats 8000000 in
set_option maxRecDepth 100000 in
theorem impl_ValidBoat.calls (a0_0 : Int) (a0_1 : Int) (a0_2 : (Nat → Int)) (a1_0 : Int) (a1_1 : Int) (a1_2 : Int) (a1_3 : Int) (a1_4 : Int) (a1_5 : Int) (r : Bool) (w : World) (h : impl_ValidBoat.f a0_0 a0_1 a0_2 a1_0 a1_1 a1_2 a1_3 a1_4 a1_5 = some r) :
    Calls Try.prog 30 #[.agg (csBay a0_0 a0_1 a0_2), .agg #[.int .i8 a1_0, .int .i8 a1_1, .int .i8 a1_2, .int .i8 a1_3, .int .i8 a1_4, .int .i8 a1_5]] w fun e w' => e = .returned (.bool r) ∧ Below w.heap.size w w' := by
  have hu28 := Try.underlying28
  have hu38 := Try.underlying38
  have HB := am (Below.refl w.heap.size w)
  have H : ((impl_ValidBay.f a0_0 a0_1 a0_2).bind fun t226 => (if t226 = true then ((impl_isBoat.f a0_0 a0_1 a0_2 a1_0 a1_1 a1_2 a1_3 a1_4 a1_5).bind fun t227 => (some t227)) else (some false))) = some r := h
  clear h
  replace H := Option.bind_eq_some_iff.mp H
  obtain ⟨t226, A30, H⟩ := H
  try dsimp only at H
  have A3 := am A30
  clear A30
  by_cases c4 : t226 = true
  · subst c4
    rw [if_pos rfl] at H
    replace H := Option.bind_eq_some_iff.mp H
    obtain ⟨t227, A50, H⟩ := H
    try dsimp only at H
    have A5 := am A50
    clear A50
    obtain rfl := Option.some.inj H
    go_enter Try.func30, Try.ntmps30
    go_wp2_with (first | ((with_reducible refine gate_dst (N := 2) rfl ?_); refine bxe (N := 2) (cs := (csBay a0_0 a0_1 a0_2)) (t := 28) ?_; intro gb224 hg w6 hbox hb; have BK224 := am (hbox); have GW224 := am (gN hg (below_size (be HB))); have GE224 := am (gN hg (below_size (be HB))); replace HB := am (below_step (be HB) hb); clear hb hbox hg) | ((with_reducible refine gate_dst (N := 3) rfl ?_); refine bxe (N := 3) (cs := #[.int .i8 a1_0, .int .i8 a1_1, .int .i8 a1_2, .int .i8 a1_3, .int .i8 a1_4, .int .i8 a1_5]) (t := 38) ?_; intro gb225 hg w7 hbox hb; have BK225 := am (hbox); have GW225 := am (gN hg (below_size (be HB))); have GE225 := am (gN hg (below_size (be HB))); have NB224_225 := nL BK224 hg; have NB225_224 := nR BK224 hg; replace BK224 := bB BK224 hb; replace HB := am (below_step (be HB) hb); clear hb hbox hg; have hnb8 := NB224_225.out; have hnc8 := NB225_224.out; have hcz9_0 : w7.cell? ⟨gb224, 0, none⟩ = some (.int .i8 a0_0) := (blk_cell BK224.out 0).trans rfl; have hcz9_1 : w7.cell? ⟨gb224, 1, none⟩ = some (.int .i8 a0_1) := (blk_cell BK224.out 1).trans rfl; have hwz9 := lv28_at BK224.out; have haz9 := at_cells BK224.out; have hyz9 := BayAt28_of BK224.out; have hvz9 := lvv_of BK224.out; have hfz9_0 := blk_frozen BK224.out 0; have hfz9_1 := blk_frozen BK224.out 1; have hfz9_2 := blk_frozen BK224.out 2) | ((with_reducible refine gate_callee (f := 27) rfl ?_); refine gL (some 6) Try.func27 #[.agg (csBay a0_0 a0_1 a0_2)] ?_; (with_reducible refine (impl_ValidBay.calls a0_0 a0_1 a0_2 true _ A3.out).mono ?_); rintro e w10 ⟨rfl, hb⟩; refine ⟨_, rfl, ?_⟩; replace BK224 := bB BK224 hb; replace BK225 := bB BK225 hb; replace HB := am (below_step (be HB) hb); (try clear hb); (try clear hb2); (try clear hk); (try clear hi); have hcz11_0 : w10.cell? ⟨gb224, 0, none⟩ = some (.int .i8 a0_0) := (blk_cell BK224.out 0).trans rfl; have hcz11_1 : w10.cell? ⟨gb224, 1, none⟩ = some (.int .i8 a0_1) := (blk_cell BK224.out 1).trans rfl; have hwz11 := lv28_at BK224.out; have haz11 := at_cells BK224.out; have hyz11 := BayAt28_of BK224.out; have hvz11 := lvv_of BK224.out; have hfz11_0 := blk_frozen BK224.out 0; have hfz11_1 := blk_frozen BK224.out 1; have hfz11_2 := blk_frozen BK224.out 2; obtain ⟨hcz12_0, hcz12_1, hcz12_2, hcz12_3, hcz12_4, hcz12_5, hfz12_0, hfz12_1, hfz12_2, hfz12_3, hfz12_4, hfz12_5⟩ := bx6 BK225) | (go_at_call 107; (with_reducible refine (impl_isBoat.calls a0_0 a0_1 a0_2 a1_0 a1_1 a1_2 a1_3 a1_4 a1_5 t227 _ A5.out).mono ?_); rintro e w13 ⟨rfl, hb⟩; replace BK224 := bB BK224 hb; replace BK225 := bB BK225 hb; replace HB := am (below_step (be HB) hb); (try clear hb); (try clear hb2); (try clear hk); (try clear hi)))
    go_ret
    exact ⟨by first | rfl | (simp [errW_none, errW_some] <;> rfl) | (simp [*, errW_none, errW_some] <;> rfl), be HB⟩
  · replace c4 := Bool.eq_false_iff.mpr c4
    subst c4
    have H1 : (some false) = some r := by rw [if_neg (show ¬ (false = true) by decide)] at H; exact H
    clear H
    have H := H1
    clear H1
    obtain rfl := Option.some.inj H
    go_enter Try.func30, Try.ntmps30
    go_wp2_with (first | ((with_reducible refine gate_dst (N := 2) rfl ?_); refine bxe (N := 2) (cs := (csBay a0_0 a0_1 a0_2)) (t := 28) ?_; intro gb224 hg w14 hbox hb; have BK224 := am (hbox); have GW224 := am (gN hg (below_size (be HB))); have GE224 := am (gN hg (below_size (be HB))); replace HB := am (below_step (be HB) hb); clear hb hbox hg) | ((with_reducible refine gate_dst (N := 3) rfl ?_); refine bxe (N := 3) (cs := #[.int .i8 a1_0, .int .i8 a1_1, .int .i8 a1_2, .int .i8 a1_3, .int .i8 a1_4, .int .i8 a1_5]) (t := 38) ?_; intro gb225 hg w15 hbox hb; have BK225 := am (hbox); have GW225 := am (gN hg (below_size (be HB))); have GE225 := am (gN hg (below_size (be HB))); have NB224_225 := nL BK224 hg; have NB225_224 := nR BK224 hg; replace BK224 := bB BK224 hb; replace HB := am (below_step (be HB) hb); clear hb hbox hg; have hnb16 := NB224_225.out; have hnc16 := NB225_224.out; have hcz17_0 : w15.cell? ⟨gb224, 0, none⟩ = some (.int .i8 a0_0) := (blk_cell BK224.out 0).trans rfl; have hcz17_1 : w15.cell? ⟨gb224, 1, none⟩ = some (.int .i8 a0_1) := (blk_cell BK224.out 1).trans rfl; have hwz17 := lv28_at BK224.out; have haz17 := at_cells BK224.out; have hyz17 := BayAt28_of BK224.out; have hvz17 := lvv_of BK224.out; have hfz17_0 := blk_frozen BK224.out 0; have hfz17_1 := blk_frozen BK224.out 1; have hfz17_2 := blk_frozen BK224.out 2) | ((with_reducible refine gate_callee (f := 27) rfl ?_); refine gL (some 6) Try.func27 #[.agg (csBay a0_0 a0_1 a0_2)] ?_; (with_reducible refine (impl_ValidBay.calls a0_0 a0_1 a0_2 false _ A3.out).mono ?_); rintro e w18 ⟨rfl, hb⟩; refine ⟨_, rfl, ?_⟩; replace BK224 := bB BK224 hb; replace BK225 := bB BK225 hb; replace HB := am (below_step (be HB) hb); (try clear hb); (try clear hb2); (try clear hk); (try clear hi)))
    go_ret
    exact ⟨by first | rfl | (simp [errW_none, errW_some] <;> rfl) | (simp [*, errW_none, errW_some] <;> rfl), be HB⟩

/-! ### impl_root: function 169 -/
def impl_root.l0 : Nat → Int → Int → Option (Int)
  | 0, _, _ => none
  | k + 1, x0, x3 => if (wrap64 ((wrap64 (x3 + 1)) * (wrap64 (x3 + 1)))) ≤ x0 then (impl_root.l0 k x0 (wrap64 (x3 + 1))) else (some x3)
def impl_root.f (k : Nat) (a0 : Int) : Option (Int) := impl_root.l0 k a0 0
set_option maxHeartbeats 8000000 in
set_option maxRecDepth 100000 in
theorem impl_root.calls (k : Nat) (a0 : Int) (r : Int) (w : World) (h : impl_root.f k a0 = some r) :
    Calls Try.prog 169 #[.int .i64 a0] w fun e w' => e = .returned (.int .i64 r) ∧ Drawn0 w w' := by
  have H : (impl_root.l0 k a0 0) = some r := h
  clear h
  have H' := am H
  clear H
  go_enter Try.func169, Try.ntmps169
  go_wp2
  go_loopg [3] k (fun kq v3 w' => ∃ (x3_1 : Int), v3 = .int .i64 x3_1 ∧ Aside0 (impl_root.l0 kq a0 x3_1 = some r) ∧ Aside0 (kq ≤ k) ∧ Drawn0 w w')
  case atStart => exact ⟨(0), vv, H', ⟨Nat.le_refl _⟩, by repeat (first | exact Drawn0.refl _ | apply Drawn0.step)⟩
  case round =>
    clear H'
    try clear c1
    obtain ⟨x3_1, rfl, HA, HK1, ⟨m1, rfl⟩⟩ := hrel
    cases gk with
    | zero => exact absurd HA.out (by simp [impl_root.l0])
    | succ k1 =>
      have H := HA.out
      clear HA
      simp only [impl_root.l0] at H
      by_cases c2 : (wrap64 ((wrap64 (x3_1 + 1)) * (wrap64 (x3_1 + 1)))) ≤ a0
      · rw [if_pos c2] at H
        have c2b0 : decide ((wrap64 ((wrap64 (x3_1 + 1)) * (wrap64 (x3_1 + 1)))) ≤ a0) = true := decide_eq_true c2
        clear c2
        have H' := am H
        clear H
        go_wp2
        go_roundg k1
        case measure => have := HK1.out; omega
        case rel => exact ⟨(wrap64 (x3_1 + 1)), vv, H', ⟨by have := HK1.out; omega⟩, by repeat (first | exact Drawn0.refl _ | apply Drawn0.step)⟩
      · rw [if_neg c2] at H
        have c2b0 : decide ((wrap64 ((wrap64 (x3_1 + 1)) * (wrap64 (x3_1 + 1)))) ≤ a0) = false := decide_eq_false c2
        clear c2
        obtain rfl := Option.some.inj H
        go_wp2
        go_ret
        exact ⟨by first | rfl | (simp; done) | (simp [*]; done), by repeat (first | exact Drawn0.refl _ | apply Drawn0.step)⟩

/-! ### impl_reachOf: function 116 -/
def impl_reachOf.f (k : Nat) (a0_0 : Int) (a0_1 : Int) (a0_2 : (Nat → Int)) (a1_0 : Int) (a1_1 : Int) (a1_2 : Int) (a1_3 : Int) (a1_4 : Int) (a1_5 : Int) : Option (Int) := (impl_depth.f a0_0 a0_1 a0_2 a1_0 a1_1).bind fun t230 => (if (wrap64 ((wrap64 ((wrap64 (a1_2)) * (wrap64 (a1_2)))) - (wrap64 (t230 * t230)))) < 0 then (some (-1)) else ((impl_root.f k (wrap64 ((wrap64 ((wrap64 (a1_2)) * (wrap64 (a1_2)))) - (wrap64 (t230 * t230))))).bind fun t231 => (some t231)))
set_option maxHeartbeats 8000000 in
set_option maxRecDepth 100000 in
theorem impl_reachOf.calls (k : Nat) (a0_0 : Int) (a0_1 : Int) (a0_2 : (Nat → Int)) (a1_0 : Int) (a1_1 : Int) (a1_2 : Int) (a1_3 : Int) (a1_4 : Int) (a1_5 : Int) (r : Int) (w : World) (h : impl_reachOf.f k a0_0 a0_1 a0_2 a1_0 a1_1 a1_2 a1_3 a1_4 a1_5 = some r) :
    Calls Try.prog 116 #[.agg (csBay a0_0 a0_1 a0_2), .agg #[.int .i8 a1_0, .int .i8 a1_1, .int .i8 a1_2, .int .i8 a1_3, .int .i8 a1_4, .int .i8 a1_5]] w fun e w' => e = .returned (.int .i64 r) ∧ Below w.heap.size w w' := by
  have hu28 := Try.underlying28
  have hu38 := Try.underlying38
  have hu36 := Try.underlying36
  have HB := am (Below.refl w.heap.size w)
  have H : ((impl_depth.f a0_0 a0_1 a0_2 a1_0 a1_1).bind fun t230 => (if (wrap64 ((wrap64 ((wrap64 (a1_2)) * (wrap64 (a1_2)))) - (wrap64 (t230 * t230)))) < 0 then (some (-1)) else ((impl_root.f k (wrap64 ((wrap64 ((wrap64 (a1_2)) * (wrap64 (a1_2)))) - (wrap64 (t230 * t230))))).bind fun t231 => (some t231)))) = some r := h
  clear h
  replace H := Option.bind_eq_some_iff.mp H
  obtain ⟨t230, A30, H⟩ := H
  try dsimp only at H
  have A3 := am A30
  clear A30
  by_cases c4 : (wrap64 ((wrap64 ((wrap64 (a1_2)) * (wrap64 (a1_2)))) - (wrap64 (t230 * t230)))) < 0
  · rw [if_pos c4] at H
    have c4b0 : decide ((wrap64 ((wrap64 ((wrap64 (a1_2)) * (wrap64 (a1_2)))) - (wrap64 (t230 * t230)))) < 0) = true := decide_eq_true c4
    clear c4
    obtain rfl := Option.some.inj H
    go_enter Try.func116, Try.ntmps116
    go_wp2_with (first | ((with_reducible refine gate_dst (N := 2) rfl ?_); refine bxe (N := 2) (cs := (csBay a0_0 a0_1 a0_2)) (t := 28) ?_; intro gb228 hg w5 hbox hb; have BK228 := am (hbox); have GW228 := am (gN hg (below_size (be HB))); have GE228 := am (gN hg (below_size (be HB))); replace HB := am (below_step (be HB) hb); clear hb hbox hg) | ((with_reducible refine gate_dst (N := 3) rfl ?_); refine bxe (N := 3) (cs := #[.int .i8 a1_0, .int .i8 a1_1, .int .i8 a1_2, .int .i8 a1_3, .int .i8 a1_4, .int .i8 a1_5]) (t := 38) ?_; intro gb229 hg w6 hbox hb; have BK229 := am (hbox); have GW229 := am (gN hg (below_size (be HB))); have GE229 := am (gN hg (below_size (be HB))); have NB228_229 := nL BK228 hg; have NB229_228 := nR BK228 hg; replace BK228 := bB BK228 hb; replace HB := am (below_step (be HB) hb); clear hb hbox hg; have hnb7 := NB228_229.out; have hnc7 := NB229_228.out; have hcz8_0 : w6.cell? ⟨gb228, 0, none⟩ = some (.int .i8 a0_0) := (blk_cell BK228.out 0).trans rfl; have hcz8_1 : w6.cell? ⟨gb228, 1, none⟩ = some (.int .i8 a0_1) := (blk_cell BK228.out 1).trans rfl; have hwz8 := lv28_at BK228.out; have haz8 := at_cells BK228.out; have hyz8 := BayAt28_of BK228.out; have hvz8 := lvv_of BK228.out; have hfz8_0 := blk_frozen BK228.out 0; have hfz8_1 := blk_frozen BK228.out 1; have hfz8_2 := blk_frozen BK228.out 2; obtain ⟨hcz9_0, hcz9_1, hcz9_2, hcz9_3, hcz9_4, hcz9_5, hfz9_0, hfz9_1, hfz9_2, hfz9_3, hfz9_4, hfz9_5⟩ := bx6 BK229) | ((with_reducible refine gate_callee (f := 112) rfl ?_); refine gL (some 10) Try.func112 #[.agg (csBay a0_0 a0_1 a0_2), .agg #[.int .i8 a1_0, .int .i8 a1_1]] ?_; (with_reducible refine (impl_depth.calls a0_0 a0_1 a0_2 a1_0 a1_1 t230 _ A3.out).mono ?_); rintro e w10 ⟨rfl, hb⟩; refine ⟨_, rfl, ?_⟩; replace BK228 := bB BK228 hb; replace BK229 := bB BK229 hb; replace HB := am (below_step (be HB) hb); (try clear hb); (try clear hb2); (try clear hk); (try clear hi); obtain ⟨hcz11_0, hcz11_1, hcz11_2, hcz11_3, hcz11_4, hcz11_5, hfz11_0, hfz11_1, hfz11_2, hfz11_3, hfz11_4, hfz11_5⟩ := bx6 BK229))
    go_ret
    exact ⟨by first | rfl | (simp [errW_none, errW_some] <;> rfl) | (simp [*, errW_none, errW_some] <;> rfl), be HB⟩
  · rw [if_neg c4] at H
    have c4b0 : decide ((wrap64 ((wrap64 ((wrap64 (a1_2)) * (wrap64 (a1_2)))) - (wrap64 (t230 * t230)))) < 0) = false := decide_eq_false c4
    clear c4
    replace H := Option.bind_eq_some_iff.mp H
    obtain ⟨t231, A120, H⟩ := H
    try dsimp only at H
    have A12 := am A120
    clear A120
    obtain rfl := Option.some.inj H
    go_enter Try.func116, Try.ntmps116
    go_wp2_with (first | ((with_reducible refine gate_dst (N := 2) rfl ?_); refine bxe (N := 2) (cs := (csBay a0_0 a0_1 a0_2)) (t := 28) ?_; intro gb228 hg w13 hbox hb; have BK228 := am (hbox); have GW228 := am (gN hg (below_size (be HB))); have GE228 := am (gN hg (below_size (be HB))); replace HB := am (below_step (be HB) hb); clear hb hbox hg) | ((with_reducible refine gate_dst (N := 3) rfl ?_); refine bxe (N := 3) (cs := #[.int .i8 a1_0, .int .i8 a1_1, .int .i8 a1_2, .int .i8 a1_3, .int .i8 a1_4, .int .i8 a1_5]) (t := 38) ?_; intro gb229 hg w14 hbox hb; have BK229 := am (hbox); have GW229 := am (gN hg (below_size (be HB))); have GE229 := am (gN hg (below_size (be HB))); have NB228_229 := nL BK228 hg; have NB229_228 := nR BK228 hg; replace BK228 := bB BK228 hb; replace HB := am (below_step (be HB) hb); clear hb hbox hg; have hnb15 := NB228_229.out; have hnc15 := NB229_228.out; have hcz16_0 : w14.cell? ⟨gb228, 0, none⟩ = some (.int .i8 a0_0) := (blk_cell BK228.out 0).trans rfl; have hcz16_1 : w14.cell? ⟨gb228, 1, none⟩ = some (.int .i8 a0_1) := (blk_cell BK228.out 1).trans rfl; have hwz16 := lv28_at BK228.out; have haz16 := at_cells BK228.out; have hyz16 := BayAt28_of BK228.out; have hvz16 := lvv_of BK228.out; have hfz16_0 := blk_frozen BK228.out 0; have hfz16_1 := blk_frozen BK228.out 1; have hfz16_2 := blk_frozen BK228.out 2; obtain ⟨hcz17_0, hcz17_1, hcz17_2, hcz17_3, hcz17_4, hcz17_5, hfz17_0, hfz17_1, hfz17_2, hfz17_3, hfz17_4, hfz17_5⟩ := bx6 BK229) | ((with_reducible refine gate_callee (f := 112) rfl ?_); refine gL (some 10) Try.func112 #[.agg (csBay a0_0 a0_1 a0_2), .agg #[.int .i8 a1_0, .int .i8 a1_1]] ?_; (with_reducible refine (impl_depth.calls a0_0 a0_1 a0_2 a1_0 a1_1 t230 _ A3.out).mono ?_); rintro e w18 ⟨rfl, hb⟩; refine ⟨_, rfl, ?_⟩; replace BK228 := bB BK228 hb; replace BK229 := bB BK229 hb; replace HB := am (below_step (be HB) hb); (try clear hb); (try clear hb2); (try clear hk); (try clear hi); obtain ⟨hcz19_0, hcz19_1, hcz19_2, hcz19_3, hcz19_4, hcz19_5, hfz19_0, hfz19_1, hfz19_2, hfz19_3, hfz19_4, hfz19_5⟩ := bx6 BK229) | ((with_reducible refine gate_callee (f := 169) rfl ?_); refine gL (some 25) Try.func169 #[.int .i64 (wrap64 ((wrap64 ((wrap64 (a1_2)) * (wrap64 (a1_2)))) - (wrap64 (t230 * t230))))] ?_; (with_reducible refine (impl_root.calls k (wrap64 ((wrap64 ((wrap64 (a1_2)) * (wrap64 (a1_2)))) - (wrap64 (t230 * t230)))) t231 _ A12.out).mono ?_); rintro e w' ⟨rfl, ⟨nd, rfl⟩⟩; refine ⟨_, rfl, ?_⟩))
    go_ret
    exact ⟨by first | rfl | (simp [errW_none, errW_some] <;> rfl) | (simp [*, errW_none, errW_some] <;> rfl), be HB⟩

/-! ### impl_boatCode: function 114 -/
def impl_boatCode.f (k : Nat) (a0_0 : Int) (a0_1 : Int) (a0_2 : (Nat → Int)) (a1_0 : Int) (a1_1 : Int) (a1_2 : Int) (a1_3 : Int) (a1_4 : Int) (a1_5 : Int) : Option (Int) := (impl_ValidBoat.f a0_0 a0_1 a0_2 a1_0 a1_1 a1_2 a1_3 a1_4 a1_5).bind fun t234 => (if t234 = true then ((impl_reachOf.f k a0_0 a0_1 a0_2 a1_0 a1_1 a1_2 a1_3 a1_4 a1_5).bind fun t235 => (if t235 < 0 then (some 4) else (some 0))) else (some 1))
set_option maxHeartbeats 8000000 in
set_option maxRecDepth 100000 in
theorem impl_boatCode.calls (k : Nat) (a0_0 : Int) (a0_1 : Int) (a0_2 : (Nat → Int)) (a1_0 : Int) (a1_1 : Int) (a1_2 : Int) (a1_3 : Int) (a1_4 : Int) (a1_5 : Int) (r : Int) (w : World) (h : impl_boatCode.f k a0_0 a0_1 a0_2 a1_0 a1_1 a1_2 a1_3 a1_4 a1_5 = some r) :
    Calls Try.prog 114 #[.agg (csBay a0_0 a0_1 a0_2), .agg #[.int .i8 a1_0, .int .i8 a1_1, .int .i8 a1_2, .int .i8 a1_3, .int .i8 a1_4, .int .i8 a1_5]] w fun e w' => e = .returned (.int .i64 r) ∧ Below w.heap.size w w' := by
  have hu28 := Try.underlying28
  have hu38 := Try.underlying38
  have HB := am (Below.refl w.heap.size w)
  have H : ((impl_ValidBoat.f a0_0 a0_1 a0_2 a1_0 a1_1 a1_2 a1_3 a1_4 a1_5).bind fun t234 => (if t234 = true then ((impl_reachOf.f k a0_0 a0_1 a0_2 a1_0 a1_1 a1_2 a1_3 a1_4 a1_5).bind fun t235 => (if t235 < 0 then (some 4) else (some 0))) else (some 1))) = some r := h
  clear h
  replace H := Option.bind_eq_some_iff.mp H
  obtain ⟨t234, A30, H⟩ := H
  try dsimp only at H
  have A3 := am A30
  clear A30
  by_cases c4 : t234 = true
  · subst c4
    rw [if_pos rfl] at H
    replace H := Option.bind_eq_some_iff.mp H
    obtain ⟨t235, A50, H⟩ := H
    try dsimp only at H
    have A5 := am A50
    clear A50
    by_cases c6 : t235 < 0
    · rw [if_pos c6] at H
      have c6b0 : decide (t235 < 0) = true := decide_eq_true c6
      clear c6
      obtain rfl := Option.some.inj H
      go_enter Try.func114, Try.ntmps114
      go_wp2_with (first | ((with_reducible refine gate_dst (N := 2) rfl ?_); refine bxe (N := 2) (cs := (csBay a0_0 a0_1 a0_2)) (t := 28) ?_; intro gb232 hg w7 hbox hb; have BK232 := am (hbox); have GW232 := am (gN hg (below_size (be HB))); have GE232 := am (gN hg (below_size (be HB))); replace HB := am (below_step (be HB) hb); clear hb hbox hg) | ((with_reducible refine gate_dst (N := 3) rfl ?_); refine bxe (N := 3) (cs := #[.int .i8 a1_0, .int .i8 a1_1, .int .i8 a1_2, .int .i8 a1_3, .int .i8 a1_4, .int .i8 a1_5]) (t := 38) ?_; intro gb233 hg w8 hbox hb; have BK233 := am (hbox); have GW233 := am (gN hg (below_size (be HB))); have GE233 := am (gN hg (below_size (be HB))); have NB232_233 := nL BK232 hg; have NB233_232 := nR BK232 hg; replace BK232 := bB BK232 hb; replace HB := am (below_step (be HB) hb); clear hb hbox hg; have hnb9 := NB232_233.out; have hnc9 := NB233_232.out; have hcz10_0 : w8.cell? ⟨gb232, 0, none⟩ = some (.int .i8 a0_0) := (blk_cell BK232.out 0).trans rfl; have hcz10_1 : w8.cell? ⟨gb232, 1, none⟩ = some (.int .i8 a0_1) := (blk_cell BK232.out 1).trans rfl; have hwz10 := lv28_at BK232.out; have haz10 := at_cells BK232.out; have hyz10 := BayAt28_of BK232.out; have hvz10 := lvv_of BK232.out; have hfz10_0 := blk_frozen BK232.out 0; have hfz10_1 := blk_frozen BK232.out 1; have hfz10_2 := blk_frozen BK232.out 2; obtain ⟨hcz11_0, hcz11_1, hcz11_2, hcz11_3, hcz11_4, hcz11_5, hfz11_0, hfz11_1, hfz11_2, hfz11_3, hfz11_4, hfz11_5⟩ := bx6 BK233) | ((with_reducible refine gate_callee (f := 30) rfl ?_); refine gL (some 8) Try.func30 #[.agg (csBay a0_0 a0_1 a0_2), .agg #[.int .i8 a1_0, .int .i8 a1_1, .int .i8 a1_2, .int .i8 a1_3, .int .i8 a1_4, .int .i8 a1_5]] ?_; (with_reducible refine (impl_ValidBoat.calls a0_0 a0_1 a0_2 a1_0 a1_1 a1_2 a1_3 a1_4 a1_5 true _ A3.out).mono ?_); rintro e w12 ⟨rfl, hb⟩; refine ⟨_, rfl, ?_⟩; replace BK232 := bB BK232 hb; replace BK233 := bB BK233 hb; replace HB := am (below_step (be HB) hb); (try clear hb); (try clear hb2); (try clear hk); (try clear hi); have hcz13_0 : w12.cell? ⟨gb232, 0, none⟩ = some (.int .i8 a0_0) := (blk_cell BK232.out 0).trans rfl; have hcz13_1 : w12.cell? ⟨gb232, 1, none⟩ = some (.int .i8 a0_1) := (blk_cell BK232.out 1).trans rfl; have hwz13 := lv28_at BK232.out; have haz13 := at_cells BK232.out; have hyz13 := BayAt28_of BK232.out; have hvz13 := lvv_of BK232.out; have hfz13_0 := blk_frozen BK232.out 0; have hfz13_1 := blk_frozen BK232.out 1; have hfz13_2 := blk_frozen BK232.out 2; obtain ⟨hcz14_0, hcz14_1, hcz14_2, hcz14_3, hcz14_4, hcz14_5, hfz14_0, hfz14_1, hfz14_2, hfz14_3, hfz14_4, hfz14_5⟩ := bx6 BK233) | ((with_reducible refine gate_callee (f := 116) rfl ?_); refine gL (some 13) Try.func116 #[.agg (csBay a0_0 a0_1 a0_2), .agg #[.int .i8 a1_0, .int .i8 a1_1, .int .i8 a1_2, .int .i8 a1_3, .int .i8 a1_4, .int .i8 a1_5]] ?_; (with_reducible refine (impl_reachOf.calls k a0_0 a0_1 a0_2 a1_0 a1_1 a1_2 a1_3 a1_4 a1_5 t235 _ A5.out).mono ?_); rintro e w15 ⟨rfl, hb⟩; refine ⟨_, rfl, ?_⟩; replace BK232 := bB BK232 hb; replace BK233 := bB BK233 hb; replace HB := am (below_step (be HB) hb); (try clear hb); (try clear hb2); (try clear hk); (try clear hi)))
      go_ret
      exact ⟨by first | rfl | (simp [errW_none, errW_some] <;> rfl) | (simp [*, errW_none, errW_some] <;> rfl), be HB⟩
    · rw [if_neg c6] at H
      have c6b0 : decide (t235 < 0) = false := decide_eq_false c6
      clear c6
      obtain rfl := Option.some.inj H
      go_enter Try.func114, Try.ntmps114
      go_wp2_with (first | ((with_reducible refine gate_dst (N := 2) rfl ?_); refine bxe (N := 2) (cs := (csBay a0_0 a0_1 a0_2)) (t := 28) ?_; intro gb232 hg w16 hbox hb; have BK232 := am (hbox); have GW232 := am (gN hg (below_size (be HB))); have GE232 := am (gN hg (below_size (be HB))); replace HB := am (below_step (be HB) hb); clear hb hbox hg) | ((with_reducible refine gate_dst (N := 3) rfl ?_); refine bxe (N := 3) (cs := #[.int .i8 a1_0, .int .i8 a1_1, .int .i8 a1_2, .int .i8 a1_3, .int .i8 a1_4, .int .i8 a1_5]) (t := 38) ?_; intro gb233 hg w17 hbox hb; have BK233 := am (hbox); have GW233 := am (gN hg (below_size (be HB))); have GE233 := am (gN hg (below_size (be HB))); have NB232_233 := nL BK232 hg; have NB233_232 := nR BK232 hg; replace BK232 := bB BK232 hb; replace HB := am (below_step (be HB) hb); clear hb hbox hg; have hnb18 := NB232_233.out; have hnc18 := NB233_232.out; have hcz19_0 : w17.cell? ⟨gb232, 0, none⟩ = some (.int .i8 a0_0) := (blk_cell BK232.out 0).trans rfl; have hcz19_1 : w17.cell? ⟨gb232, 1, none⟩ = some (.int .i8 a0_1) := (blk_cell BK232.out 1).trans rfl; have hwz19 := lv28_at BK232.out; have haz19 := at_cells BK232.out; have hyz19 := BayAt28_of BK232.out; have hvz19 := lvv_of BK232.out; have hfz19_0 := blk_frozen BK232.out 0; have hfz19_1 := blk_frozen BK232.out 1; have hfz19_2 := blk_frozen BK232.out 2; obtain ⟨hcz20_0, hcz20_1, hcz20_2, hcz20_3, hcz20_4, hcz20_5, hfz20_0, hfz20_1, hfz20_2, hfz20_3, hfz20_4, hfz20_5⟩ := bx6 BK233) | ((with_reducible refine gate_callee (f := 30) rfl ?_); refine gL (some 8) Try.func30 #[.agg (csBay a0_0 a0_1 a0_2), .agg #[.int .i8 a1_0, .int .i8 a1_1, .int .i8 a1_2, .int .i8 a1_3, .int .i8 a1_4, .int .i8 a1_5]] ?_; (with_reducible refine (impl_ValidBoat.calls a0_0 a0_1 a0_2 a1_0 a1_1 a1_2 a1_3 a1_4 a1_5 true _ A3.out).mono ?_); rintro e w21 ⟨rfl, hb⟩; refine ⟨_, rfl, ?_⟩; replace BK232 := bB BK232 hb; replace BK233 := bB BK233 hb; replace HB := am (below_step (be HB) hb); (try clear hb); (try clear hb2); (try clear hk); (try clear hi); have hcz22_0 : w21.cell? ⟨gb232, 0, none⟩ = some (.int .i8 a0_0) := (blk_cell BK232.out 0).trans rfl; have hcz22_1 : w21.cell? ⟨gb232, 1, none⟩ = some (.int .i8 a0_1) := (blk_cell BK232.out 1).trans rfl; have hwz22 := lv28_at BK232.out; have haz22 := at_cells BK232.out; have hyz22 := BayAt28_of BK232.out; have hvz22 := lvv_of BK232.out; have hfz22_0 := blk_frozen BK232.out 0; have hfz22_1 := blk_frozen BK232.out 1; have hfz22_2 := blk_frozen BK232.out 2; obtain ⟨hcz23_0, hcz23_1, hcz23_2, hcz23_3, hcz23_4, hcz23_5, hfz23_0, hfz23_1, hfz23_2, hfz23_3, hfz23_4, hfz23_5⟩ := bx6 BK233) | ((with_reducible refine gate_callee (f := 116) rfl ?_); refine gL (some 13) Try.func116 #[.agg (csBay a0_0 a0_1 a0_2), .agg #[.int .i8 a1_0, .int .i8 a1_1, .int .i8 a1_2, .int .i8 a1_3, .int .i8 a1_4, .int .i8 a1_5]] ?_; (with_reducible refine (impl_reachOf.calls k a0_0 a0_1 a0_2 a1_0 a1_1 a1_2 a1_3 a1_4 a1_5 t235 _ A5.out).mono ?_); rintro e w24 ⟨rfl, hb⟩; refine ⟨_, rfl, ?_⟩; replace BK232 := bB BK232 hb; replace BK233 := bB BK233 hb; replace HB := am (below_step (be HB) hb); (try clear hb); (try clear hb2); (try clear hk); (try clear hi)))
      go_ret
      exact ⟨by first | rfl | (simp [errW_none, errW_some] <;> rfl) | (simp [*, errW_none, errW_some] <;> rfl), be HB⟩
  · replace c4 := Bool.eq_false_iff.mpr c4
    subst c4
    have H1 : (some 1) = some r := by rw [if_neg (show ¬ (false = true) by decide)] at H; exact H
    clear H
    have H := H1
    clear H1
    obtain rfl := Option.some.inj H
    go_enter Try.func114, Try.ntmps114
    go_wp2_with (first | ((with_reducible refine gate_dst (N := 2) rfl ?_); refine bxe (N := 2) (cs := (csBay a0_0 a0_1 a0_2)) (t := 28) ?_; intro gb232 hg w25 hbox hb; have BK232 := am (hbox); have GW232 := am (gN hg (below_size (be HB))); have GE232 := am (gN hg (below_size (be HB))); replace HB := am (below_step (be HB) hb); clear hb hbox hg) | ((with_reducible refine gate_dst (N := 3) rfl ?_); refine bxe (N := 3) (cs := #[.int .i8 a1_0, .int .i8 a1_1, .int .i8 a1_2, .int .i8 a1_3, .int .i8 a1_4, .int .i8 a1_5]) (t := 38) ?_; intro gb233 hg w26 hbox hb; have BK233 := am (hbox); have GW233 := am (gN hg (below_size (be HB))); have GE233 := am (gN hg (below_size (be HB))); have NB232_233 := nL BK232 hg; have NB233_232 := nR BK232 hg; replace BK232 := bB BK232 hb; replace HB := am (below_step (be HB) hb); clear hb hbox hg; have hnb27 := NB232_233.out; have hnc27 := NB233_232.out; have hcz28_0 : w26.cell? ⟨gb232, 0, none⟩ = some (.int .i8 a0_0) := (blk_cell BK232.out 0).trans rfl; have hcz28_1 : w26.cell? ⟨gb232, 1, none⟩ = some (.int .i8 a0_1) := (blk_cell BK232.out 1).trans rfl; have hwz28 := lv28_at BK232.out; have haz28 := at_cells BK232.out; have hyz28 := BayAt28_of BK232.out; have hvz28 := lvv_of BK232.out; have hfz28_0 := blk_frozen BK232.out 0; have hfz28_1 := blk_frozen BK232.out 1; have hfz28_2 := blk_frozen BK232.out 2; obtain ⟨hcz29_0, hcz29_1, hcz29_2, hcz29_3, hcz29_4, hcz29_5, hfz29_0, hfz29_1, hfz29_2, hfz29_3, hfz29_4, hfz29_5⟩ := bx6 BK233) | ((with_reducible refine gate_callee (f := 30) rfl ?_); refine gL (some 8) Try.func30 #[.agg (csBay a0_0 a0_1 a0_2), .agg #[.int .i8 a1_0, .int .i8 a1_1, .int .i8 a1_2, .int .i8 a1_3, .int .i8 a1_4, .int .i8 a1_5]] ?_; (with_reducible refine (impl_ValidBoat.calls a0_0 a0_1 a0_2 a1_0 a1_1 a1_2 a1_3 a1_4 a1_5 false _ A3.out).mono ?_); rintro e w30 ⟨rfl, hb⟩; refine ⟨_, rfl, ?_⟩; replace BK232 := bB BK232 hb; replace BK233 := bB BK233 hb; replace HB := am (below_step (be HB) hb); (try clear hb); (try clear hb2); (try clear hk); (try clear hi)))
    go_ret
    exact ⟨by first | rfl | (simp [errW_none, errW_some] <;> rfl) | (simp [*, errW_none, errW_some] <;> rfl), be HB⟩

/-! ### impl_allPlaces: function 111 -/
mutual
def impl_allPlaces.l0 : Nat → List (S36) → Int → Int → Int → Int → (Nat → Int) → Option ((List (S36)))
  | 0, _, _, _, _, _, _ => none
  | k + 1, x3, x8, x9, x237000, x237001, x237002 => if x9 < x8 then (impl_allPlaces.l1 k x3 x9 x8 x9 x237000 0 x237000 x237001 x237002) else (some x3)
def impl_allPlaces.l1 : Nat → List (S36) → Int → Int → Int → Int → Int → Int → Int → (Nat → Int) → Option ((List (S36)))
  | 0, _, _, _, _, _, _, _, _, _ => none
  | k + 1, x3, x4, x8, x9, x13, x14, x237000, x237001, x237002 => if x14 < x13 then (if x3.length < 70368744177664 then (impl_allPlaces.l1 k (x3 ++ [(⟨x14, x4⟩ : S36)]) x4 x8 x9 x13 (IntKind.i8.wrap (x14 + 1)) x237000 x237001 x237002) else (none)) else (impl_allPlaces.l0 k x3 x8 (IntKind.i8.wrap (x9 + 1)) x237000 x237001 x237002)
end
def impl_allPlaces.f (k : Nat) (a0_0 : Int) (a0_1 : Int) (a0_2 : (Nat → Int)) : Option ((List (S36))) := impl_allPlaces.l0 k (([] : List (S36))) a0_1 0 a0_0 a0_1 a0_2
set_option maxHeartbeats 8000000 in
set_option maxRecDepth 100000 in
theorem impl_allPlaces.calls (k : Nat) (a0_0 : Int) (a0_1 : Int) (a0_2 : (Nat → Int)) (r : List (S36)) (w : World) (h : impl_allPlaces.f k a0_0 a0_1 a0_2 = some r) :
    Calls Try.prog 111 #[.agg (csBay a0_0 a0_1 a0_2)] w fun e w' => ∃ v0_ : Value, e = .returned (v0_) ∧ Kd.R k36 36 w' w.heap.size (fun _ => True) v0_ r ∧ Below w.heap.size w w' := by
  have hu28 := Try.underlying28
  have hu36 := Try.underlying36
  have HB := am (Below.refl w.heap.size w)
  have H : (impl_allPlaces.l0 k (([] : List (S36))) a0_1 0 a0_0 a0_1 a0_2) = some r := h
  clear h
  obtain ⟨y237, hy237⟩ : ∃ y_ : List (S36), y_ = (([] : List (S36))) := ⟨_, rfl⟩
  replace H : (impl_allPlaces.l0 k y237 a0_1 0 a0_0 a0_1 a0_2) = some r := by first | (rw [hy237]; with_reducible exact H) | (have H2_ := (Option.bind_some _ _).symm.trans H; rw [hy237]; with_reducible exact H2_) | (have H2_ := (Option.bind_some _ _).symm.trans H; with_reducible exact H2_) | with_reducible exact H | (rw [hy237]; exact H) | exact H
  have Ny237 := am hy237
  clear hy237
  have H' := am H
  clear H
  go_enter Try.func111, Try.ntmps111
  go_wp2_with (first | ((with_reducible refine gate_dst (N := 1) rfl ?_); refine bxe (N := 1) (cs := (csBay a0_0 a0_1 a0_2)) (t := 28) ?_; intro gb236 hg w2 hbox hb; have BK236 := am (hbox); have GW236 := am (gN hg (below_size (be HB))); have GE236 := am (gN hg (below_size (be HB))); replace HB := am (below_step (be HB) hb); clear hb hbox hg) | ((with_reducible refine gate_dst (N := 6) rfl ?_); refine Kd.R_lit k36 _ 36 ?hg (N := 6) ?hd (xs := ([] : List (S36))) (inner := []) (ok := fun _ => True) (okp := fun _ => True) ?hr ?hp (fun _ hk => hk) trivial (Below.refl _ _) (Nat.le_refl _) (by simp) ?_; (case hd => rfl); (case hg => rfl); (case hr => first | (go_simp; done) | (go_simp; rfl)); (case hp => exact (Reps.none _ _)); intro v238 w3 ho4 hb hg_ hnew_; clear hg_ hnew_; (first | rw [← Ny237.out] at ho4 | (simp only [Int.reduceToNat] at ho4; rw [← Ny237.out] at ho4)); have HO239 := am (Kd.R_lower ho4 (below_size (be HB))); replace BK236 := bB BK236 hb; replace HB := am (below_step (be HB) hb); clear hb ho4; have hcz5_0 : w3.cell? ⟨gb236, 0, none⟩ = some (.int .i8 a0_0) := (blk_cell BK236.out 0).trans rfl; have hcz5_1 : w3.cell? ⟨gb236, 1, none⟩ = some (.int .i8 a0_1) := (blk_cell BK236.out 1).trans rfl; have hwz5 := lv28_at BK236.out; have haz5 := at_cells BK236.out; have hyz5 := BayAt28_of BK236.out; have hvz5 := lvv_of BK236.out; have hfz5_0 := blk_frozen BK236.out 0; have hfz5_1 := blk_frozen BK236.out 1; have hfz5_2 := blk_frozen BK236.out 2))
  go_loopg [3, 9] k (fun kq v3 v9 w' => ∃ (x3_1 : List (S36)) (x9_1 : Int), v9 = .int .i8 x9_1 ∧ Aside0 (impl_allPlaces.l0 kq x3_1 a0_1 x9_1 a0_0 a0_1 a0_2 = some r) ∧ Aside0 (kq ≤ k) ∧ Aside0 (Kd.R k36 36 w' w.heap.size (fun _ => True) v3 x3_1) ∧ Aside0 (w'.heap[gb236]? = some (.cells (csBay a0_0 a0_1 a0_2) 28 (0, 0))) ∧ Aside0 (Below w.heap.size w w'))
  case atStart => exact ⟨(y237), (0), vv, H', ⟨Nat.le_refl _⟩, ⟨kr HO239⟩, ⟨kb BK236⟩, ⟨be HB⟩⟩
  case round =>
    clear H'
    try clear c1
    try clear p2
    try clear hcz5_0
    try clear hcz5_1
    try clear hfz5_0
    try clear hfz5_1
    try clear hfz5_2
    obtain ⟨x3_1, x9_1, rfl, HA, HK1, HO_3, BK236, HB⟩ := hrel
    cases gk with
    | zero => exact absurd HA.out (by simp [impl_allPlaces.l0])
    | succ k1 =>
      have H := HA.out
      clear HA
      simp only [impl_allPlaces.l0] at H
      by_cases c6 : x9_1 < a0_1
      · rw [if_pos c6] at H
        have c6b0 : decide (x9_1 < a0_1) = true := decide_eq_true c6
        clear c6
        have H' := am H
        clear H
        have hcz7_0 : wr.cell? ⟨gb236, 0, none⟩ = some (.int .i8 a0_0) := (blk_cell BK236.out 0).trans rfl
        have hcz7_1 : wr.cell? ⟨gb236, 1, none⟩ = some (.int .i8 a0_1) := (blk_cell BK236.out 1).trans rfl
        have hwz7 := lv28_at BK236.out; have haz7 := at_cells BK236.out; have hyz7 := BayAt28_of BK236.out; have hvz7 := lvv_of BK236.out
        have hfz7_0 := blk_frozen BK236.out 0
        have hfz7_1 := blk_frozen BK236.out 1
        have hfz7_2 := blk_frozen BK236.out 2
        go_wp2
        go_loopg [3, 14] k1 (fun kq v3 v14 w' => ∃ (x3_2 : List (S36)) (x14_2 : Int), v14 = .int .i8 x14_2 ∧ Aside0 (impl_allPlaces.l1 kq x3_2 x9_1 a0_1 x9_1 a0_0 x14_2 a0_0 a0_1 a0_2 = some r) ∧ Aside0 (kq ≤ k1) ∧ Aside0 (Kd.R k36 36 w' w.heap.size (fun _ => True) v3 x3_2) ∧ Aside0 (w'.heap[gb236]? = some (.cells (csBay a0_0 a0_1 a0_2) 28 (0, 0))) ∧ Aside0 (Below w.heap.size w w'))
        case atStart => exact ⟨(x3_1), (0), vv, H', ⟨Nat.le_refl _⟩, ⟨kr HO_3⟩, ⟨kb BK236⟩, ⟨be HB⟩⟩
        case round =>
          clear H'
          try clear c1
          try clear p2
          try clear c6
          try clear c6b0
          try clear hcz5_0
          try clear hcz5_1
          try clear hcz7_0
          try clear hcz7_1
          try clear hfz5_0
          try clear hfz5_1
          try clear hfz5_2
          try clear hfz7_0
          try clear hfz7_1
          try clear hfz7_2
          try clear p2
          obtain ⟨x3_2, x14_2, rfl, HA, HK2, HO_3, BK236, HB⟩ := hrel
          cases gk with
          | zero => exact absurd HA.out (by simp [impl_allPlaces.l1])
          | succ k2 =>
            have H := HA.out
            clear HA
            simp only [impl_allPlaces.l1] at H
            by_cases c8 : x14_2 < a0_0
            · rw [if_pos c8] at H
              have c8b0 : decide (x14_2 < a0_0) = true := decide_eq_true c8
              clear c8
              by_cases c9 : x3_2.length < 70368744177664
              · rw [if_pos c9] at H
                have LMc9 := am c9
                clear c9
                obtain ⟨y240, hy240⟩ : ∃ y_ : List (S36), y_ = (x3_2 ++ [(⟨x14_2, x9_1⟩ : S36)]) := ⟨_, rfl⟩
                replace H : (impl_allPlaces.l1 k2 y240 x9_1 a0_1 x9_1 a0_0 (IntKind.i8.wrap (x14_2 + 1)) a0_0 a0_1 a0_2) = some r := by first | (rw [hy240]; with_reducible exact H) | (have H2_ := (Option.bind_some _ _).symm.trans H; rw [hy240]; with_reducible exact H2_) | (have H2_ := (Option.bind_some _ _).symm.trans H; with_reducible exact H2_) | with_reducible exact H | (rw [hy240]; exact H) | exact H
                have Ny240 := am hy240
                clear hy240
                have H' := am H
                clear H
                go_wp2_with (first | ((with_reducible refine gate_builtin (b := .append) (xs := #[.tmp 17, .tmp 21]) rfl ?_); at_builtin; refine Kd.R_append k36 (w0 := w) w.heap.size rfl (.tmp 17) (.tmp 21) 56 36 (.agg #[(.int .i8 0), (.int .i8 0)]) 2 rfl Try.underlying56 info36 rfl (by decide) (by omega) u3 x3_2 (⟨x14_2, x9_1⟩ : S36) [.int .i8 x14_2, .int .i8 x9_1] (fun _ => True) (fun _ => False) rfl rfl ?aP (fun _ hk => hk.elim) ?aF ?aO ?aB ?aS ?aL ?_; (case aP => exact k36_mkM _ _ _ (⟨x14_2, x9_1⟩ : S36)); (case aB => exact (be HB)); (case aF => exact (fun _ _ => trivial)); (case aO => exact (kr HO_3)); (case aS => exact (below_size (be HB))); (case aL => have := LMc9.out; omega); intro v241 w10 ho hb hg hat; rw [← Ny240.out] at ho; have HO242 := am (ho); replace BK236 := am (blk_grown (g := gb236) (o := .cells (csBay a0_0 a0_1 a0_2) 28 (0, 0)) (kb BK236) hg (Kd.R_ne HO_3.out BK236.out (by decide))); replace HB := am (hb); clear HO_3; clear ho hb hg hat))
                go_roundg k2
                case measure => have := HK1.out; have := HK2.out; omega
                case rel => exact ⟨(y240), (IntKind.i8.wrap (x14_2 + 1)), vv, H', ⟨by have := HK1.out; have := HK2.out; omega⟩, ⟨kr HO242⟩, ⟨kb BK236⟩, ⟨be HB⟩⟩
              · rw [if_neg c9] at H
                exact absurd H (by simp)
            · rw [if_neg c8] at H
              have c8b0 : decide (x14_2 < a0_0) = false := decide_eq_false c8
              clear c8
              have H' := am H
              clear H
              go_wp2
              go_roundg k2
              case measure => have := HK1.out; have := HK2.out; omega
              case rel => exact ⟨(x3_2), (IntKind.i8.wrap (x9_1 + 1)), vv, H', ⟨by have := HK1.out; have := HK2.out; omega⟩, ⟨kr HO_3⟩, ⟨kb BK236⟩, ⟨be HB⟩⟩
      · rw [if_neg c6] at H
        have c6b0 : decide (x9_1 < a0_1) = false := decide_eq_false c6
        clear c6
        obtain rfl := Option.some.inj H
        go_wp2
        go_ret
        exact ⟨_, by first | rfl | (simp [errW_none, errW_some] <;> rfl) | (simp [*, errW_none, errW_some] <;> rfl), by (with_reducible repeat (first | apply Kd.R_alloc | apply Kd.R_drewN | apply Kd.R_drew)); exact HO_3.out, be HB⟩

/-! ### impl_swingOf: function 115 -/
def impl_swingOf.f (k : Nat) (a0_0 : Int) (a0_1 : Int) (a0_2 : (Nat → Int)) (a1_0 : Int) (a1_1 : Int) (a1_2 : Int) (a1_3 : Int) (a1_4 : Int) (a1_5 : Int) : Option (Int) := (impl_reachOf.f k a0_0 a0_1 a0_2 a1_0 a1_1 a1_2 a1_3 a1_4 a1_5).bind fun t245 => (some (wrap64 (t245 + (wrap64 (a1_3)))))
def impl_swingOf.T1 : Bool × List (List Nat × List Nat) := (true, [([], []), ([], []), ([0, 1], [0, 1]), ([], []), ([3], [3]), ([4], [4]), ([2, 5], [2, 5]), ([6, 2, 0, 1, 2, 3, 4, 5, 6], [6])])
def impl_swingOf.B1 : List Nat := [0, 0, 3, 0, 8, 24, 63, 127]
theorem impl_swingOf.tab1 : rtab .any (opsOf Try.f115 1) = impl_swingOf.T1 := by kernel_rfl
theorem impl_swingOf.bits1 : waitsOk impl_swingOf.T1.2 impl_swingOf.B1 = true := by kernel_rfl
set_option maxHeartbeats 8000000 in
set_option maxRecDepth 100000 in
theorem impl_swingOf.calls (k : Nat) (a0_0 : Int) (a0_1 : Int) (a0_2 : (Nat → Int)) (a1_0 : Int) (a1_1 : Int) (a1_2 : Int) (a1_3 : Int) (a1_4 : Int) (a1_5 : Int) (r : Int) (w : World) (h : impl_swingOf.f k a0_0 a0_1 a0_2 a1_0 a1_1 a1_2 a1_3 a1_4 a1_5 = some r) :
    Calls Try.prog 115 #[.agg (csBay a0_0 a0_1 a0_2), .agg #[.int .i8 a1_0, .int .i8 a1_1, .int .i8 a1_2, .int .i8 a1_3, .int .i8 a1_4, .int .i8 a1_5]] w fun e w' => e = .returned (.int .i64 r) ∧ Below w.heap.size w w' := by
  have hu28 := Try.underlying28
  have hu38 := Try.underlying38
  have HB := am (Below.refl w.heap.size w)
  have H : ((impl_reachOf.f k a0_0 a0_1 a0_2 a1_0 a1_1 a1_2 a1_3 a1_4 a1_5).bind fun t245 => (some (wrap64 (t245 + (wrap64 (a1_3)))))) = some r := h
  clear h
  replace H := Option.bind_eq_some_iff.mp H
  obtain ⟨t245, A30, H⟩ := H
  try dsimp only at H
  have A3 := am A30
  clear A30
  obtain rfl := Option.some.inj H
  go_enter Try.func115, Try.ntmps115
  try go_wp2_with (first | ((with_reducible refine gate_dst (N := 2) rfl ?_); refine bxe (N := 2) (cs := (csBay a0_0 a0_1 a0_2)) (t := 28) ?_; intro gb243 hg w4 hbox hb; have BK243 := am (hbox); have GW243 := am (gN hg (below_size (be HB))); have GE243 := am (gN hg (below_size (be HB))); replace HB := am (below_step (be HB) hb); clear hb hbox hg) | ((with_reducible refine gate_dst (N := 3) rfl ?_); refine bxe (N := 3) (cs := #[.int .i8 a1_0, .int .i8 a1_1, .int .i8 a1_2, .int .i8 a1_3, .int .i8 a1_4, .int .i8 a1_5]) (t := 38) ?_; intro gb244 hg w5 hbox hb; have BK244 := am (hbox); have GW244 := am (gN hg (below_size (be HB))); have GE244 := am (gN hg (below_size (be HB))); have NB243_244 := nL BK243 hg; have NB244_243 := nR BK243 hg; replace BK243 := bB BK243 hb; replace HB := am (below_step (be HB) hb); clear hb hbox hg))
  have n0_ := am (blk_drew BK243.out)
  have n1_ := am (blk_drew BK244.out)
  have n2_ := am (below_drew1 HB.out)
  clear BK243
  clear BK244
  clear HB
  have BK243 := n0_
  have BK244 := n1_
  have HB := n2_
  clear n0_ n1_ n2_
  refine start_ (n := 8) (S := fun w' => w'.cell? ⟨gb243, 0, none⟩ = some (.int .i8 a0_0) ∧ w'.cell? ⟨gb243, 1, none⟩ = some (.int .i8 a0_1) ∧ atCells w' gb243 a0_2 ∧ BayAt28 w' gb243 ∧ lvv w' gb243 = .agg (csBay a0_0 a0_1 a0_2) ∧ w'.cell? ⟨gb244, 0, none⟩ = some (.int .i8 a1_0) ∧ w'.cell? ⟨gb244, 1, none⟩ = some (.int .i8 a1_1) ∧ w'.cell? ⟨gb244, 2, none⟩ = some (.int .i8 a1_2) ∧ w'.cell? ⟨gb244, 3, none⟩ = some (.int .i8 a1_3) ∧ w'.cell? ⟨gb244, 4, none⟩ = some (.int .i8 a1_4) ∧ w'.cell? ⟨gb244, 5, none⟩ = some (.int .i8 a1_5)) (ds := []) #[false, false, false, false, false, false, false, false] (by kernel_rfl) rfl rfl ⟨(blk_cell BK243.out 0).trans rfl, (blk_cell BK243.out 1).trans rfl, at_cells BK243.out, BayAt28_of BK243.out, lvv_of BK243.out, (blk_cell BK244.out 0).trans rfl, (blk_cell BK244.out 1).trans rfl, (blk_cell BK244.out 2).trans rfl, (blk_cell BK244.out 3).trans rfl, (blk_cell BK244.out 4).trans rfl, (blk_cell BK244.out 5).trans rfl⟩ (fun hHeld => ?_); refine with_tabW impl_swingOf.tab1 impl_swingOf.bits1 (fun HT_ HW_ => ?_)
  generalize w5.drew = w6 at BK243 BK244 HB hHeld ⊢
  refine pure_ (i := 3) (N := some 8) (v := ?_) (a' := ?_) #[false, false, false, true, false, false, false, false] rfl rfl (any_of HT_.out (by kernel_rfl)) (fun _ _ _ h => h) (Or.inl ⟨by rfl, ?_⟩) ?_ ?_
  rotate_left
  · intro w'
    go_simp
    with_reducible rfl
  rotate_left
  · simp only [Act.put, List.setIfInBounds_toArray, List.set_cons_zero, List.set_cons_succ, i64_w, i32_w]
    rfl
  refine take_ (i := 0) (N := some 5) (v := ?_) (a' := ?_) #[true, false, false, true, false, false, false, false] rfl rfl (take_ofW HT_.out HW_.out (by kernel_rfl)) (fun _ _ _ h => h) (Or.inl ⟨by rfl, ?_⟩) hHeld ?_ ?_
  rotate_left
  · rintro w' ⟨s0, s1, s2, s3, s4, s5, s6, s7, s8, s9, s10⟩
    go_simp
    with_reducible rfl
  rotate_left
  · simp only [Act.put, List.setIfInBounds_toArray, List.set_cons_zero, List.set_cons_succ, i64_w, i32_w]
    rfl
  refine take_ (i := 1) (N := some 6) (v := ?_) (a' := ?_) #[true, true, false, true, false, false, false, false] rfl rfl (take_ofW HT_.out HW_.out (by kernel_rfl)) (fun _ _ _ h => h) (Or.inl ⟨by rfl, ?_⟩) hHeld ?_ ?_
  rotate_left
  · rintro w' ⟨s0, s1, s2, s3, s4, s5, s6, s7, s8, s9, s10⟩
    go_simp
    with_reducible rfl
  rotate_left
  · simp only [Act.put, List.setIfInBounds_toArray, List.set_cons_zero, List.set_cons_succ, i64_w, i32_w]
    rfl
  refine take_ (i := 4) (N := some 9) (v := ?_) (a' := ?_) #[true, true, false, true, true, false, false, false] rfl rfl (take_ofW HT_.out HW_.out (by kernel_rfl)) (fun _ _ _ h => h) (Or.inl ⟨by rfl, ?_⟩) hHeld ?_ ?_
  rotate_left
  · rintro w' ⟨s0, s1, s2, s3, s4, s5, s6, s7, s8, s9, s10⟩
    go_simp
    with_reducible rfl
  rotate_left
  · simp only [Act.put, List.setIfInBounds_toArray, List.set_cons_zero, List.set_cons_succ, i64_w, i32_w]
    rfl
  refine pure_ (i := 5) (N := some 10) (v := ?_) (a' := ?_) #[true, true, false, true, true, true, false, false] rfl rfl (any_of HT_.out (by kernel_rfl)) (fun _ _ _ h => h) (Or.inl ⟨by rfl, ?_⟩) ?_ ?_
  rotate_left
  · intro w'
    go_simp
    with_reducible rfl
  rotate_left
  · simp only [Act.put, List.setIfInBounds_toArray, List.set_cons_zero, List.set_cons_succ, i64_w, i32_w]
    rfl
  refine one_ (i := 2) (N := some 7) #[true, true, true, true, true, true, false, false] rfl rfl (one_of HT_.out (by kernel_rfl)) (by decide) (fun K hK => ?_)
  refine goes_ Try.func116 (by kernel_rfl) rfl #[.agg (csBay a0_0 a0_1 a0_2), .agg #[.int .i8 a1_0, .int .i8 a1_1, .int .i8 a1_2, .int .i8 a1_3, .int .i8 a1_4, .int .i8 a1_5]] (by rfl) rfl rfl (by (try simp only [List.map_toArray, List.map_cons, List.map_nil]); first | done | rfl | (simp only [List.length_drop, List.length_take]; rfl)) ?_
  with_reducible refine (impl_reachOf.calls k a0_0 a0_1 a0_2 a1_0 a1_1 a1_2 a1_3 a1_4 a1_5 t245 _ A3.out).mono ?_
  rintro e w7 ⟨rfl, hb⟩
  refine ⟨_, rfl, ?_⟩
  have n0_ := bB BK243 hb
  have n1_ := bB BK244 hb
  have n2_ := am (below_step (be HB) hb)
  clear BK243
  clear BK244
  clear HB
  have BK243 := n0_
  have BK244 := n1_
  have HB := n2_
  clear n0_ n1_ n2_
  (try clear hb)
  (try clear hb2)
  (try clear hk)
  (try clear hi)
  refine hK.out _ _ ⟨(blk_cell BK243.out 0).trans rfl, (blk_cell BK243.out 1).trans rfl, at_cells BK243.out, BayAt28_of BK243.out, lvv_of BK243.out, (blk_cell BK244.out 0).trans rfl, (blk_cell BK244.out 1).trans rfl, (blk_cell BK244.out 2).trans rfl, (blk_cell BK244.out 3).trans rfl, (blk_cell BK244.out 4).trans rfl, (blk_cell BK244.out 5).trans rfl⟩ (fun hHeld => ?_)
  clear hK K
  refine norm_ (a' := ?_) ?_ ?_
  rotate_left
  · show Act.put _ (some 7) _ = _
    simp only [Act.put, List.setIfInBounds_toArray, List.set_cons_zero, List.set_cons_succ, i64_w, i32_w]
    rfl
  refine pure_ (i := 6) (N := some 11) (v := ?_) (a' := ?_) #[true, true, true, true, true, true, true, false] rfl rfl (any_of HT_.out (by kernel_rfl)) (fun _ _ _ h => h) (Or.inl ⟨by rfl, ?_⟩) ?_ ?_
  rotate_left
  · intro w'
    go_simp
    with_reducible rfl
  rotate_left
  · simp only [Act.put, List.setIfInBounds_toArray, List.set_cons_zero, List.set_cons_succ, i64_w, i32_w]
    rfl
  refine pure_ (i := 7) (N := some 4) (v := ?_) (a' := ?_) #[true, true, true, true, true, true, true, true] rfl rfl (any_of HT_.out (by kernel_rfl)) (fun _ _ _ h => h) (Or.inl ⟨by rfl, ?_⟩) ?_ ?_
  rotate_left
  · intro w'
    go_simp
    with_reducible rfl
  rotate_left
  · simp only [Act.put, List.setIfInBounds_toArray, List.set_cons_zero, List.set_cons_succ, i64_w, i32_w]
    rfl
  refine done_ (done_of HT_.out (by kernel_rfl)) ?_
  try go_wp2
  go_ret
  exact ⟨by first | rfl | (simp [errW_none, errW_some] <;> rfl) | (simp [*, errW_none, errW_some] <;> rfl), be HB⟩

/-! ### impl_far: function 171 -/
def impl_far.f (a0_0 : Int) (a0_1 : Int) (a1_0 : Int) (a1_1 : Int) : Option (Int) := some (wrap64 ((wrap64 ((wrap64 ((wrap64 (a0_0)) - (wrap64 (a1_0)))) * (wrap64 ((wrap64 (a0_0)) - (wrap64 (a1_0)))))) + (wrap64 ((wrap64 ((wrap64 (a0_1)) - (wrap64 (a1_1)))) * (wrap64 ((wrap64 (a0_1)) - (wrap64 (a1_1))))))))
set_option maxHeartbeats 8000000 in
set_option maxRecDepth 100000 in
theorem impl_far.calls (a0_0 : Int) (a0_1 : Int) (a1_0 : Int) (a1_1 : Int) (r : Int) (w : World) (h : impl_far.f a0_0 a0_1 a1_0 a1_1 = some r) :
    Calls Try.prog 171 #[.agg #[.int .i8 a0_0, .int .i8 a0_1], .agg #[.int .i8 a1_0, .int .i8 a1_1]] w fun e w' => e = .returned (.int .i64 r) ∧ Below w.heap.size w w' := by
  have hu36 := Try.underlying36
  have HB := am (Below.refl w.heap.size w)
  have H : (some (wrap64 ((wrap64 ((wrap64 ((wrap64 (a0_0)) - (wrap64 (a1_0)))) * (wrap64 ((wrap64 (a0_0)) - (wrap64 (a1_0)))))) + (wrap64 ((wrap64 ((wrap64 (a0_1)) - (wrap64 (a1_1)))) * (wrap64 ((wrap64 (a0_1)) - (wrap64 (a1_1))))))))) = some r := h
  clear h
  obtain rfl := Option.some.inj H
  go_enter Try.func171, Try.ntmps171
  go_wp2_with (first | ((with_reducible refine gate_dst (N := 2) rfl ?_); refine bxe (N := 2) (cs := #[.int .i8 a0_0, .int .i8 a0_1]) (t := 36) ?_; intro gb246 hg w3 hbox hb; have BK246 := am (hbox); have GW246 := am (gN hg (below_size (be HB))); have GE246 := am (gN hg (below_size (be HB))); replace HB := am (below_step (be HB) hb); clear hb hbox hg) | ((with_reducible refine gate_dst (N := 3) rfl ?_); refine bxe (N := 3) (cs := #[.int .i8 a1_0, .int .i8 a1_1]) (t := 36) ?_; intro gb247 hg w4 hbox hb; have BK247 := am (hbox); have GW247 := am (gN hg (below_size (be HB))); have GE247 := am (gN hg (below_size (be HB))); have NB246_247 := nL BK246 hg; have NB247_246 := nR BK246 hg; replace BK246 := bB BK246 hb; replace HB := am (below_step (be HB) hb); clear hb hbox hg; have hnb5 := NB246_247.out; have hnc5 := NB247_246.out; obtain ⟨hcz6_0, hcz6_1, hfz6_0, hfz6_1⟩ := bx2 BK246; obtain ⟨hcz7_0, hcz7_1, hfz7_0, hfz7_1⟩ := bx2 BK247))
  repeat (go_quiet (first | ((with_reducible refine gate_dst (N := 2) rfl ?_); refine bxe (N := 2) (cs := #[.int .i8 a0_0, .int .i8 a0_1]) (t := 36) ?_; intro gb246 hg w3 hbox hb; have BK246 := am (hbox); have GW246 := am (gN hg (below_size (be HB))); have GE246 := am (gN hg (below_size (be HB))); replace HB := am (below_step (be HB) hb); clear hb hbox hg) | ((with_reducible refine gate_dst (N := 3) rfl ?_); refine bxe (N := 3) (cs := #[.int .i8 a1_0, .int .i8 a1_1]) (t := 36) ?_; intro gb247 hg w4 hbox hb; have BK247 := am (hbox); have GW247 := am (gN hg (below_size (be HB))); have GE247 := am (gN hg (below_size (be HB))); have NB246_247 := nL BK246 hg; have NB247_246 := nR BK246 hg; replace BK246 := bB BK246 hb; replace HB := am (below_step (be HB) hb); clear hb hbox hg; have hnb5 := NB246_247.out; have hnc5 := NB247_246.out; obtain ⟨hcz6_0, hcz6_1, hfz6_0, hfz6_1⟩ := bx2 BK246; obtain ⟨hcz7_0, hcz7_1, hfz7_0, hfz7_1⟩ := bx2 BK247)); try go_wp2_with (first | ((with_reducible refine gate_dst (N := 2) rfl ?_); refine bxe (N := 2) (cs := #[.int .i8 a0_0, .int .i8 a0_1]) (t := 36) ?_; intro gb246 hg w3 hbox hb; have BK246 := am (hbox); have GW246 := am (gN hg (below_size (be HB))); have GE246 := am (gN hg (below_size (be HB))); replace HB := am (below_step (be HB) hb); clear hb hbox hg) | ((with_reducible refine gate_dst (N := 3) rfl ?_); refine bxe (N := 3) (cs := #[.int .i8 a1_0, .int .i8 a1_1]) (t := 36) ?_; intro gb247 hg w4 hbox hb; have BK247 := am (hbox); have GW247 := am (gN hg (below_size (be HB))); have GE247 := am (gN hg (below_size (be HB))); have NB246_247 := nL BK246 hg; have NB247_246 := nR BK246 hg; replace BK246 := bB BK246 hb; replace HB := am (below_step (be HB) hb); clear hb hbox hg; have hnb5 := NB246_247.out; have hnc5 := NB247_246.out; obtain ⟨hcz6_0, hcz6_1, hfz6_0, hfz6_1⟩ := bx2 BK246; obtain ⟨hcz7_0, hcz7_1, hfz7_0, hfz7_1⟩ := bx2 BK247)))
  go_ret
  exact ⟨by first | rfl | (simp [errW_none, errW_some] <;> rfl) | (simp [*, errW_none, errW_some] <;> rfl), be HB⟩

end Go.Proofs.Ytcollbifdfhfoaa.PFnExactShoalsOf
