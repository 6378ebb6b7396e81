-- Written by a program out of this seat's translation (functions, and that the code comes to them).
import Derived.Test.YtcollbifdfhfoaaPFnExactSwingPlacesx0
import Derived.Test.YtcollbifdfhfoaaPFnExactSwingPlacesx1
import Derived.Test.YtcollbifdfhfoaaPFnExactSwingPlacesx2
import Derived.Test.YtcollbifdfhfoaaPFnExactSwingPlacesx3
namespace Go.Proofs.Ytcollbifdfhfoaa.PFnExactSwingPlaces
open Go.RowKit Go.Proofs.YtcollbifdfhfoaaW.PrintWords Go.Proofs.YtcollbifdfhfoaaW.PrintLast Go.Proofs.YtcollbifdfhfoaaW.PrintMore
attribute [local go_sem] max2_int min2_int max_two min_two max_three min_three max_four min_four   -- for this text's walks alone
open Go.Proofs.Ytcollbifdfhfoaa.Bay Go.Proofs.Ytcollbifdfhfoaa.Short
attribute [local go_sem ↓] lv26_eq lv28_eq
set_option linter.unusedVariables false
set_option linter.unusedSimpArgs false

/-! ### spec_SwingPlaces: function 47 -/
def spec_SwingPlaces.f (k : Nat) (a0_0 : Int) (a0_1 : Int) (a0_2 : (Nat → Int)) (a1_0 : Int) (a1_1 : Int) (a1_2 : Int) (a1_3 : Int) (a1_4 : Int) (a1_5 : Int) : Option ((List (S36)) × Int) := (spec_l01Swing.f k a0_0 a0_1 a0_2 a1_0 a1_1 a1_2 a1_3 a1_4 a1_5).bind fun bt190 => (if bt190.2.1 = 0 then ((spec_l01Over.f k bt190.2.2.1 bt190.2.2.2.1 bt190.2.2.2.2 a1_0 a1_1 bt190.1 31).bind fun bt195 => (some (bt195.1, 0))) else (some ((([] : List (S36))), bt190.2.1)))
set_option maxHeartbeats 8000000 in
set_option maxRecDepth 100000 in
theorem spec_SwingPlaces.calls (k : Nat) (a0_0 : Int) (a0_1 : Int) (a0_2 : (Nat → Int)) (a1_0 : Int) (a1_1 : Int) (a1_2 : Int) (a1_3 : Int) (a1_4 : Int) (a1_5 : Int) (r1 : List (S36)) (r2 : Int) (w : World) (h : spec_SwingPlaces.f k a0_0 a0_1 a0_2 a1_0 a1_1 a1_2 a1_3 a1_4 a1_5 = some (r1, r2)) :
    Calls Try.prog 47 #[.agg (csBay a0_0 a0_1 a0_2), .agg #[.int .i8 a1_0, .int .i8 a1_1, .int .i8 a1_2, .int .i8 a1_3, .int .i8 a1_4, .int .i8 a1_5]] w fun e w' => ∃ v0_ : Value, e = .returned (.tuple #[v0_, .int .i64 r2]) ∧ Kd.R k36 36 w' w.heap.size (fun _ => True) v0_ r1 ∧ Below w.heap.size w w' := by
  have hu28 := Try.underlying28
  have hu38 := Try.underlying38
  have hu36 := Try.underlying36
  have HB := am (Below.refl w.heap.size w)
  have H : ((spec_l01Swing.f k a0_0 a0_1 a0_2 a1_0 a1_1 a1_2 a1_3 a1_4 a1_5).bind fun bt190 => (if bt190.2.1 = 0 then ((spec_l01Over.f k bt190.2.2.1 bt190.2.2.2.1 bt190.2.2.2.2 a1_0 a1_1 bt190.1 31).bind fun bt195 => (some (bt195.1, 0))) else (some ((([] : List (S36))), bt190.2.1)))) = some (r1, r2) := h
  clear h
  replace H := Option.bind_eq_some_iff.mp H
  obtain ⟨⟨t190, t191, t192, t193, t194⟩, A30, H⟩ := H
  try dsimp only at H
  have A3 := am A30
  clear A30
  by_cases c4 : t191 = 0
  · rw [if_pos c4] at H
    have c4b0 : (t191 == 0) = true := beq_iff_eq.mpr c4
    have c4b1 : (t191 != 0) = false := bne_eq_false_iff_eq.mpr c4
    clear c4
    replace H := Option.bind_eq_some_iff.mp H
    obtain ⟨⟨t195, t198, t199, t200⟩, A50, H⟩ := H
    try dsimp only at H
    have A5 := am A50
    clear A50
    simp only [Option.some.injEq, Prod.mk.injEq] at H
    obtain ⟨rfl, rfl⟩ := H
    go_enter Try.func47, Try.ntmps47
    go_wp2_with (first | ((with_reducible refine gate_dst (N := 2) rfl ?_); refine bxe (N := 2) (cs := (csBay a0_0 a0_1 a0_2)) (t := 28) ?_; intro gb188 hg w6 hbox hb; have HI188 := am ((show IsS28 w w6 gb188 a0_0 a0_1 a0_2 from ⟨hbox, by rw [hg]; exact (below_size (be HB))⟩)); have GW188 := am (gN hg (below_size (be HB))); have GE188 := am (gN hg (below_size (be HB))); replace HB := am (below_step (be HB) hb); clear hb hbox hg) | ((with_reducible refine gate_dst (N := 3) rfl ?_); refine bxe (N := 3) (cs := #[.int .i8 a1_0, .int .i8 a1_1, .int .i8 a1_2, .int .i8 a1_3, .int .i8 a1_4, .int .i8 a1_5]) (t := 38) ?_; intro gb189 hg w7 hbox hb; have BK189 := am (hbox); have GW189 := am (gN hg (below_size (be HB))); have GE189 := am (gN hg (below_size (be HB))); have NB188_189 := am (nLi hg (IsS28.lt (show IsS28 w _ gb188 a0_0 a0_1 a0_2 from si28 HI188))); have NB189_188 := am (nRi hg (IsS28.lt (show IsS28 w _ gb188 a0_0 a0_1 a0_2 from si28 HI188))); replace HI188 := am (IsS28.below (si28 HI188) hb); replace HB := am (below_step (be HB) hb); clear hb hbox hg; have hnb8 := NB189_188.out; have hnc8 := NB188_189.out; obtain ⟨hcz9_0, hcz9_1, hcz9_2, hcz9_3, hcz9_4, hcz9_5, hfz9_0, hfz9_1, hfz9_2, hfz9_3, hfz9_4, hfz9_5⟩ := bx6 BK189) | ((with_reducible refine gate_callee (f := 113) rfl ?_); refine gL (some 10) Try.func113 #[.pointer (some ⟨gb188, 0, none⟩), .agg #[.int .i8 a1_0, .int .i8 a1_1, .int .i8 a1_2, .int .i8 a1_3, .int .i8 a1_4, .int .i8 a1_5]] ?_; (with_reducible refine (spec_l01Swing.calls k gb188 a0_0 a0_1 a0_2 a1_0 a1_1 a1_2 a1_3 a1_4 a1_5 t190 t191 t192 t193 t194 w _ ?side1 ?side2 A3.out).mono ?_); (case side1 => exact si28 HI188); (case side2 => exact be HB); rintro e w10 ⟨rfl, hi, hb, hk⟩; refine ⟨_, rfl, ?_⟩; replace BK189 := am (KeepBut.blk hk (g' := gb189) (o := .cells #[.int .i8 a1_0, .int .i8 a1_1, .int .i8 a1_2, .int .i8 a1_3, .int .i8 a1_4, .int .i8 a1_5] 38 (0, 0)) (kb BK189) NB189_188.out (by simp)); replace HB := am (hb); replace HI188 := am (hi); (try clear hb); (try clear hb2); (try clear hk); (try clear hi); obtain ⟨hcz11_0, hcz11_1, hcz11_2, hcz11_3, hcz11_4, hcz11_5, hfz11_0, hfz11_1, hfz11_2, hfz11_3, hfz11_4, hfz11_5⟩ := bx6 BK189) | ((with_reducible refine gate_callee (f := 122) rfl ?_); refine gL (some 20) Try.func122 #[.pointer (some ⟨gb188, 0, none⟩), .agg #[.int .i8 a1_0, .int .i8 a1_1], .int .i64 t190, .int .i64 31] ?_; (with_reducible refine (spec_l01Over.calls k gb188 t192 t193 t194 a1_0 a1_1 t190 31 t195 t198 t199 t200 w _ ?side1 ?side2 A5.out).mono ?_); (case side1 => exact si28 HI188); (case side2 => exact be HB); rintro e w12 ⟨v196, rfl, ho0, hi, hb, hk⟩; refine ⟨_, rfl, ?_⟩; have HO197 := am (Kd.R_lower ho0 (below_size (be HB))); replace BK189 := am (KeepBut.blk hk (g' := gb189) (o := .cells #[.int .i8 a1_0, .int .i8 a1_1, .int .i8 a1_2, .int .i8 a1_3, .int .i8 a1_4, .int .i8 a1_5] 38 (0, 0)) (kb BK189) NB189_188.out (by simp)); replace HB := am (hb); replace HI188 := am (hi); (try clear hb); (try clear hb2); (try clear hk); (try clear hi); (try clear ho0)))
    go_ret2
    exact ⟨_, by first | rfl | (simp [errW_none, errW_some] <;> rfl) | (simp [*, errW_none, errW_some] <;> rfl), by (with_reducible repeat (first | apply Kd.R_alloc | apply Kd.R_drewN | apply Kd.R_drew)); exact HO197.out, be HB⟩
  · rw [if_neg c4] at H
    have c4b0 : (t191 == 0) = false := beq_eq_false_iff_ne.mpr c4
    have c4b1 : (t191 != 0) = true := bne_iff_ne.mpr c4
    obtain ⟨y201, hy201⟩ : ∃ y_ : List (S36), y_ = (([] : List (S36))) := ⟨_, rfl⟩
    replace H : (some (y201, t191)) = some (r1, r2) := by first | (rw [hy201]; with_reducible exact H) | (have H2_ := (Option.bind_some _ _).symm.trans H; rw [hy201]; with_reducible exact H2_) | (have H2_ := (Option.bind_some _ _).symm.trans H; with_reducible exact H2_) | with_reducible exact H | (rw [hy201]; exact H) | exact H
    have Ny201 := am hy201
    clear hy201
    simp only [Option.some.injEq, Prod.mk.injEq] at H
    obtain ⟨rfl, rfl⟩ := H
    go_enter Try.func47, Try.ntmps47
    go_wp2_with (first | ((with_reducible refine gate_dst (N := 2) rfl ?_); refine bxe (N := 2) (cs := (csBay a0_0 a0_1 a0_2)) (t := 28) ?_; intro gb188 hg w13 hbox hb; have HI188 := am ((show IsS28 w w13 gb188 a0_0 a0_1 a0_2 from ⟨hbox, by rw [hg]; exact (below_size (be HB))⟩)); have GW188 := am (gN hg (below_size (be HB))); have GE188 := am (gN hg (below_size (be HB))); replace HB := am (below_step (be HB) hb); clear hb hbox hg) | ((with_reducible refine gate_dst (N := 3) rfl ?_); refine bxe (N := 3) (cs := #[.int .i8 a1_0, .int .i8 a1_1, .int .i8 a1_2, .int .i8 a1_3, .int .i8 a1_4, .int .i8 a1_5]) (t := 38) ?_; intro gb189 hg w14 hbox hb; have BK189 := am (hbox); have GW189 := am (gN hg (below_size (be HB))); have GE189 := am (gN hg (below_size (be HB))); have NB188_189 := am (nLi hg (IsS28.lt (show IsS28 w _ gb188 a0_0 a0_1 a0_2 from si28 HI188))); have NB189_188 := am (nRi hg (IsS28.lt (show IsS28 w _ gb188 a0_0 a0_1 a0_2 from si28 HI188))); replace HI188 := am (IsS28.below (si28 HI188) hb); replace HB := am (below_step (be HB) hb); clear hb hbox hg; have hnb15 := NB189_188.out; have hnc15 := NB188_189.out; obtain ⟨hcz16_0, hcz16_1, hcz16_2, hcz16_3, hcz16_4, hcz16_5, hfz16_0, hfz16_1, hfz16_2, hfz16_3, hfz16_4, hfz16_5⟩ := bx6 BK189) | ((with_reducible refine gate_callee (f := 113) rfl ?_); refine gL (some 10) Try.func113 #[.pointer (some ⟨gb188, 0, none⟩), .agg #[.int .i8 a1_0, .int .i8 a1_1, .int .i8 a1_2, .int .i8 a1_3, .int .i8 a1_4, .int .i8 a1_5]] ?_; (with_reducible refine (spec_l01Swing.calls k gb188 a0_0 a0_1 a0_2 a1_0 a1_1 a1_2 a1_3 a1_4 a1_5 t190 t191 t192 t193 t194 w _ ?side1 ?side2 A3.out).mono ?_); (case side1 => exact si28 HI188); (case side2 => exact be HB); rintro e w17 ⟨rfl, hi, hb, hk⟩; refine ⟨_, rfl, ?_⟩; replace BK189 := am (KeepBut.blk hk (g' := gb189) (o := .cells #[.int .i8 a1_0, .int .i8 a1_1, .int .i8 a1_2, .int .i8 a1_3, .int .i8 a1_4, .int .i8 a1_5] 38 (0, 0)) (kb BK189) NB189_188.out (by simp)); replace HB := am (hb); replace HI188 := am (hi); (try clear hb); (try clear hb2); (try clear hk); (try clear hi)) | ((with_reducible refine gate_dst (N := 15) rfl ?_); refine Kd.R_lit k36 _ 36 ?hg (N := 15) ?hd (xs := ([] : List (S36))) (inner := []) (ok := fun _ => True) (okp := fun _ => True) ?hr ?hp (fun _ hk => hk) trivial (Below.refl _ _) (Nat.le_refl _) (by simp) ?_; (case hd => rfl); (case hg => rfl); (case hr => first | (go_simp; done) | (go_simp; rfl)); (case hp => exact (Reps.none _ _)); intro v202 w18 ho19 hb hg_ hnew_; clear hg_ hnew_; (first | rw [← Ny201.out] at ho19 | (simp only [Int.reduceToNat] at ho19; rw [← Ny201.out] at ho19)); have HO203 := am (Kd.R_lower ho19 (below_size (be HB))); replace HI188 := am (IsS28.below (si28 HI188) hb); replace BK189 := bB BK189 hb; replace HB := am (below_step (be HB) hb); clear hb ho19))
    go_ret2
    exact ⟨_, by first | rfl | (simp [errW_none, errW_some] <;> rfl) | (simp [*, errW_none, errW_some] <;> rfl), by (with_reducible repeat (first | apply Kd.R_alloc | apply Kd.R_drewN | apply Kd.R_drew)); exact HO203.out, be HB⟩

/-! ### impl_ValidBay: function 27 -/
def impl_ValidBay.f (a0_0 : Int) (a0_1 : Int) (a0_2 : (Nat → Int)) : Option (Bool) := some (decide (Go.Proofs.Ytcollbifdfhfoaa.BayIn.okBay a0_0 a0_1 a0_2))
theorem impl_ValidBay.calls (a0_0 : Int) (a0_1 : Int) (a0_2 : (Nat → Int)) (r : Bool) (w : World) (h : impl_ValidBay.f a0_0 a0_1 a0_2 = some r) :
    Calls Try.prog 27 #[.agg (csBay a0_0 a0_1 a0_2)] w fun e w' => e = .returned (.bool r) ∧ Below w.heap.size w w' := by
  obtain rfl := Option.some.inj h
  exact Go.Proofs.Ytcollbifdfhfoaa.BayIn.validBay_calls _ _ _ w

/-! ### impl_depth: function 112 -/
def impl_depth.f (a0_0 : Int) (a0_1 : Int) (a0_2 : (Nat → Int)) (a1_0 : Int) (a1_1 : Int) : Option (Int) := if 0 ≤ a1_1 then (if a1_1 < 16 then (if 0 ≤ a1_0 then (if a1_0 < 16 then (some (wrap64 (a0_2 (16 * (a1_1 : Int).toNat + (a1_0 : Int).toNat)))) else (none)) else (none)) else (none)) else (none)
set_option maxHeartbeats 8000000 in
set_option maxRecDepth 100000 in
theorem impl_depth.calls (a0_0 : Int) (a0_1 : Int) (a0_2 : (Nat → Int)) (a1_0 : Int) (a1_1 : Int) (r : Int) (w : World) (h : impl_depth.f a0_0 a0_1 a0_2 a1_0 a1_1 = some r) :
    Calls Try.prog 112 #[.agg (csBay a0_0 a0_1 a0_2), .agg #[.int .i8 a1_0, .int .i8 a1_1]] w fun e w' => e = .returned (.int .i64 r) ∧ Below w.heap.size w w' := by
  have hu28 := Try.underlying28
  have hu36 := Try.underlying36
  have HB := am (Below.refl w.heap.size w)
  have H : (if 0 ≤ a1_1 then (if a1_1 < 16 then (if 0 ≤ a1_0 then (if a1_0 < 16 then (some (wrap64 (a0_2 (16 * (a1_1 : Int).toNat + (a1_0 : Int).toNat)))) else (none)) else (none)) else (none)) else (none)) = some r := h
  clear h
  by_cases c3 : 0 ≤ a1_1
  · rw [if_pos c3] at H
    have c3b0 : decide (0 ≤ a1_1) = true := decide_eq_true c3
    have c3b1 : 0 ≤ a1_1 := c3
    clear c3
    by_cases c4 : a1_1 < 16
    · rw [if_pos c4] at H
      have c4b0 : decide (a1_1 < 16) = true := decide_eq_true c4
      have c4b1 : a1_1 < 16 := c4
      clear c4
      by_cases c5 : 0 ≤ a1_0
      · rw [if_pos c5] at H
        have c5b0 : decide (0 ≤ a1_0) = true := decide_eq_true c5
        have c5b1 : 0 ≤ a1_0 := c5
        clear c5
        by_cases c6 : a1_0 < 16
        · rw [if_pos c6] at H
          have c6b0 : decide (a1_0 < 16) = true := decide_eq_true c6
          have c6b1 : a1_0 < 16 := c6
          clear c6
          obtain rfl := Option.some.inj H
          go_enter Try.func112, Try.ntmps112
          go_wp2_with (first | ((with_reducible refine gate_dst (N := 2) rfl ?_); refine bxe (N := 2) (cs := (csBay a0_0 a0_1 a0_2)) (t := 28) ?_; intro gb204 hg w7 hbox hb; have BK204 := am (hbox); have GW204 := am (gN hg (below_size (be HB))); have GE204 := am (gN hg (below_size (be HB))); replace HB := am (below_step (be HB) hb); clear hb hbox hg) | ((with_reducible refine gate_dst (N := 3) rfl ?_); refine bxe (N := 3) (cs := #[.int .i8 a1_0, .int .i8 a1_1]) (t := 36) ?_; intro gb205 hg w8 hbox hb; have BK205 := am (hbox); have GW205 := am (gN hg (below_size (be HB))); have GE205 := am (gN hg (below_size (be HB))); have NB204_205 := nL BK204 hg; have NB205_204 := nR BK204 hg; replace BK204 := bB BK204 hb; replace HB := am (below_step (be HB) hb); clear hb hbox hg; have hnb9 := NB205_204.out; have hnc9 := NB204_205.out; obtain ⟨hcz10_0, hcz10_1, hfz10_0, hfz10_1⟩ := bx2 BK205; have hcz11_0 : w8.cell? ⟨gb204, 0, none⟩ = some (.int .i8 a0_0) := (blk_cell BK204.out 0).trans rfl; have hcz11_1 : w8.cell? ⟨gb204, 1, none⟩ = some (.int .i8 a0_1) := (blk_cell BK204.out 1).trans rfl; have hwz11 := lv28_at BK204.out; have haz11 := at_cells BK204.out; have hfz11_0 := blk_frozen BK204.out 0; have hfz11_1 := blk_frozen BK204.out 1; have hfz11_2 := blk_frozen BK204.out 2))
          repeat (go_quiet (first | ((with_reducible refine gate_dst (N := 2) rfl ?_); refine bxe (N := 2) (cs := (csBay a0_0 a0_1 a0_2)) (t := 28) ?_; intro gb204 hg w7 hbox hb; have BK204 := am (hbox); have GW204 := am (gN hg (below_size (be HB))); have GE204 := am (gN hg (below_size (be HB))); replace HB := am (below_step (be HB) hb); clear hb hbox hg) | ((with_reducible refine gate_dst (N := 3) rfl ?_); refine bxe (N := 3) (cs := #[.int .i8 a1_0, .int .i8 a1_1]) (t := 36) ?_; intro gb205 hg w8 hbox hb; have BK205 := am (hbox); have GW205 := am (gN hg (below_size (be HB))); have GE205 := am (gN hg (below_size (be HB))); have NB204_205 := nL BK204 hg; have NB205_204 := nR BK204 hg; replace BK204 := bB BK204 hb; replace HB := am (below_step (be HB) hb); clear hb hbox hg; have hnb9 := NB205_204.out; have hnc9 := NB204_205.out; obtain ⟨hcz10_0, hcz10_1, hfz10_0, hfz10_1⟩ := bx2 BK205; have hcz11_0 : w8.cell? ⟨gb204, 0, none⟩ = some (.int .i8 a0_0) := (blk_cell BK204.out 0).trans rfl; have hcz11_1 : w8.cell? ⟨gb204, 1, none⟩ = some (.int .i8 a0_1) := (blk_cell BK204.out 1).trans rfl; have hwz11 := lv28_at BK204.out; have haz11 := at_cells BK204.out; have hfz11_0 := blk_frozen BK204.out 0; have hfz11_1 := blk_frozen BK204.out 1; have hfz11_2 := blk_frozen BK204.out 2)); try go_wp2_with (first | ((with_reducible refine gate_dst (N := 2) rfl ?_); refine bxe (N := 2) (cs := (csBay a0_0 a0_1 a0_2)) (t := 28) ?_; intro gb204 hg w7 hbox hb; have BK204 := am (hbox); have GW204 := am (gN hg (below_size (be HB))); have GE204 := am (gN hg (below_size (be HB))); replace HB := am (below_step (be HB) hb); clear hb hbox hg) | ((with_reducible refine gate_dst (N := 3) rfl ?_); refine bxe (N := 3) (cs := #[.int .i8 a1_0, .int .i8 a1_1]) (t := 36) ?_; intro gb205 hg w8 hbox hb; have BK205 := am (hbox); have GW205 := am (gN hg (below_size (be HB))); have GE205 := am (gN hg (below_size (be HB))); have NB204_205 := nL BK204 hg; have NB205_204 := nR BK204 hg; replace BK204 := bB BK204 hb; replace HB := am (below_step (be HB) hb); clear hb hbox hg; have hnb9 := NB205_204.out; have hnc9 := NB204_205.out; obtain ⟨hcz10_0, hcz10_1, hfz10_0, hfz10_1⟩ := bx2 BK205; have hcz11_0 : w8.cell? ⟨gb204, 0, none⟩ = some (.int .i8 a0_0) := (blk_cell BK204.out 0).trans rfl; have hcz11_1 : w8.cell? ⟨gb204, 1, none⟩ = some (.int .i8 a0_1) := (blk_cell BK204.out 1).trans rfl; have hwz11 := lv28_at BK204.out; have haz11 := at_cells BK204.out; have hfz11_0 := blk_frozen BK204.out 0; have hfz11_1 := blk_frozen BK204.out 1; have hfz11_2 := blk_frozen BK204.out 2)))
          go_ret
          exact ⟨by first | rfl | (simp [errW_none, errW_some] <;> rfl) | (simp [*, errW_none, errW_some] <;> rfl), be HB⟩
        · rw [if_neg c6] at H
          exact absurd H (by simp)
      · rw [if_neg c5] at H
        exact absurd H (by simp)
    · rw [if_neg c4] at H
      exact absurd H (by simp)
  · rw [if_neg c3] at H
    exact absurd H (by simp)

/-! ### impl_isPlace: function 178 -/
def impl_isPlace.f (a0_0 : Int) (a0_1 : Int) (a0_2 : (Nat → Int)) (a1_0 : Int) (a1_1 : Int) : Option (Bool) := if a1_0 ≥ 0 then (if a1_0 < a0_0 then (if a1_1 ≥ 0 then (some (decide (a1_1 < a0_1))) else (some false)) else (some false)) else (some false)
set_option maxHeartbeats 8000000 in
set_option maxRecDepth 100000 in
theorem impl_isPlace.calls (a0_0 : Int) (a0_1 : Int) (a0_2 : (Nat → Int)) (a1_0 : Int) (a1_1 : Int) (r : Bool) (w : World) (h : impl_isPlace.f a0_0 a0_1 a0_2 a1_0 a1_1 = some r) :
    Calls Try.prog 178 #[.agg (csBay a0_0 a0_1 a0_2), .agg #[.int .i8 a1_0, .int .i8 a1_1]] w fun e w' => e = .returned (.bool r) ∧ Below w.heap.size w w' := by
  have hu28 := Try.underlying28
  have hu36 := Try.underlying36
  have HB := am (Below.refl w.heap.size w)
  have H : (if a1_0 ≥ 0 then (if a1_0 < a0_0 then (if a1_1 ≥ 0 then (some (decide (a1_1 < a0_1))) else (some false)) else (some false)) else (some false)) = some r := h
  clear h
  by_cases c3 : a1_0 ≥ 0
  · rw [if_pos c3] at H
    have c3b0 : decide (0 ≤ a1_0) = true := decide_eq_true c3
    have c3b1 : 0 ≤ a1_0 := c3
    clear c3
    by_cases c4 : a1_0 < a0_0
    · rw [if_pos c4] at H
      have c4b0 : decide (a1_0 < a0_0) = true := decide_eq_true c4
      clear c4
      by_cases c5 : a1_1 ≥ 0
      · rw [if_pos c5] at H
        have c5b0 : decide (0 ≤ a1_1) = true := decide_eq_true c5
        have c5b1 : 0 ≤ a1_1 := c5
        clear c5
        obtain rfl := Option.some.inj H
        go_enter Try.func178, Try.ntmps178
        go_wp2_with (first | ((with_reducible refine gate_dst (N := 2) rfl ?_); refine bxe (N := 2) (cs := (csBay a0_0 a0_1 a0_2)) (t := 28) ?_; intro gb206 hg w6 hbox hb; have BK206 := am (hbox); have GW206 := am (gN hg (below_size (be HB))); have GE206 := am (gN hg (below_size (be HB))); replace HB := am (below_step (be HB) hb); clear hb hbox hg) | ((with_reducible refine gate_dst (N := 3) rfl ?_); refine bxe (N := 3) (cs := #[.int .i8 a1_0, .int .i8 a1_1]) (t := 36) ?_; intro gb207 hg w7 hbox hb; have BK207 := am (hbox); have GW207 := am (gN hg (below_size (be HB))); have GE207 := am (gN hg (below_size (be HB))); have NB206_207 := nL BK206 hg; have NB207_206 := nR BK206 hg; replace BK206 := bB BK206 hb; replace HB := am (below_step (be HB) hb); clear hb hbox hg; have hnb8 := NB207_206.out; have hnc8 := NB206_207.out; obtain ⟨hcz9_0, hcz9_1, hfz9_0, hfz9_1⟩ := bx2 BK207; have hcz10_0 : w7.cell? ⟨gb206, 0, none⟩ = some (.int .i8 a0_0) := (blk_cell BK206.out 0).trans rfl; have hcz10_1 : w7.cell? ⟨gb206, 1, none⟩ = some (.int .i8 a0_1) := (blk_cell BK206.out 1).trans rfl; have hwz10 := lv28_at BK206.out; have haz10 := at_cells BK206.out; have hfz10_0 := blk_frozen BK206.out 0; have hfz10_1 := blk_frozen BK206.out 1; have hfz10_2 := blk_frozen BK206.out 2))
        go_ret
        exact ⟨by first | rfl | (simp [errW_none, errW_some] <;> rfl) | (simp [*, errW_none, errW_some] <;> rfl), be HB⟩
      · rw [if_neg c5] at H
        have c5b0 : decide (0 ≤ a1_1) = false := decide_eq_false c5
        clear c5
        obtain rfl := Option.some.inj H
        go_enter Try.func178, Try.ntmps178
        go_wp2_with (first | ((with_reducible refine gate_dst (N := 2) rfl ?_); refine bxe (N := 2) (cs := (csBay a0_0 a0_1 a0_2)) (t := 28) ?_; intro gb206 hg w11 hbox hb; have BK206 := am (hbox); have GW206 := am (gN hg (below_size (be HB))); have GE206 := am (gN hg (below_size (be HB))); replace HB := am (below_step (be HB) hb); clear hb hbox hg) | ((with_reducible refine gate_dst (N := 3) rfl ?_); refine bxe (N := 3) (cs := #[.int .i8 a1_0, .int .i8 a1_1]) (t := 36) ?_; intro gb207 hg w12 hbox hb; have BK207 := am (hbox); have GW207 := am (gN hg (below_size (be HB))); have GE207 := am (gN hg (below_size (be HB))); have NB206_207 := nL BK206 hg; have NB207_206 := nR BK206 hg; replace BK206 := bB BK206 hb; replace HB := am (below_step (be HB) hb); clear hb hbox hg; have hnb13 := NB207_206.out; have hnc13 := NB206_207.out; obtain ⟨hcz14_0, hcz14_1, hfz14_0, hfz14_1⟩ := bx2 BK207; have hcz15_0 : w12.cell? ⟨gb206, 0, none⟩ = some (.int .i8 a0_0) := (blk_cell BK206.out 0).trans rfl; have hcz15_1 : w12.cell? ⟨gb206, 1, none⟩ = some (.int .i8 a0_1) := (blk_cell BK206.out 1).trans rfl; have hwz15 := lv28_at BK206.out; have haz15 := at_cells BK206.out; have hfz15_0 := blk_frozen BK206.out 0; have hfz15_1 := blk_frozen BK206.out 1; have hfz15_2 := blk_frozen BK206.out 2))
        go_ret
        exact ⟨by first | rfl | (simp [errW_none, errW_some] <;> rfl) | (simp [*, errW_none, errW_some] <;> rfl), be HB⟩
    · rw [if_neg c4] at H
      have c4b0 : decide (a1_0 < a0_0) = false := decide_eq_false c4
      clear c4
      obtain rfl := Option.some.inj H
      go_enter Try.func178, Try.ntmps178
      go_wp2_with (first | ((with_reducible refine gate_dst (N := 2) rfl ?_); refine bxe (N := 2) (cs := (csBay a0_0 a0_1 a0_2)) (t := 28) ?_; intro gb206 hg w16 hbox hb; have BK206 := am (hbox); have GW206 := am (gN hg (below_size (be HB))); have GE206 := am (gN hg (below_size (be HB))); replace HB := am (below_step (be HB) hb); clear hb hbox hg) | ((with_reducible refine gate_dst (N := 3) rfl ?_); refine bxe (N := 3) (cs := #[.int .i8 a1_0, .int .i8 a1_1]) (t := 36) ?_; intro gb207 hg w17 hbox hb; have BK207 := am (hbox); have GW207 := am (gN hg (below_size (be HB))); have GE207 := am (gN hg (below_size (be HB))); have NB206_207 := nL BK206 hg; have NB207_206 := nR BK206 hg; replace BK206 := bB BK206 hb; replace HB := am (below_step (be HB) hb); clear hb hbox hg; have hnb18 := NB207_206.out; have hnc18 := NB206_207.out; obtain ⟨hcz19_0, hcz19_1, hfz19_0, hfz19_1⟩ := bx2 BK207; have hcz20_0 : w17.cell? ⟨gb206, 0, none⟩ = some (.int .i8 a0_0) := (blk_cell BK206.out 0).trans rfl; have hcz20_1 : w17.cell? ⟨gb206, 1, none⟩ = some (.int .i8 a0_1) := (blk_cell BK206.out 1).trans rfl; have hwz20 := lv28_at BK206.out; have haz20 := at_cells BK206.out; have hfz20_0 := blk_frozen BK206.out 0; have hfz20_1 := blk_frozen BK206.out 1; have hfz20_2 := blk_frozen BK206.out 2))
      go_ret
      exact ⟨by first | rfl | (simp [errW_none, errW_some] <;> rfl) | (simp [*, errW_none, errW_some] <;> rfl), be HB⟩
  · rw [if_neg c3] at H
    have c3b0 : decide (0 ≤ a1_0) = false := decide_eq_false c3
    clear c3
    obtain rfl := Option.some.inj H
    go_enter Try.func178, Try.ntmps178
    go_wp2_with (first | ((with_reducible refine gate_dst (N := 2) rfl ?_); refine bxe (N := 2) (cs := (csBay a0_0 a0_1 a0_2)) (t := 28) ?_; intro gb206 hg w21 hbox hb; have BK206 := am (hbox); have GW206 := am (gN hg (below_size (be HB))); have GE206 := am (gN hg (below_size (be HB))); replace HB := am (below_step (be HB) hb); clear hb hbox hg) | ((with_reducible refine gate_dst (N := 3) rfl ?_); refine bxe (N := 3) (cs := #[.int .i8 a1_0, .int .i8 a1_1]) (t := 36) ?_; intro gb207 hg w22 hbox hb; have BK207 := am (hbox); have GW207 := am (gN hg (below_size (be HB))); have GE207 := am (gN hg (below_size (be HB))); have NB206_207 := nL BK206 hg; have NB207_206 := nR BK206 hg; replace BK206 := bB BK206 hb; replace HB := am (below_step (be HB) hb); clear hb hbox hg; have hnb23 := NB207_206.out; have hnc23 := NB206_207.out; obtain ⟨hcz24_0, hcz24_1, hfz24_0, hfz24_1⟩ := bx2 BK207))
    go_ret
    exact ⟨by first | rfl | (simp [errW_none, errW_some] <;> rfl) | (simp [*, errW_none, errW_some] <;> rfl), be HB⟩

/-! ### impl_isWater: function 167 -/
def impl_isWater.f (a0_0 : Int) (a0_1 : Int) (a0_2 : (Nat → Int)) (a1_0 : Int) (a1_1 : Int) : Option (Bool) := (impl_isPlace.f a0_0 a0_1 a0_2 a1_0 a1_1).bind fun t210 => (if t210 = true then ((impl_depth.f a0_0 a0_1 a0_2 a1_0 a1_1).bind fun t211 => (some (decide (t211 > 0)))) else (some false))
set_option maxHeartbeats 8000000 in
set_option maxRecDepth 100000 in
theorem impl_isWater.calls (a0_0 : Int) (a0_1 : Int) (a0_2 : (Nat → Int)) (a1_0 : Int) (a1_1 : Int) (r : Bool) (w : World) (h : impl_isWater.f a0_0 a0_1 a0_2 a1_0 a1_1 = some r) :
    Calls Try.prog 167 #[.agg (csBay a0_0 a0_1 a0_2), .agg #[.int .i8 a1_0, .int .i8 a1_1]] w fun e w' => e = .returned (.bool r) ∧ Below w.heap.size w w' := by
  have hu28 := Try.underlying28
  have hu36 := Try.underlying36
  have HB := am (Below.refl w.heap.size w)
  have H : ((impl_isPlace.f a0_0 a0_1 a0_2 a1_0 a1_1).bind fun t210 => (if t210 = true then ((impl_depth.f a0_0 a0_1 a0_2 a1_0 a1_1).bind fun t211 => (some (decide (t211 > 0)))) else (some false))) = some r := h
  clear h
  replace H := Option.bind_eq_some_iff.mp H
  obtain ⟨t210, A30, H⟩ := H
  try dsimp only at H
  have A3 := am A30
  clear A30
  by_cases c4 : t210 = true
  · subst c4
    rw [if_pos rfl] at H
    replace H := Option.bind_eq_some_iff.mp H
    obtain ⟨t211, A50, H⟩ := H
    try dsimp only at H
    have A5 := am A50
    clear A50
    obtain rfl := Option.some.inj H
    go_enter Try.func167, Try.ntmps167
    go_wp2_with (first | ((with_reducible refine gate_dst (N := 2) rfl ?_); refine bxe (N := 2) (cs := (csBay a0_0 a0_1 a0_2)) (t := 28) ?_; intro gb208 hg w6 hbox hb; have BK208 := am (hbox); have GW208 := am (gN hg (below_size (be HB))); have GE208 := am (gN hg (below_size (be HB))); replace HB := am (below_step (be HB) hb); clear hb hbox hg) | ((with_reducible refine gate_dst (N := 3) rfl ?_); refine bxe (N := 3) (cs := #[.int .i8 a1_0, .int .i8 a1_1]) (t := 36) ?_; intro gb209 hg w7 hbox hb; have BK209 := am (hbox); have GW209 := am (gN hg (below_size (be HB))); have GE209 := am (gN hg (below_size (be HB))); have NB208_209 := nL BK208 hg; have NB209_208 := nR BK208 hg; replace BK208 := bB BK208 hb; replace HB := am (below_step (be HB) hb); clear hb hbox hg; have hnb8 := NB208_209.out; have hnc8 := NB209_208.out; have hcz9_0 : w7.cell? ⟨gb208, 0, none⟩ = some (.int .i8 a0_0) := (blk_cell BK208.out 0).trans rfl; have hcz9_1 : w7.cell? ⟨gb208, 1, none⟩ = some (.int .i8 a0_1) := (blk_cell BK208.out 1).trans rfl; have hwz9 := lv28_at BK208.out; have haz9 := at_cells BK208.out; have hfz9_0 := blk_frozen BK208.out 0; have hfz9_1 := blk_frozen BK208.out 1; have hfz9_2 := blk_frozen BK208.out 2; obtain ⟨hcz10_0, hcz10_1, hfz10_0, hfz10_1⟩ := bx2 BK209) | ((with_reducible refine gate_callee (f := 178) rfl ?_); refine gL (some 7) Try.func178 #[.agg (csBay a0_0 a0_1 a0_2), .agg #[.int .i8 a1_0, .int .i8 a1_1]] ?_; (with_reducible refine (impl_isPlace.calls a0_0 a0_1 a0_2 a1_0 a1_1 true _ A3.out).mono ?_); rintro e w11 ⟨rfl, hb⟩; refine ⟨_, rfl, ?_⟩; replace BK208 := bB BK208 hb; replace BK209 := bB BK209 hb; replace HB := am (below_step (be HB) hb); (try clear hb); (try clear hb2); (try clear hk); (try clear hi); have hcz12_0 : w11.cell? ⟨gb208, 0, none⟩ = some (.int .i8 a0_0) := (blk_cell BK208.out 0).trans rfl; have hcz12_1 : w11.cell? ⟨gb208, 1, none⟩ = some (.int .i8 a0_1) := (blk_cell BK208.out 1).trans rfl; have hwz12 := lv28_at BK208.out; have haz12 := at_cells BK208.out; have hfz12_0 := blk_frozen BK208.out 0; have hfz12_1 := blk_frozen BK208.out 1; have hfz12_2 := blk_frozen BK208.out 2; obtain ⟨hcz13_0, hcz13_1, hfz13_0, hfz13_1⟩ := bx2 BK209) | (go_at_call 112; (with_reducible refine (impl_depth.calls a0_0 a0_1 a0_2 a1_0 a1_1 t211 _ A5.out).mono ?_); rintro e w14 ⟨rfl, hb⟩; replace BK208 := bB BK208 hb; replace BK209 := bB BK209 hb; replace HB := am (below_step (be HB) hb); (try clear hb); (try clear hb2); (try clear hk); (try clear hi)))
    go_ret
    exact ⟨by first | rfl | (simp [errW_none, errW_some] <;> rfl) | (simp [*, errW_none, errW_some] <;> rfl), be HB⟩
  · replace c4 := Bool.eq_false_iff.mpr c4
    subst c4
    have H1 : (some false) = some r := by rw [if_neg (show ¬ (false = true) by decide)] at H; exact H
    clear H
    have H := H1
    clear H1
    obtain rfl := Option.some.inj H
    go_enter Try.func167, Try.ntmps167
    go_wp2_with (first | ((with_reducible refine gate_dst (N := 2) rfl ?_); refine bxe (N := 2) (cs := (csBay a0_0 a0_1 a0_2)) (t := 28) ?_; intro gb208 hg w15 hbox hb; have BK208 := am (hbox); have GW208 := am (gN hg (below_size (be HB))); have GE208 := am (gN hg (below_size (be HB))); replace HB := am (below_step (be HB) hb); clear hb hbox hg) | ((with_reducible refine gate_dst (N := 3) rfl ?_); refine bxe (N := 3) (cs := #[.int .i8 a1_0, .int .i8 a1_1]) (t := 36) ?_; intro gb209 hg w16 hbox hb; have BK209 := am (hbox); have GW209 := am (gN hg (below_size (be HB))); have GE209 := am (gN hg (below_size (be HB))); have NB208_209 := nL BK208 hg; have NB209_208 := nR BK208 hg; replace BK208 := bB BK208 hb; replace HB := am (below_step (be HB) hb); clear hb hbox hg; have hnb17 := NB208_209.out; have hnc17 := NB209_208.out; have hcz18_0 : w16.cell? ⟨gb208, 0, none⟩ = some (.int .i8 a0_0) := (blk_cell BK208.out 0).trans rfl; have hcz18_1 : w16.cell? ⟨gb208, 1, none⟩ = some (.int .i8 a0_1) := (blk_cell BK208.out 1).trans rfl; have hwz18 := lv28_at BK208.out; have haz18 := at_cells BK208.out; have hfz18_0 := blk_frozen BK208.out 0; have hfz18_1 := blk_frozen BK208.out 1; have hfz18_2 := blk_frozen BK208.out 2; obtain ⟨hcz19_0, hcz19_1, hfz19_0, hfz19_1⟩ := bx2 BK209) | ((with_reducible refine gate_callee (f := 178) rfl ?_); refine gL (some 7) Try.func178 #[.agg (csBay a0_0 a0_1 a0_2), .agg #[.int .i8 a1_0, .int .i8 a1_1]] ?_; (with_reducible refine (impl_isPlace.calls a0_0 a0_1 a0_2 a1_0 a1_1 false _ A3.out).mono ?_); rintro e w20 ⟨rfl, hb⟩; refine ⟨_, rfl, ?_⟩; replace BK208 := bB BK208 hb; replace BK209 := bB BK209 hb; replace HB := am (below_step (be HB) hb); (try clear hb); (try clear hb2); (try clear hk); (try clear hi)))
    go_ret
    exact ⟨by first | rfl | (simp [errW_none, errW_some] <;> rfl) | (simp [*, errW_none, errW_some] <;> rfl), be HB⟩

/-! ### impl_isBoat: function 107 -/
def impl_isBoat.f (a0_0 : Int) (a0_1 : Int) (a0_2 : (Nat → Int)) (a1_0 : Int) (a1_1 : Int) (a1_2 : Int) (a1_3 : Int) (a1_4 : Int) (a1_5 : Int) : Option (Bool) := (impl_isWater.f a0_0 a0_1 a0_2 a1_0 a1_1).bind fun t214 => (if t214 = true then (if a1_2 ≥ 1 then (if a1_2 ≤ 60 then (if a1_3 ≥ 0 then (if a1_3 ≤ 5 then (if a1_4 ≥ 1 then (if a1_4 ≤ 30 then (if a1_5 ≥ 0 then (some (decide (a1_5 ≤ 9))) else (some false)) else (some false)) else (some false)) else (some false)) else (some false)) else (some false)) else (some false)) else (some false))
set_option maxHeartbeats 8000000 in
set_option maxRecDepth 100000 in
theorem impl_isBoat.calls (a0_0 : Int) (a0_1 : Int) (a0_2 : (Nat → Int)) (a1_0 : Int) (a1_1 : Int) (a1_2 : Int) (a1_3 : Int) (a1_4 : Int) (a1_5 : Int) (r : Bool) (w : World) (h : impl_isBoat.f a0_0 a0_1 a0_2 a1_0 a1_1 a1_2 a1_3 a1_4 a1_5 = some r) :
    Calls Try.prog 107 #[.agg (csBay a0_0 a0_1 a0_2), .agg #[.int .i8 a1_0, .int .i8 a1_1, .int .i8 a1_2, .int .i8 a1_3, .int .i8 a1_4, .int .i8 a1_5]] w fun e w' => e = .returned (.bool r) ∧ Below w.heap.size w w' := by
  have hu28 := Try.underlying28
  have hu38 := Try.underlying38
  have hu36 := Try.underlying36
  have HB := am (Below.refl w.heap.size w)
  have H : ((impl_isWater.f a0_0 a0_1 a0_2 a1_0 a1_1).bind fun t214 => (if t214 = true then (if a1_2 ≥ 1 then (if a1_2 ≤ 60 then (if a1_3 ≥ 0 then (if a1_3 ≤ 5 then (if a1_4 ≥ 1 then (if a1_4 ≤ 30 then (if a1_5 ≥ 0 then (some (decide (a1_5 ≤ 9))) else (some false)) else (some false)) else (some false)) else (some false)) else (some false)) else (some false)) else (some false)) else (some false))) = some r := h
  clear h
  replace H := Option.bind_eq_some_iff.mp H
  obtain ⟨t214, A30, H⟩ := H
  try dsimp only at H
  have A3 := am A30
  clear A30
  by_cases c4 : t214 = true
  · subst c4
    rw [if_pos rfl] at H
    by_cases c5 : a1_2 ≥ 1
    · rw [if_pos c5] at H
      have c5b0 : decide (1 ≤ a1_2) = true := decide_eq_true c5
      clear c5
      by_cases c6 : a1_2 ≤ 60
      · rw [if_pos c6] at H
        have c6b0 : decide (a1_2 ≤ 60) = true := decide_eq_true c6
        clear c6
        by_cases c7 : a1_3 ≥ 0
        · rw [if_pos c7] at H
          have c7b0 : decide (0 ≤ a1_3) = true := decide_eq_true c7
          have c7b1 : 0 ≤ a1_3 := c7
          clear c7
          by_cases c8 : a1_3 ≤ 5
          · rw [if_pos c8] at H
            have c8b0 : decide (a1_3 ≤ 5) = true := decide_eq_true c8
            clear c8
            by_cases c9 : a1_4 ≥ 1
            · rw [if_pos c9] at H
              have c9b0 : decide (1 ≤ a1_4) = true := decide_eq_true c9
              clear c9
              by_cases c10 : a1_4 ≤ 30
              · rw [if_pos c10] at H
                have c10b0 : decide (a1_4 ≤ 30) = true := decide_eq_true c10
                clear c10
                by_cases c11 : a1_5 ≥ 0
                · rw [if_pos c11] at H
                  have c11b0 : decide (0 ≤ a1_5) = true := decide_eq_true c11
                  have c11b1 : 0 ≤ a1_5 := c11
                  clear c11
                  obtain rfl := Option.some.inj H
                  go_enter Try.func107, Try.ntmps107
                  go_wp2_with (first | ((with_reducible refine gate_dst (N := 2) rfl ?_); refine bxe (N := 2) (cs := (csBay a0_0 a0_1 a0_2)) (t := 28) ?_; intro gb212 hg w12 hbox hb; have BK212 := am (hbox); have GW212 := am (gN hg (below_size (be HB))); have GE212 := am (gN hg (below_size (be HB))); replace HB := am (below_step (be HB) hb); clear hb hbox hg) | ((with_reducible refine gate_dst (N := 3) rfl ?_); refine bxe (N := 3) (cs := #[.int .i8 a1_0, .int .i8 a1_1, .int .i8 a1_2, .int .i8 a1_3, .int .i8 a1_4, .int .i8 a1_5]) (t := 38) ?_; intro gb213 hg w13 hbox hb; have BK213 := am (hbox); have GW213 := am (gN hg (below_size (be HB))); have GE213 := am (gN hg (below_size (be HB))); have NB212_213 := nL BK212 hg; have NB213_212 := nR BK212 hg; replace BK212 := bB BK212 hb; replace HB := am (below_step (be HB) hb); clear hb hbox hg; have hnb14 := NB212_213.out; have hnc14 := NB213_212.out; have hcz15_0 : w13.cell? ⟨gb212, 0, none⟩ = some (.int .i8 a0_0) := (blk_cell BK212.out 0).trans rfl; have hcz15_1 : w13.cell? ⟨gb212, 1, none⟩ = some (.int .i8 a0_1) := (blk_cell BK212.out 1).trans rfl; have hwz15 := lv28_at BK212.out; have haz15 := at_cells BK212.out; have hfz15_0 := blk_frozen BK212.out 0; have hfz15_1 := blk_frozen BK212.out 1; have hfz15_2 := blk_frozen BK212.out 2; obtain ⟨hcz16_0, hcz16_1, hcz16_2, hcz16_3, hcz16_4, hcz16_5, hfz16_0, hfz16_1, hfz16_2, hfz16_3, hfz16_4, hfz16_5⟩ := bx6 BK213) | ((with_reducible refine gate_callee (f := 167) rfl ?_); refine gL (some 8) Try.func167 #[.agg (csBay a0_0 a0_1 a0_2), .agg #[.int .i8 a1_0, .int .i8 a1_1]] ?_; (with_reducible refine (impl_isWater.calls a0_0 a0_1 a0_2 a1_0 a1_1 true _ A3.out).mono ?_); rintro e w17 ⟨rfl, hb⟩; refine ⟨_, rfl, ?_⟩; replace BK212 := bB BK212 hb; replace BK213 := bB BK213 hb; replace HB := am (below_step (be HB) hb); (try clear hb); (try clear hb2); (try clear hk); (try clear hi); obtain ⟨hcz18_0, hcz18_1, hcz18_2, hcz18_3, hcz18_4, hcz18_5, hfz18_0, hfz18_1, hfz18_2, hfz18_3, hfz18_4, hfz18_5⟩ := bx6 BK213))
                  go_ret
                  exact ⟨by first | rfl | (simp [errW_none, errW_some] <;> rfl) | (simp [*, errW_none, errW_some] <;> rfl), be HB⟩
                · rw [if_neg c11] at H
                  have c11b0 : decide (0 ≤ a1_5) = false := decide_eq_false c11
                  clear c11
                  obtain rfl := Option.some.inj H
                  go_enter Try.func107, Try.ntmps107
                  go_wp2_with (first | ((with_reducible refine gate_dst (N := 2) rfl ?_); refine bxe (N := 2) (cs := (csBay a0_0 a0_1 a0_2)) (t := 28) ?_; intro gb212 hg w19 hbox hb; have BK212 := am (hbox); have GW212 := am (gN hg (below_size (be HB))); have GE212 := am (gN hg (below_size (be HB))); replace HB := am (below_step (be HB) hb); clear hb hbox hg) | ((with_reducible refine gate_dst (N := 3) rfl ?_); refine bxe (N := 3) (cs := #[.int .i8 a1_0, .int .i8 a1_1, .int .i8 a1_2, .int .i8 a1_3, .int .i8 a1_4, .int .i8 a1_5]) (t := 38) ?_; intro gb213 hg w20 hbox hb; have BK213 := am (hbox); have GW213 := am (gN hg (below_size (be HB))); have GE213 := am (gN hg (below_size (be HB))); have NB212_213 := nL BK212 hg; have NB213_212 := nR BK212 hg; replace BK212 := bB BK212 hb; replace HB := am (below_step (be HB) hb); clear hb hbox hg; have hnb21 := NB212_213.out; have hnc21 := NB213_212.out; have hcz22_0 : w20.cell? ⟨gb212, 0, none⟩ = some (.int .i8 a0_0) := (blk_cell BK212.out 0).trans rfl; have hcz22_1 : w20.cell? ⟨gb212, 1, none⟩ = some (.int .i8 a0_1) := (blk_cell BK212.out 1).trans rfl; have hwz22 := lv28_at BK212.out; have haz22 := at_cells BK212.out; have hfz22_0 := blk_frozen BK212.out 0; have hfz22_1 := blk_frozen BK212.out 1; have hfz22_2 := blk_frozen BK212.out 2; obtain ⟨hcz23_0, hcz23_1, hcz23_2, hcz23_3, hcz23_4, hcz23_5, hfz23_0, hfz23_1, hfz23_2, hfz23_3, hfz23_4, hfz23_5⟩ := bx6 BK213) | ((with_reducible refine gate_callee (f := 167) rfl ?_); refine gL (some 8) Try.func167 #[.agg (csBay a0_0 a0_1 a0_2), .agg #[.int .i8 a1_0, .int .i8 a1_1]] ?_; (with_reducible refine (impl_isWater.calls a0_0 a0_1 a0_2 a1_0 a1_1 true _ A3.out).mono ?_); rintro e w24 ⟨rfl, hb⟩; refine ⟨_, rfl, ?_⟩; replace BK212 := bB BK212 hb; replace BK213 := bB BK213 hb; replace HB := am (below_step (be HB) hb); (try clear hb); (try clear hb2); (try clear hk); (try clear hi); obtain ⟨hcz25_0, hcz25_1, hcz25_2, hcz25_3, hcz25_4, hcz25_5, hfz25_0, hfz25_1, hfz25_2, hfz25_3, hfz25_4, hfz25_5⟩ := bx6 BK213))
                  go_ret
                  exact ⟨by first | rfl | (simp [errW_none, errW_some] <;> rfl) | (simp [*, errW_none, errW_some] <;> rfl), be HB⟩
              · rw [if_neg c10] at H
                have c10b0 : decide (a1_4 ≤ 30) = false := decide_eq_false c10
                clear c10
                obtain rfl := Option.some.inj H
                go_enter Try.func107, Try.ntmps107
                go_wp2_with (first | ((with_reducible refine gate_dst (N := 2) rfl ?_); refine bxe (N := 2) (cs := (csBay a0_0 a0_1 a0_2)) (t := 28) ?_; intro gb212 hg w26 hbox hb; have BK212 := am (hbox); have GW212 := am (gN hg (below_size (be HB))); have GE212 := am (gN hg (below_size (be HB))); replace HB := am (below_step (be HB) hb); clear hb hbox hg) | ((with_reducible refine gate_dst (N := 3) rfl ?_); refine bxe (N := 3) (cs := #[.int .i8 a1_0, .int .i8 a1_1, .int .i8 a1_2, .int .i8 a1_3, .int .i8 a1_4, .int .i8 a1_5]) (t := 38) ?_; intro gb213 hg w27 hbox hb; have BK213 := am (hbox); have GW213 := am (gN hg (below_size (be HB))); have GE213 := am (gN hg (below_size (be HB))); have NB212_213 := nL BK212 hg; have NB213_212 := nR BK212 hg; replace BK212 := bB BK212 hb; replace HB := am (below_step (be HB) hb); clear hb hbox hg; have hnb28 := NB212_213.out; have hnc28 := NB213_212.out; have hcz29_0 : w27.cell? ⟨gb212, 0, none⟩ = some (.int .i8 a0_0) := (blk_cell BK212.out 0).trans rfl; have hcz29_1 : w27.cell? ⟨gb212, 1, none⟩ = some (.int .i8 a0_1) := (blk_cell BK212.out 1).trans rfl; have hwz29 := lv28_at BK212.out; have haz29 := at_cells BK212.out; have hfz29_0 := blk_frozen BK212.out 0; have hfz29_1 := blk_frozen BK212.out 1; have hfz29_2 := blk_frozen BK212.out 2; obtain ⟨hcz30_0, hcz30_1, hcz30_2, hcz30_3, hcz30_4, hcz30_5, hfz30_0, hfz30_1, hfz30_2, hfz30_3, hfz30_4, hfz30_5⟩ := bx6 BK213) | ((with_reducible refine gate_callee (f := 167) rfl ?_); refine gL (some 8) Try.func167 #[.agg (csBay a0_0 a0_1 a0_2), .agg #[.int .i8 a1_0, .int .i8 a1_1]] ?_; (with_reducible refine (impl_isWater.calls a0_0 a0_1 a0_2 a1_0 a1_1 true _ A3.out).mono ?_); rintro e w31 ⟨rfl, hb⟩; refine ⟨_, rfl, ?_⟩; replace BK212 := bB BK212 hb; replace BK213 := bB BK213 hb; replace HB := am (below_step (be HB) hb); (try clear hb); (try clear hb2); (try clear hk); (try clear hi); obtain ⟨hcz32_0, hcz32_1, hcz32_2, hcz32_3, hcz32_4, hcz32_5, hfz32_0, hfz32_1, hfz32_2, hfz32_3, hfz32_4, hfz32_5⟩ := bx6 BK213))
                go_ret
                exact ⟨by first | rfl | (simp [errW_none, errW_some] <;> rfl) | (simp [*, errW_none, errW_some] <;> rfl), be HB⟩
            · rw [if_neg c9] at H
              have c9b0 : decide (1 ≤ a1_4) = false := decide_eq_false c9
              clear c9
              obtain rfl := Option.some.inj H
              go_enter Try.func107, Try.ntmps107
              go_wp2_with (first | ((with_reducible refine gate_dst (N := 2) rfl ?_); refine bxe (N := 2) (cs := (csBay a0_0 a0_1 a0_2)) (t := 28) ?_; intro gb212 hg w33 hbox hb; have BK212 := am (hbox); have GW212 := am (gN hg (below_size (be HB))); have GE212 := am (gN hg (below_size (be HB))); replace HB := am (below_step (be HB) hb); clear hb hbox hg) | ((with_reducible refine gate_dst (N := 3) rfl ?_); refine bxe (N := 3) (cs := #[.int .i8 a1_0, .int .i8 a1_1, .int .i8 a1_2, .int .i8 a1_3, .int .i8 a1_4, .int .i8 a1_5]) (t := 38) ?_; intro gb213 hg w34 hbox hb; have BK213 := am (hbox); have GW213 := am (gN hg (below_size (be HB))); have GE213 := am (gN hg (below_size (be HB))); have NB212_213 := nL BK212 hg; have NB213_212 := nR BK212 hg; replace BK212 := bB BK212 hb; replace HB := am (below_step (be HB) hb); clear hb hbox hg; have hnb35 := NB212_213.out; have hnc35 := NB213_212.out; have hcz36_0 : w34.cell? ⟨gb212, 0, none⟩ = some (.int .i8 a0_0) := (blk_cell BK212.out 0).trans rfl; have hcz36_1 : w34.cell? ⟨gb212, 1, none⟩ = some (.int .i8 a0_1) := (blk_cell BK212.out 1).trans rfl; have hwz36 := lv28_at BK212.out; have haz36 := at_cells BK212.out; have hfz36_0 := blk_frozen BK212.out 0; have hfz36_1 := blk_frozen BK212.out 1; have hfz36_2 := blk_frozen BK212.out 2; obtain ⟨hcz37_0, hcz37_1, hcz37_2, hcz37_3, hcz37_4, hcz37_5, hfz37_0, hfz37_1, hfz37_2, hfz37_3, hfz37_4, hfz37_5⟩ := bx6 BK213) | ((with_reducible refine gate_callee (f := 167) rfl ?_); refine gL (some 8) Try.func167 #[.agg (csBay a0_0 a0_1 a0_2), .agg #[.int .i8 a1_0, .int .i8 a1_1]] ?_; (with_reducible refine (impl_isWater.calls a0_0 a0_1 a0_2 a1_0 a1_1 true _ A3.out).mono ?_); rintro e w38 ⟨rfl, hb⟩; refine ⟨_, rfl, ?_⟩; replace BK212 := bB BK212 hb; replace BK213 := bB BK213 hb; replace HB := am (below_step (be HB) hb); (try clear hb); (try clear hb2); (try clear hk); (try clear hi); obtain ⟨hcz39_0, hcz39_1, hcz39_2, hcz39_3, hcz39_4, hcz39_5, hfz39_0, hfz39_1, hfz39_2, hfz39_3, hfz39_4, hfz39_5⟩ := bx6 BK213))
              go_ret
              exact ⟨by first | rfl | (simp [errW_none, errW_some] <;> rfl) | (simp [*, errW_none, errW_some] <;> rfl), be HB⟩
          · rw [if_neg c8] at H
            have c8b0 : decide (a1_3 ≤ 5) = false := decide_eq_false c8
            clear c8
            obtain rfl := Option.some.inj H
            go_enter Try.func107, Try.ntmps107
            go_wp2_with (first | ((with_reducible refine gate_dst (N := 2) rfl ?_); refine bxe (N := 2) (cs := (csBay a0_0 a0_1 a0_2)) (t := 28) ?_; intro gb212 hg w40 hbox hb; have BK212 := am (hbox); have GW212 := am (gN hg (below_size (be HB))); have GE212 := am (gN hg (below_size (be HB))); replace HB := am (below_step (be HB) hb); clear hb hbox hg) | ((with_reducible refine gate_dst (N := 3) rfl ?_); refine bxe (N := 3) (cs := #[.int .i8 a1_0, .int .i8 a1_1, .int .i8 a1_2, .int .i8 a1_3, .int .i8 a1_4, .int .i8 a1_5]) (t := 38) ?_; intro gb213 hg w41 hbox hb; have BK213 := am (hbox); have GW213 := am (gN hg (below_size (be HB))); have GE213 := am (gN hg (below_size (be HB))); have NB212_213 := nL BK212 hg; have NB213_212 := nR BK212 hg; replace BK212 := bB BK212 hb; replace HB := am (below_step (be HB) hb); clear hb hbox hg; have hnb42 := NB212_213.out; have hnc42 := NB213_212.out; have hcz43_0 : w41.cell? ⟨gb212, 0, none⟩ = some (.int .i8 a0_0) := (blk_cell BK212.out 0).trans rfl; have hcz43_1 : w41.cell? ⟨gb212, 1, none⟩ = some (.int .i8 a0_1) := (blk_cell BK212.out 1).trans rfl; have hwz43 := lv28_at BK212.out; have haz43 := at_cells BK212.out; have hfz43_0 := blk_frozen BK212.out 0; have hfz43_1 := blk_frozen BK212.out 1; have hfz43_2 := blk_frozen BK212.out 2; obtain ⟨hcz44_0, hcz44_1, hcz44_2, hcz44_3, hcz44_4, hcz44_5, hfz44_0, hfz44_1, hfz44_2, hfz44_3, hfz44_4, hfz44_5⟩ := bx6 BK213) | ((with_reducible refine gate_callee (f := 167) rfl ?_); refine gL (some 8) Try.func167 #[.agg (csBay a0_0 a0_1 a0_2), .agg #[.int .i8 a1_0, .int .i8 a1_1]] ?_; (with_reducible refine (impl_isWater.calls a0_0 a0_1 a0_2 a1_0 a1_1 true _ A3.out).mono ?_); rintro e w45 ⟨rfl, hb⟩; refine ⟨_, rfl, ?_⟩; replace BK212 := bB BK212 hb; replace BK213 := bB BK213 hb; replace HB := am (below_step (be HB) hb); (try clear hb); (try clear hb2); (try clear hk); (try clear hi); obtain ⟨hcz46_0, hcz46_1, hcz46_2, hcz46_3, hcz46_4, hcz46_5, hfz46_0, hfz46_1, hfz46_2, hfz46_3, hfz46_4, hfz46_5⟩ := bx6 BK213))
            go_ret
            exact ⟨by first | rfl | (simp [errW_none, errW_some] <;> rfl) | (simp [*, errW_none, errW_some] <;> rfl), be HB⟩
        · rw [if_neg c7] at H
          have c7b0 : decide (0 ≤ a1_3) = false := decide_eq_false c7
          clear c7
          obtain rfl := Option.some.inj H
          go_enter Try.func107, Try.ntmps107
          go_wp2_with (first | ((with_reducible refine gate_dst (N := 2) rfl ?_); refine bxe (N := 2) (cs := (csBay a0_0 a0_1 a0_2)) (t := 28) ?_; intro gb212 hg w47 hbox hb; have BK212 := am (hbox); have GW212 := am (gN hg (below_size (be HB))); have GE212 := am (gN hg (below_size (be HB))); replace HB := am (below_step (be HB) hb); clear hb hbox hg) | ((with_reducible refine gate_dst (N := 3) rfl ?_); refine bxe (N := 3) (cs := #[.int .i8 a1_0, .int .i8 a1_1, .int .i8 a1_2, .int .i8 a1_3, .int .i8 a1_4, .int .i8 a1_5]) (t := 38) ?_; intro gb213 hg w48 hbox hb; have BK213 := am (hbox); have GW213 := am (gN hg (below_size (be HB))); have GE213 := am (gN hg (below_size (be HB))); have NB212_213 := nL BK212 hg; have NB213_212 := nR BK212 hg; replace BK212 := bB BK212 hb; replace HB := am (below_step (be HB) hb); clear hb hbox hg; have hnb49 := NB212_213.out; have hnc49 := NB213_212.out; have hcz50_0 : w48.cell? ⟨gb212, 0, none⟩ = some (.int .i8 a0_0) := (blk_cell BK212.out 0).trans rfl; have hcz50_1 : w48.cell? ⟨gb212, 1, none⟩ = some (.int .i8 a0_1) := (blk_cell BK212.out 1).trans rfl; have hwz50 := lv28_at BK212.out; have haz50 := at_cells BK212.out; have hfz50_0 := blk_frozen BK212.out 0; have hfz50_1 := blk_frozen BK212.out 1; have hfz50_2 := blk_frozen BK212.out 2; obtain ⟨hcz51_0, hcz51_1, hcz51_2, hcz51_3, hcz51_4, hcz51_5, hfz51_0, hfz51_1, hfz51_2, hfz51_3, hfz51_4, hfz51_5⟩ := bx6 BK213) | ((with_reducible refine gate_callee (f := 167) rfl ?_); refine gL (some 8) Try.func167 #[.agg (csBay a0_0 a0_1 a0_2), .agg #[.int .i8 a1_0, .int .i8 a1_1]] ?_; (with_reducible refine (impl_isWater.calls a0_0 a0_1 a0_2 a1_0 a1_1 true _ A3.out).mono ?_); rintro e w52 ⟨rfl, hb⟩; refine ⟨_, rfl, ?_⟩; replace BK212 := bB BK212 hb; replace BK213 := bB BK213 hb; replace HB := am (below_step (be HB) hb); (try clear hb); (try clear hb2); (try clear hk); (try clear hi); obtain ⟨hcz53_0, hcz53_1, hcz53_2, hcz53_3, hcz53_4, hcz53_5, hfz53_0, hfz53_1, hfz53_2, hfz53_3, hfz53_4, hfz53_5⟩ := bx6 BK213))
          go_ret
          exact ⟨by first | rfl | (simp [errW_none, errW_some] <;> rfl) | (simp [*, errW_none, errW_some] <;> rfl), be HB⟩
      · rw [if_neg c6] at H
        have c6b0 : decide (a1_2 ≤ 60) = false := decide_eq_false c6
        clear c6
        obtain rfl := Option.some.inj H
        go_enter Try.func107, Try.ntmps107
        go_wp2_with (first | ((with_reducible refine gate_dst (N := 2) rfl ?_); refine bxe (N := 2) (cs := (csBay a0_0 a0_1 a0_2)) (t := 28) ?_; intro gb212 hg w54 hbox hb; have BK212 := am (hbox); have GW212 := am (gN hg (below_size (be HB))); have GE212 := am (gN hg (below_size (be HB))); replace HB := am (below_step (be HB) hb); clear hb hbox hg) | ((with_reducible refine gate_dst (N := 3) rfl ?_); refine bxe (N := 3) (cs := #[.int .i8 a1_0, .int .i8 a1_1, .int .i8 a1_2, .int .i8 a1_3, .int .i8 a1_4, .int .i8 a1_5]) (t := 38) ?_; intro gb213 hg w55 hbox hb; have BK213 := am (hbox); have GW213 := am (gN hg (below_size (be HB))); have GE213 := am (gN hg (below_size (be HB))); have NB212_213 := nL BK212 hg; have NB213_212 := nR BK212 hg; replace BK212 := bB BK212 hb; replace HB := am (below_step (be HB) hb); clear hb hbox hg; have hnb56 := NB212_213.out; have hnc56 := NB213_212.out; have hcz57_0 : w55.cell? ⟨gb212, 0, none⟩ = some (.int .i8 a0_0) := (blk_cell BK212.out 0).trans rfl; have hcz57_1 : w55.cell? ⟨gb212, 1, none⟩ = some (.int .i8 a0_1) := (blk_cell BK212.out 1).trans rfl; have hwz57 := lv28_at BK212.out; have haz57 := at_cells BK212.out; have hfz57_0 := blk_frozen BK212.out 0; have hfz57_1 := blk_frozen BK212.out 1; have hfz57_2 := blk_frozen BK212.out 2; obtain ⟨hcz58_0, hcz58_1, hcz58_2, hcz58_3, hcz58_4, hcz58_5, hfz58_0, hfz58_1, hfz58_2, hfz58_3, hfz58_4, hfz58_5⟩ := bx6 BK213) | ((with_reducible refine gate_callee (f := 167) rfl ?_); refine gL (some 8) Try.func167 #[.agg (csBay a0_0 a0_1 a0_2), .agg #[.int .i8 a1_0, .int .i8 a1_1]] ?_; (with_reducible refine (impl_isWater.calls a0_0 a0_1 a0_2 a1_0 a1_1 true _ A3.out).mono ?_); rintro e w59 ⟨rfl, hb⟩; refine ⟨_, rfl, ?_⟩; replace BK212 := bB BK212 hb; replace BK213 := bB BK213 hb; replace HB := am (below_step (be HB) hb); (try clear hb); (try clear hb2); (try clear hk); (try clear hi); obtain ⟨hcz60_0, hcz60_1, hcz60_2, hcz60_3, hcz60_4, hcz60_5, hfz60_0, hfz60_1, hfz60_2, hfz60_3, hfz60_4, hfz60_5⟩ := bx6 BK213))
        go_ret
        exact ⟨by first | rfl | (simp [errW_none, errW_some] <;> rfl) | (simp [*, errW_none, errW_some] <;> rfl), be HB⟩
    · rw [if_neg c5] at H
      have c5b0 : decide (1 ≤ a1_2) = false := decide_eq_false c5
      clear c5
      obtain rfl := Option.some.inj H
      go_enter Try.func107, Try.ntmps107
      go_wp2_with (first | ((with_reducible refine gate_dst (N := 2) rfl ?_); refine bxe (N := 2) (cs := (csBay a0_0 a0_1 a0_2)) (t := 28) ?_; intro gb212 hg w61 hbox hb; have BK212 := am (hbox); have GW212 := am (gN hg (below_size (be HB))); have GE212 := am (gN hg (below_size (be HB))); replace HB := am (below_step (be HB) hb); clear hb hbox hg) | ((with_reducible refine gate_dst (N := 3) rfl ?_); refine bxe (N := 3) (cs := #[.int .i8 a1_0, .int .i8 a1_1, .int .i8 a1_2, .int .i8 a1_3, .int .i8 a1_4, .int .i8 a1_5]) (t := 38) ?_; intro gb213 hg w62 hbox hb; have BK213 := am (hbox); have GW213 := am (gN hg (below_size (be HB))); have GE213 := am (gN hg (below_size (be HB))); have NB212_213 := nL BK212 hg; have NB213_212 := nR BK212 hg; replace BK212 := bB BK212 hb; replace HB := am (below_step (be HB) hb); clear hb hbox hg; have hnb63 := NB212_213.out; have hnc63 := NB213_212.out; have hcz64_0 : w62.cell? ⟨gb212, 0, none⟩ = some (.int .i8 a0_0) := (blk_cell BK212.out 0).trans rfl; have hcz64_1 : w62.cell? ⟨gb212, 1, none⟩ = some (.int .i8 a0_1) := (blk_cell BK212.out 1).trans rfl; have hwz64 := lv28_at BK212.out; have haz64 := at_cells BK212.out; have hfz64_0 := blk_frozen BK212.out 0; have hfz64_1 := blk_frozen BK212.out 1; have hfz64_2 := blk_frozen BK212.out 2; obtain ⟨hcz65_0, hcz65_1, hcz65_2, hcz65_3, hcz65_4, hcz65_5, hfz65_0, hfz65_1, hfz65_2, hfz65_3, hfz65_4, hfz65_5⟩ := bx6 BK213) | ((with_reducible refine gate_callee (f := 167) rfl ?_); refine gL (some 8) Try.func167 #[.agg (csBay a0_0 a0_1 a0_2), .agg #[.int .i8 a1_0, .int .i8 a1_1]] ?_; (with_reducible refine (impl_isWater.calls a0_0 a0_1 a0_2 a1_0 a1_1 true _ A3.out).mono ?_); rintro e w66 ⟨rfl, hb⟩; refine ⟨_, rfl, ?_⟩; replace BK212 := bB BK212 hb; replace BK213 := bB BK213 hb; replace HB := am (below_step (be HB) hb); (try clear hb); (try clear hb2); (try clear hk); (try clear hi); obtain ⟨hcz67_0, hcz67_1, hcz67_2, hcz67_3, hcz67_4, hcz67_5, hfz67_0, hfz67_1, hfz67_2, hfz67_3, hfz67_4, hfz67_5⟩ := bx6 BK213))
      go_ret
      exact ⟨by first | rfl | (simp [errW_none, errW_some] <;> rfl) | (simp [*, errW_none, errW_some] <;> rfl), be HB⟩
  · replace c4 := Bool.eq_false_iff.mpr c4
    subst c4
    have H1 : (some false) = some r := by rw [if_neg (show ¬ (false = true) by decide)] at H; exact H
    clear H
    have H := H1
    clear H1
    obtain rfl := Option.some.inj H
    go_enter Try.func107, Try.ntmps107
    go_wp2_with (first | ((with_reducible refine gate_dst (N := 2) rfl ?_); refine bxe (N := 2) (cs := (csBay a0_0 a0_1 a0_2)) (t := 28) ?_; intro gb212 hg w68 hbox hb; have BK212 := am (hbox); have GW212 := am (gN hg (below_size (be HB))); have GE212 := am (gN hg (below_size (be HB))); replace HB := am (below_step (be HB) hb); clear hb hbox hg) | ((with_reducible refine gate_dst (N := 3) rfl ?_); refine bxe (N := 3) (cs := #[.int .i8 a1_0, .int .i8 a1_1, .int .i8 a1_2, .int .i8 a1_3, .int .i8 a1_4, .int .i8 a1_5]) (t := 38) ?_; intro gb213 hg w69 hbox hb; have BK213 := am (hbox); have GW213 := am (gN hg (below_size (be HB))); have GE213 := am (gN hg (below_size (be HB))); have NB212_213 := nL BK212 hg; have NB213_212 := nR BK212 hg; replace BK212 := bB BK212 hb; replace HB := am (below_step (be HB) hb); clear hb hbox hg; have hnb70 := NB212_213.out; have hnc70 := NB213_212.out; have hcz71_0 : w69.cell? ⟨gb212, 0, none⟩ = some (.int .i8 a0_0) := (blk_cell BK212.out 0).trans rfl; have hcz71_1 : w69.cell? ⟨gb212, 1, none⟩ = some (.int .i8 a0_1) := (blk_cell BK212.out 1).trans rfl; have hwz71 := lv28_at BK212.out; have haz71 := at_cells BK212.out; have hfz71_0 := blk_frozen BK212.out 0; have hfz71_1 := blk_frozen BK212.out 1; have hfz71_2 := blk_frozen BK212.out 2; obtain ⟨hcz72_0, hcz72_1, hcz72_2, hcz72_3, hcz72_4, hcz72_5, hfz72_0, hfz72_1, hfz72_2, hfz72_3, hfz72_4, hfz72_5⟩ := bx6 BK213) | ((with_reducible refine gate_callee (f := 167) rfl ?_); refine gL (some 8) Try.func167 #[.agg (csBay a0_0 a0_1 a0_2), .agg #[.int .i8 a1_0, .int .i8 a1_1]] ?_; (with_reducible refine (impl_isWater.calls a0_0 a0_1 a0_2 a1_0 a1_1 false _ A3.out).mono ?_); rintro e w73 ⟨rfl, hb⟩; refine ⟨_, rfl, ?_⟩; replace BK212 := bB BK212 hb; replace BK213 := bB BK213 hb; replace HB := am (below_step (be HB) hb); (try clear hb); (try clear hb2); (try clear hk); (try clear hi)))
    go_ret
    exact ⟨by first | rfl | (simp [errW_none, errW_some] <;> rfl) | (simp [*, errW_none, errW_some] <;> rfl), be HB⟩

/-! ### impl_ValidBoat: function 30 -/
def impl_ValidBoat.f (a0_0 : Int) (a0_1 : Int) (a0_2 : (Nat → Int)) (a1_0 : Int) (a1_1 : Int) (a1_2 : Int) (a1_3 : Int) (a1_4 : Int) (a1_5 : Int) : Option (Bool) := (impl_ValidBay.f a0_0 a0_1 a0_2).bind fun t217 => (if t217 = true then ((impl_isBoat.f a0_0 a0_1 a0_2 a1_0 a1_1 a1_2 a1_3 a1_4 a1_5).bind fun t218 => (some t218)) else (some false))
set_option maxHeartbeats 8000000 in
set_option maxRecDepth 100000 in
theorem impl_ValidBoat.calls (a0_0 : Int) (a0_1 : Int) (a0_2 : (Nat → Int)) (a1_0 : Int) (a1_1 : Int) (a1_2 : Int) (a1_3 : Int) (a1_4 : Int) (a1_5 : Int) (r : Bool) (w : World) (h : impl_ValidBoat.f a0_0 a0_1 a0_2 a1_0 a1_1 a1_2 a1_3 a1_4 a1_5 = some r) :
    Calls Try.prog 30 #[.agg (csBay a0_0 a0_1 a0_2), .agg #[.int .i8 a1_0, .int .i8 a1_1, .int .i8 a1_2, .int .i8 a1_3, .int .i8 a1_4, .int .i8 a1_5]] w fun e w' => e = .returned (.bool r) ∧ Below w.heap.size w w' := by
  have hu28 := Try.underlying28
  have hu38 := Try.underlying38
  have HB := am (Below.refl w.heap.size w)
  have H : ((impl_ValidBay.f a0_0 a0_1 a0_2).bind fun t217 => (if t217 = true then ((impl_isBoat.f a0_0 a0_1 a0_2 a1_0 a1_1 a1_2 a1_3 a1_4 a1_5).bind fun t218 => (some t218)) else (some false))) = some r := h
  clear h
  replace H := Option.bind_eq_some_iff.mp H
  obtain ⟨t217, A30, H⟩ := H
  try dsimp only at H
  have A3 := am A30
  clear A30
  by_cases c4 : t217 = true
  · subst c4
    rw [if_pos rfl] at H
    replace H := Option.bind_eq_some_iff.mp H
    obtain ⟨t218, A50, H⟩ := H
    try dsimp only at H
    have A5 := am A50
    clear A50
    obtain rfl := Option.some.inj H
    go_enter Try.func30, Try.ntmps30
    go_wp2_with (first | ((with_reducible refine gate_dst (N := 2) rfl ?_); refine bxe (N := 2) (cs := (csBay a0_0 a0_1 a0_2)) (t := 28) ?_; intro gb215 hg w6 hbox hb; have BK215 := am (hbox); have GW215 := am (gN hg (below_size (be HB))); have GE215 := am (gN hg (below_size (be HB))); replace HB := am (below_step (be HB) hb); clear hb hbox hg) | ((with_reducible refine gate_dst (N := 3) rfl ?_); refine bxe (N := 3) (cs := #[.int .i8 a1_0, .int .i8 a1_1, .int .i8 a1_2, .int .i8 a1_3, .int .i8 a1_4, .int .i8 a1_5]) (t := 38) ?_; intro gb216 hg w7 hbox hb; have BK216 := am (hbox); have GW216 := am (gN hg (below_size (be HB))); have GE216 := am (gN hg (below_size (be HB))); have NB215_216 := nL BK215 hg; have NB216_215 := nR BK215 hg; replace BK215 := bB BK215 hb; replace HB := am (below_step (be HB) hb); clear hb hbox hg; have hnb8 := NB215_216.out; have hnc8 := NB216_215.out; have hcz9_0 : w7.cell? ⟨gb215, 0, none⟩ = some (.int .i8 a0_0) := (blk_cell BK215.out 0).trans rfl; have hcz9_1 : w7.cell? ⟨gb215, 1, none⟩ = some (.int .i8 a0_1) := (blk_cell BK215.out 1).trans rfl; have hwz9 := lv28_at BK215.out; have haz9 := at_cells BK215.out; have hfz9_0 := blk_frozen BK215.out 0; have hfz9_1 := blk_frozen BK215.out 1; have hfz9_2 := blk_frozen BK215.out 2) | ((with_reducible refine gate_callee (f := 27) rfl ?_); refine gL (some 6) Try.func27 #[.agg (csBay a0_0 a0_1 a0_2)] ?_; (with_reducible refine (impl_ValidBay.calls a0_0 a0_1 a0_2 true _ A3.out).mono ?_); rintro e w10 ⟨rfl, hb⟩; refine ⟨_, rfl, ?_⟩; replace BK215 := bB BK215 hb; replace BK216 := bB BK216 hb; replace HB := am (below_step (be HB) hb); (try clear hb); (try clear hb2); (try clear hk); (try clear hi); have hcz11_0 : w10.cell? ⟨gb215, 0, none⟩ = some (.int .i8 a0_0) := (blk_cell BK215.out 0).trans rfl; have hcz11_1 : w10.cell? ⟨gb215, 1, none⟩ = some (.int .i8 a0_1) := (blk_cell BK215.out 1).trans rfl; have hwz11 := lv28_at BK215.out; have haz11 := at_cells BK215.out; have hfz11_0 := blk_frozen BK215.out 0; have hfz11_1 := blk_frozen BK215.out 1; have hfz11_2 := blk_frozen BK215.out 2; obtain ⟨hcz12_0, hcz12_1, hcz12_2, hcz12_3, hcz12_4, hcz12_5, hfz12_0, hfz12_1, hfz12_2, hfz12_3, hfz12_4, hfz12_5⟩ := bx6 BK216) | (go_at_call 107; (with_reducible refine (impl_isBoat.calls a0_0 a0_1 a0_2 a1_0 a1_1 a1_2 a1_3 a1_4 a1_5 t218 _ A5.out).mono ?_); rintro e w13 ⟨rfl, hb⟩; replace BK215 := bB BK215 hb; replace BK216 := bB BK216 hb; replace HB := am (below_step (be HB) hb); (try clear hb); (try clear hb2); (try clear hk); (try clear hi)))
    go_ret
    exact ⟨by first | rfl | (simp [errW_none, errW_some] <;> rfl) | (simp [*, errW_none, errW_some] <;> rfl), be HB⟩
  · replace c4 := Bool.eq_false_iff.mpr c4
    subst c4
    have H1 : (some false) = some r := by rw [if_neg (show ¬ (false = true) by decide)] at H; exact H
    clear H
    have H := H1
    clear H1
    obtain rfl := Option.some.inj H
    go_enter Try.func30, Try.ntmps30
    go_wp2_with (first | ((with_reducible refine gate_dst (N := 2) rfl ?_); refine bxe (N := 2) (cs := (csBay a0_0 a0_1 a0_2)) (t := 28) ?_; intro gb215 hg w14 hbox hb; have BK215 := am (hbox); have GW215 := am (gN hg (below_size (be HB))); have GE215 := am (gN hg (below_size (be HB))); replace HB := am (below_step (be HB) hb); clear hb hbox hg) | ((with_reducible refine gate_dst (N := 3) rfl ?_); refine bxe (N := 3) (cs := #[.int .i8 a1_0, .int .i8 a1_1, .int .i8 a1_2, .int .i8 a1_3, .int .i8 a1_4, .int .i8 a1_5]) (t := 38) ?_; intro gb216 hg w15 hbox hb; have BK216 := am (hbox); have GW216 := am (gN hg (below_size (be HB))); have GE216 := am (gN hg (below_size (be HB))); have NB215_216 := nL BK215 hg; have NB216_215 := nR BK215 hg; replace BK215 := bB BK215 hb; replace HB := am (below_step (be HB) hb); clear hb hbox hg; have hnb16 := NB215_216.out; have hnc16 := NB216_215.out; have hcz17_0 : w15.cell? ⟨gb215, 0, none⟩ = some (.int .i8 a0_0) := (blk_cell BK215.out 0).trans rfl; have hcz17_1 : w15.cell? ⟨gb215, 1, none⟩ = some (.int .i8 a0_1) := (blk_cell BK215.out 1).trans rfl; have hwz17 := lv28_at BK215.out; have haz17 := at_cells BK215.out; have hfz17_0 := blk_frozen BK215.out 0; have hfz17_1 := blk_frozen BK215.out 1; have hfz17_2 := blk_frozen BK215.out 2) | ((with_reducible refine gate_callee (f := 27) rfl ?_); refine gL (some 6) Try.func27 #[.agg (csBay a0_0 a0_1 a0_2)] ?_; (with_reducible refine (impl_ValidBay.calls a0_0 a0_1 a0_2 false _ A3.out).mono ?_); rintro e w18 ⟨rfl, hb⟩; refine ⟨_, rfl, ?_⟩; replace BK215 := bB BK215 hb; replace BK216 := bB BK216 hb; replace HB := am (below_step (be HB) hb); (try clear hb); (try clear hb2); (try clear hk); (try clear hi)))
    go_ret
    exact ⟨by first | rfl | (simp [errW_none, errW_some] <;> rfl) | (simp [*, errW_none, errW_some] <;> rfl), be HB⟩

/-! ### impl_root: function 169 -/
def impl_root.l0 : Nat → Int → Int → Option (Int)
  | 0, _, _ => none
  | k + 1, x0, x3 => if (wrap64 ((wrap64 (x3 + 1)) * (wrap64 (x3 + 1)))) ≤ x0 then (impl_root.l0 k x0 (wrap64 (x3 + 1))) else (some x3)
def impl_root.f (k : Nat) (a0 : Int) : Option (Int) := impl_root.l0 k a0 0
set_option maxHeartbeats 8000000 in
set_option maxRecDepth 100000 in
theorem impl_root.calls (k : Nat) (a0 : Int) (r : Int) (w : World) (h : impl_root.f k a0 = some r) :
    Calls Try.prog 169 #[.int .i64 a0] w fun e w' => e = .returned (.int .i64 r) ∧ Drawn0 w w' := by
  have H : (impl_root.l0 k a0 0) = some r := h
  clear h
  have H' := am H
  clear H
  go_enter Try.func169, Try.ntmps169
  go_wp2
  go_loopg [3] k (fun kq v3 w' => ∃ (x3_1 : Int), v3 = .int .i64 x3_1 ∧ Aside0 (impl_root.l0 kq a0 x3_1 = some r) ∧ Aside0 (kq ≤ k) ∧ Drawn0 w w')
  case atStart => exact ⟨(0), vv, H', ⟨Nat.le_refl _⟩, by repeat (first | exact Drawn0.refl _ | apply Drawn0.step)⟩
  case round =>
    clear H'
    try clear c1
    obtain ⟨x3_1, rfl, HA, HK1, ⟨m1, rfl⟩⟩ := hrel
    cases gk with
    | zero => exact absurd HA.out (by simp [impl_root.l0])
    | succ k1 =>
      have H := HA.out
      clear HA
      simp only [impl_root.l0] at H
      by_cases c2 : (wrap64 ((wrap64 (x3_1 + 1)) * (wrap64 (x3_1 + 1)))) ≤ a0
      · rw [if_pos c2] at H
        have c2b0 : decide ((wrap64 ((wrap64 (x3_1 + 1)) * (wrap64 (x3_1 + 1)))) ≤ a0) = true := decide_eq_true c2
        clear c2
        have H' := am H
        clear H
        go_wp2
        go_roundg k1
        case measure => have := HK1.out; omega
        case rel => exact ⟨(wrap64 (x3_1 + 1)), vv, H', ⟨by have := HK1.out; omega⟩, by repeat (first | exact Drawn0.refl _ | apply Drawn0.step)⟩
      · rw [if_neg c2] at H
        have c2b0 : decide ((wrap64 ((wrap64 (x3_1 + 1)) * (wrap64 (x3_1 + 1)))) ≤ a0) = false := decide_eq_false c2
        clear c2
        obtain rfl := Option.some.inj H
        go_wp2
        go_ret
        exact ⟨by first | rfl | (simp; done) | (simp [*]; done), by repeat (first | exact Drawn0.refl _ | apply Drawn0.step)⟩

/-! ### impl_reachOf: function 116 -/
def impl_reachOf.f (k : Nat) (a0_0 : Int) (a0_1 : Int) (a0_2 : (Nat → Int)) (a1_0 : Int) (a1_1 : Int) (a1_2 : Int) (a1_3 : Int) (a1_4 : Int) (a1_5 : Int) : Option (Int) := (impl_depth.f a0_0 a0_1 a0_2 a1_0 a1_1).bind fun t221 => (if (wrap64 ((wrap64 ((wrap64 (a1_2)) * (wrap64 (a1_2)))) - (wrap64 (t221 * t221)))) < 0 then (some (-1)) else ((impl_root.f k (wrap64 ((wrap64 ((wrap64 (a1_2)) * (wrap64 (a1_2)))) - (wrap64 (t221 * t221))))).bind fun t222 => (some t222)))
set_option maxHeartbeats 8000000 in
set_option maxRecDepth 100000 in
theorem impl_reachOf.calls (k : Nat) (a0_0 : Int) (a0_1 : Int) (a0_2 : (Nat → Int)) (a1_0 : Int) (a1_1 : Int) (a1_2 : Int) (a1_3 : Int) (a1_4 : Int) (a1_5 : Int) (r : Int) (w : World) (h : impl_reachOf.f k a0_0 a0_1 a0_2 a1_0 a1_1 a1_2 a1_3 a1_4 a1_5 = some r) :
    Calls Try.prog 116 #[.agg (csBay a0_0 a0_1 a0_2), .agg #[.int .i8 a1_0, .int .i8 a1_1, .int .i8 a1_2, .int .i8 a1_3, .int .i8 a1_4, .int .i8 a1_5]] w fun e w' => e = .returned (.int .i64 r) ∧ Below w.heap.size w w' := by
  have hu28 := Try.underlying28
  have hu38 := Try.underlying38
  have hu36 := Try.underlying36
  have HB := am (Below.refl w.heap.size w)
  have H : ((impl_depth.f a0_0 a0_1 a0_2 a1_0 a1_1).bind fun t221 => (if (wrap64 ((wrap64 ((wrap64 (a1_2)) * (wrap64 (a1_2)))) - (wrap64 (t221 * t221)))) < 0 then (some (-1)) else ((impl_root.f k (wrap64 ((wrap64 ((wrap64 (a1_2)) * (wrap64 (a1_2)))) - (wrap64 (t221 * t221))))).bind fun t222 => (some t222)))) = some r := h
  clear h
  replace H := Option.bind_eq_some_iff.mp H
  obtain ⟨t221, A30, H⟩ := H
  try dsimp only at H
  have A3 := am A30
  clear A30
  by_cases c4 : (wrap64 ((wrap64 ((wrap64 (a1_2)) * (wrap64 (a1_2)))) - (wrap64 (t221 * t221)))) < 0
  · rw [if_pos c4] at H
    have c4b0 : decide ((wrap64 ((wrap64 ((wrap64 (a1_2)) * (wrap64 (a1_2)))) - (wrap64 (t221 * t221)))) < 0) = true := decide_eq_true c4
    clear c4
    obtain rfl := Option.some.inj H
    go_enter Try.func116, Try.ntmps116
    go_wp2_with (first | ((with_reducible refine gate_dst (N := 2) rfl ?_); refine bxe (N := 2) (cs := (csBay a0_0 a0_1 a0_2)) (t := 28) ?_; intro gb219 hg w5 hbox hb; have BK219 := am (hbox); have GW219 := am (gN hg (below_size (be HB))); have GE219 := am (gN hg (below_size (be HB))); replace HB := am (below_step (be HB) hb); clear hb hbox hg) | ((with_reducible refine gate_dst (N := 3) rfl ?_); refine bxe (N := 3) (cs := #[.int .i8 a1_0, .int .i8 a1_1, .int .i8 a1_2, .int .i8 a1_3, .int .i8 a1_4, .int .i8 a1_5]) (t := 38) ?_; intro gb220 hg w6 hbox hb; have BK220 := am (hbox); have GW220 := am (gN hg (below_size (be HB))); have GE220 := am (gN hg (below_size (be HB))); have NB219_220 := nL BK219 hg; have NB220_219 := nR BK219 hg; replace BK219 := bB BK219 hb; replace HB := am (below_step (be HB) hb); clear hb hbox hg; have hnb7 := NB219_220.out; have hnc7 := NB220_219.out; have hcz8_0 : w6.cell? ⟨gb219, 0, none⟩ = some (.int .i8 a0_0) := (blk_cell BK219.out 0).trans rfl; have hcz8_1 : w6.cell? ⟨gb219, 1, none⟩ = some (.int .i8 a0_1) := (blk_cell BK219.out 1).trans rfl; have hwz8 := lv28_at BK219.out; have haz8 := at_cells BK219.out; have hfz8_0 := blk_frozen BK219.out 0; have hfz8_1 := blk_frozen BK219.out 1; have hfz8_2 := blk_frozen BK219.out 2; obtain ⟨hcz9_0, hcz9_1, hcz9_2, hcz9_3, hcz9_4, hcz9_5, hfz9_0, hfz9_1, hfz9_2, hfz9_3, hfz9_4, hfz9_5⟩ := bx6 BK220) | ((with_reducible refine gate_callee (f := 112) rfl ?_); refine gL (some 10) Try.func112 #[.agg (csBay a0_0 a0_1 a0_2), .agg #[.int .i8 a1_0, .int .i8 a1_1]] ?_; (with_reducible refine (impl_depth.calls a0_0 a0_1 a0_2 a1_0 a1_1 t221 _ A3.out).mono ?_); rintro e w10 ⟨rfl, hb⟩; refine ⟨_, rfl, ?_⟩; replace BK219 := bB BK219 hb; replace BK220 := bB BK220 hb; replace HB := am (below_step (be HB) hb); (try clear hb); (try clear hb2); (try clear hk); (try clear hi); obtain ⟨hcz11_0, hcz11_1, hcz11_2, hcz11_3, hcz11_4, hcz11_5, hfz11_0, hfz11_1, hfz11_2, hfz11_3, hfz11_4, hfz11_5⟩ := bx6 BK220))
    go_ret
    exact ⟨by first | rfl | (simp [errW_none, errW_some] <;> rfl) | (simp [*, errW_none, errW_some] <;> rfl), be HB⟩
  · rw [if_neg c4] at H
    have c4b0 : decide ((wrap64 ((wrap64 ((wrap64 (a1_2)) * (wrap64 (a1_2)))) - (wrap64 (t221 * t221)))) < 0) = false := decide_eq_false c4
    clear c4
    replace H := Option.bind_eq_some_iff.mp H
    obtain ⟨t222, A120, H⟩ := H
    try dsimp only at H
    have A12 := am A120
    clear A120
    obtain rfl := Option.some.inj H
    go_enter Try.func116, Try.ntmps116
    go_wp2_with (first | ((with_reducible refine gate_dst (N := 2) rfl ?_); refine bxe (N := 2) (cs := (csBay a0_0 a0_1 a0_2)) (t := 28) ?_; intro gb219 hg w13 hbox hb; have BK219 := am (hbox); have GW219 := am (gN hg (below_size (be HB))); have GE219 := am (gN hg (below_size (be HB))); replace HB := am (below_step (be HB) hb); clear hb hbox hg) | ((with_reducible refine gate_dst (N := 3) rfl ?_); refine bxe (N := 3) (cs := #[.int .i8 a1_0, .int .i8 a1_1, .int .i8 a1_2, .int .i8 a1_3, .int .i8 a1_4, .int .i8 a1_5]) (t := 38) ?_; intro gb220 hg w14 hbox hb; have BK220 := am (hbox); have GW220 := am (gN hg (below_size (be HB))); have GE220 := am (gN hg (below_size (be HB))); have NB219_220 := nL BK219 hg; have NB220_219 := nR BK219 hg; replace BK219 := bB BK219 hb; replace HB := am (below_step (be HB) hb); clear hb hbox hg; have hnb15 := NB219_220.out; have hnc15 := NB220_219.out; have hcz16_0 : w14.cell? ⟨gb219, 0, none⟩ = some (.int .i8 a0_0) := (blk_cell BK219.out 0).trans rfl; have hcz16_1 : w14.cell? ⟨gb219, 1, none⟩ = some (.int .i8 a0_1) := (blk_cell BK219.out 1).trans rfl; have hwz16 := lv28_at BK219.out; have haz16 := at_cells BK219.out; have hfz16_0 := blk_frozen BK219.out 0; have hfz16_1 := blk_frozen BK219.out 1; have hfz16_2 := blk_frozen BK219.out 2; obtain ⟨hcz17_0, hcz17_1, hcz17_2, hcz17_3, hcz17_4, hcz17_5, hfz17_0, hfz17_1, hfz17_2, hfz17_3, hfz17_4, hfz17_5⟩ := bx6 BK220) | ((with_reducible refine gate_callee (f := 112) rfl ?_); refine gL (some 10) Try.func112 #[.agg (csBay a0_0 a0_1 a0_2), .agg #[.int .i8 a1_0, .int .i8 a1_1]] ?_; (with_reducible refine (impl_depth.calls a0_0 a0_1 a0_2 a1_0 a1_1 t221 _ A3.out).mono ?_); rintro e w18 ⟨rfl, hb⟩; refine ⟨_, rfl, ?_⟩; replace BK219 := bB BK219 hb; replace BK220 := bB BK220 hb; replace HB := am (below_step (be HB) hb); (try clear hb); (try clear hb2); (try clear hk); (try clear hi); obtain ⟨hcz19_0, hcz19_1, hcz19_2, hcz19_3, hcz19_4, hcz19_5, hfz19_0, hfz19_1, hfz19_2, hfz19_3, hfz19_4, hfz19_5⟩ := bx6 BK220) | ((with_reducible refine gate_callee (f := 169) rfl ?_); refine gL (some 25) Try.func169 #[.int .i64 (wrap64 ((wrap64 ((wrap64 (a1_2)) * (wrap64 (a1_2)))) - (wrap64 (t221 * t221))))] ?_; (with_reducible refine (impl_root.calls k (wrap64 ((wrap64 ((wrap64 (a1_2)) * (wrap64 (a1_2)))) - (wrap64 (t221 * t221)))) t222 _ A12.out).mono ?_); rintro e w' ⟨rfl, ⟨nd, rfl⟩⟩; refine ⟨_, rfl, ?_⟩))
    go_ret
    exact ⟨by first | rfl | (simp [errW_none, errW_some] <;> rfl) | (simp [*, errW_none, errW_some] <;> rfl), be HB⟩

/-! ### impl_boatCode: function 114 -/
def impl_boatCode.f (k : Nat) (a0_0 : Int) (a0_1 : Int) (a0_2 : (Nat → Int)) (a1_0 : Int) (a1_1 : Int) (a1_2 : Int) (a1_3 : Int) (a1_4 : Int) (a1_5 : Int) : Option (Int) := (impl_ValidBoat.f a0_0 a0_1 a0_2 a1_0 a1_1 a1_2 a1_3 a1_4 a1_5).bind fun t225 => (if t225 = true then ((impl_reachOf.f k a0_0 a0_1 a0_2 a1_0 a1_1 a1_2 a1_3 a1_4 a1_5).bind fun t226 => (if t226 < 0 then (some 4) else (some 0))) else (some 1))
set_option maxHeartbeats 8000000 in
set_option maxRecDepth 100000 in
theorem impl_boatCode.calls (k : Nat) (a0_0 : Int) (a0_1 : Int) (a0_2 : (Nat → Int)) (a1_0 : Int) (a1_1 : Int) (a1_2 : Int) (a1_3 : Int) (a1_4 : Int) (a1_5 : Int) (r : Int) (w : World) (h : impl_boatCode.f k a0_0 a0_1 a0_2 a1_0 a1_1 a1_2 a1_3 a1_4 a1_5 = some r) :
    Calls Try.prog 114 #[.agg (csBay a0_0 a0_1 a0_2), .agg #[.int .i8 a1_0, .int .i8 a1_1, .int .i8 a1_2, .int .i8 a1_3, .int .i8 a1_4, .int .i8 a1_5]] w fun e w' => e = .returned (.int .i64 r) ∧ Below w.heap.size w w' := by
  have hu28 := Try.underlying28
  have hu38 := Try.underlying38
  have HB := am (Below.refl w.heap.size w)
  have H : ((impl_ValidBoat.f a0_0 a0_1 a0_2 a1_0 a1_1 a1_2 a1_3 a1_4 a1_5).bind fun t225 => (if t225 = true then ((impl_reachOf.f k a0_0 a0_1 a0_2 a1_0 a1_1 a1_2 a1_3 a1_4 a1_5).bind fun t226 => (if t226 < 0 then (some 4) else (some 0))) else (some 1))) = some r := h
  clear h
  replace H := Option.bind_eq_some_iff.mp H
  obtain ⟨t225, A30, H⟩ := H
  try dsimp only at H
  have A3 := am A30
  clear A30
  by_cases c4 : t225 = true
  · subst c4
    rw [if_pos rfl] at H
    replace H := Option.bind_eq_some_iff.mp H
    obtain ⟨t226, A50, H⟩ := H
    try dsimp only at H
    have A5 := am A50
    clear A50
    by_cases c6 : t226 < 0
    · rw [if_pos c6] at H
      have c6b0 : decide (t226 < 0) = true := decide_eq_true c6
      clear c6
      obtain rfl := Option.some.inj H
      go_enter Try.func114, Try.ntmps114
      go_wp2_with (first | ((with_reducible refine gate_dst (N := 2) rfl ?_); refine bxe (N := 2) (cs := (csBay a0_0 a0_1 a0_2)) (t := 28) ?_; intro gb223 hg w7 hbox hb; have BK223 := am (hbox); have GW223 := am (gN hg (below_size (be HB))); have GE223 := am (gN hg (below_size (be HB))); replace HB := am (below_step (be HB) hb); clear hb hbox hg) | ((with_reducible refine gate_dst (N := 3) rfl ?_); refine bxe (N := 3) (cs := #[.int .i8 a1_0, .int .i8 a1_1, .int .i8 a1_2, .int .i8 a1_3, .int .i8 a1_4, .int .i8 a1_5]) (t := 38) ?_; intro gb224 hg w8 hbox hb; have BK224 := am (hbox); have GW224 := am (gN hg (below_size (be HB))); have GE224 := am (gN hg (below_size (be HB))); have NB223_224 := nL BK223 hg; have NB224_223 := nR BK223 hg; replace BK223 := bB BK223 hb; replace HB := am (below_step (be HB) hb); clear hb hbox hg; have hnb9 := NB223_224.out; have hnc9 := NB224_223.out; have hcz10_0 : w8.cell? ⟨gb223, 0, none⟩ = some (.int .i8 a0_0) := (blk_cell BK223.out 0).trans rfl; have hcz10_1 : w8.cell? ⟨gb223, 1, none⟩ = some (.int .i8 a0_1) := (blk_cell BK223.out 1).trans rfl; have hwz10 := lv28_at BK223.out; have haz10 := at_cells BK223.out; have hfz10_0 := blk_frozen BK223.out 0; have hfz10_1 := blk_frozen BK223.out 1; have hfz10_2 := blk_frozen BK223.out 2; obtain ⟨hcz11_0, hcz11_1, hcz11_2, hcz11_3, hcz11_4, hcz11_5, hfz11_0, hfz11_1, hfz11_2, hfz11_3, hfz11_4, hfz11_5⟩ := bx6 BK224) | ((with_reducible refine gate_callee (f := 30) rfl ?_); refine gL (some 8) Try.func30 #[.agg (csBay a0_0 a0_1 a0_2), .agg #[.int .i8 a1_0, .int .i8 a1_1, .int .i8 a1_2, .int .i8 a1_3, .int .i8 a1_4, .int .i8 a1_5]] ?_; (with_reducible refine (impl_ValidBoat.calls a0_0 a0_1 a0_2 a1_0 a1_1 a1_2 a1_3 a1_4 a1_5 true _ A3.out).mono ?_); rintro e w12 ⟨rfl, hb⟩; refine ⟨_, rfl, ?_⟩; replace BK223 := bB BK223 hb; replace BK224 := bB BK224 hb; replace HB := am (below_step (be HB) hb); (try clear hb); (try clear hb2); (try clear hk); (try clear hi); have hcz13_0 : w12.cell? ⟨gb223, 0, none⟩ = some (.int .i8 a0_0) := (blk_cell BK223.out 0).trans rfl; have hcz13_1 : w12.cell? ⟨gb223, 1, none⟩ = some (.int .i8 a0_1) := (blk_cell BK223.out 1).trans rfl; have hwz13 := lv28_at BK223.out; have haz13 := at_cells BK223.out; have hfz13_0 := blk_frozen BK223.out 0; have hfz13_1 := blk_frozen BK223.out 1; have hfz13_2 := blk_frozen BK223.out 2; obtain ⟨hcz14_0, hcz14_1, hcz14_2, hcz14_3, hcz14_4, hcz14_5, hfz14_0, hfz14_1, hfz14_2, hfz14_3, hfz14_4, hfz14_5⟩ := bx6 BK224) | ((with_reducible refine gate_callee (f := 116) rfl ?_); refine gL (some 13) Try.func116 #[.agg (csBay a0_0 a0_1 a0_2), .agg #[.int .i8 a1_0, .int .i8 a1_1, .int .i8 a1_2, .int .i8 a1_3, .int .i8 a1_4, .int .i8 a1_5]] ?_; (with_reducible refine (impl_reachOf.calls k a0_0 a0_1 a0_2 a1_0 a1_1 a1_2 a1_3 a1_4 a1_5 t226 _ A5.out).mono ?_); rintro e w15 ⟨rfl, hb⟩; refine ⟨_, rfl, ?_⟩; replace BK223 := bB BK223 hb; replace BK224 := bB BK224 hb; replace HB := am (below_step (be HB) hb); (try clear hb); (try clear hb2); (try clear hk); (try clear hi)))
      go_ret
      exact ⟨by first | rfl | (simp [errW_none, errW_some] <;> rfl) | (simp [*, errW_none, errW_some] <;> rfl), be HB⟩
    · rw [if_neg c6] at H
      have c6b0 : decide (t226 < 0) = false := decide_eq_false c6
      clear c6
      obtain rfl := Option.some.inj H
      go_enter Try.func114, Try.ntmps114
      go_wp2_with (first | ((with_reducible refine gate_dst (N := 2) rfl ?_); refine bxe (N := 2) (cs := (csBay a0_0 a0_1 a0_2)) (t := 28) ?_; intro gb223 hg w16 hbox hb; have BK223 := am (hbox); have GW223 := am (gN hg (below_size (be HB))); have GE223 := am (gN hg (below_size (be HB))); replace HB := am (below_step (be HB) hb); clear hb hbox hg) | ((with_reducible refine gate_dst (N := 3) rfl ?_); refine bxe (N := 3) (cs := #[.int .i8 a1_0, .int .i8 a1_1, .int .i8 a1_2, .int .i8 a1_3, .int .i8 a1_4, .int .i8 a1_5]) (t := 38) ?_; intro gb224 hg w17 hbox hb; have BK224 := am (hbox); have GW224 := am (gN hg (below_size (be HB))); have GE224 := am (gN hg (below_size (be HB))); have NB223_224 := nL BK223 hg; have NB224_223 := nR BK223 hg; replace BK223 := bB BK223 hb; replace HB := am (below_step (be HB) hb); clear hb hbox hg; have hnb18 := NB223_224.out; have hnc18 := NB224_223.out; have hcz19_0 : w17.cell? ⟨gb223, 0, none⟩ = some (.int .i8 a0_0) := (blk_cell BK223.out 0).trans rfl; have hcz19_1 : w17.cell? ⟨gb223, 1, none⟩ = some (.int .i8 a0_1) := (blk_cell BK223.out 1).trans rfl; have hwz19 := lv28_at BK223.out; have haz19 := at_cells BK223.out; have hfz19_0 := blk_frozen BK223.out 0; have hfz19_1 := blk_frozen BK223.out 1; have hfz19_2 := blk_frozen BK223.out 2; obtain ⟨hcz20_0, hcz20_1, hcz20_2, hcz20_3, hcz20_4, hcz20_5, hfz20_0, hfz20_1, hfz20_2, hfz20_3, hfz20_4, hfz20_5⟩ := bx6 BK224) | ((with_reducible refine gate_callee (f := 30) rfl ?_); refine gL (some 8) Try.func30 #[.agg (csBay a0_0 a0_1 a0_2), .agg #[.int .i8 a1_0, .int .i8 a1_1, .int .i8 a1_2, .int .i8 a1_3, .int .i8 a1_4, .int .i8 a1_5]] ?_; (with_reducible refine (impl_ValidBoat.calls a0_0 a0_1 a0_2 a1_0 a1_1 a1_2 a1_3 a1_4 a1_5 true _ A3.out).mono ?_); rintro e w21 ⟨rfl, hb⟩; refine ⟨_, rfl, ?_⟩; replace BK223 := bB BK223 hb; replace BK224 := bB BK224 hb; replace HB := am (below_step (be HB) hb); (try clear hb); (try clear hb2); (try clear hk); (try clear hi); have hcz22_0 : w21.cell? ⟨gb223, 0, none⟩ = some (.int .i8 a0_0) := (blk_cell BK223.out 0).trans rfl; have hcz22_1 : w21.cell? ⟨gb223, 1, none⟩ = some (.int .i8 a0_1) := (blk_cell BK223.out 1).trans rfl; have hwz22 := lv28_at BK223.out; have haz22 := at_cells BK223.out; have hfz22_0 := blk_frozen BK223.out 0; have hfz22_1 := blk_frozen BK223.out 1; have hfz22_2 := blk_frozen BK223.out 2; obtain ⟨hcz23_0, hcz23_1, hcz23_2, hcz23_3, hcz23_4, hcz23_5, hfz23_0, hfz23_1, hfz23_2, hfz23_3, hfz23_4, hfz23_5⟩ := bx6 BK224) | ((with_reducible refine gate_callee (f := 116) rfl ?_); refine gL (some 13) Try.func116 #[.agg (csBay a0_0 a0_1 a0_2), .agg #[.int .i8 a1_0, .int .i8 a1_1, .int .i8 a1_2, .int .i8 a1_3, .int .i8 a1_4, .int .i8 a1_5]] ?_; (with_reducible refine (impl_reachOf.calls k a0_0 a0_1 a0_2 a1_0 a1_1 a1_2 a1_3 a1_4 a1_5 t226 _ A5.out).mono ?_); rintro e w24 ⟨rfl, hb⟩; refine ⟨_, rfl, ?_⟩; replace BK223 := bB BK223 hb; replace BK224 := bB BK224 hb; replace HB := am (below_step (be HB) hb); (try clear hb); (try clear hb2); (try clear hk); (try clear hi)))
      go_ret
      exact ⟨by first | rfl | (simp [errW_none, errW_some] <;> rfl) | (simp [*, errW_none, errW_some] <;> rfl), be HB⟩
  · replace c4 := Bool.eq_false_iff.mpr c4
    subst c4
    have H1 : (some 1) = some r := by rw [if_neg (show ¬ (false = true) by decide)] at H; exact H
    clear H
    have H := H1
    clear H1
    obtain rfl := Option.some.inj H
    go_enter Try.func114, Try.ntmps114
    go_wp2_with (first | ((with_reducible refine gate_dst (N := 2) rfl ?_); refine bxe (N := 2) (cs := (csBay a0_0 a0_1 a0_2)) (t := 28) ?_; intro gb223 hg w25 hbox hb; have BK223 := am (hbox); have GW223 := am (gN hg (below_size (be HB))); have GE223 := am (gN hg (below_size (be HB))); replace HB := am (below_step (be HB) hb); clear hb hbox hg) | ((with_reducible refine gate_dst (N := 3) rfl ?_); refine bxe (N := 3) (cs := #[.int .i8 a1_0, .int .i8 a1_1, .int .i8 a1_2, .int .i8 a1_3, .int .i8 a1_4, .int .i8 a1_5]) (t := 38) ?_; intro gb224 hg w26 hbox hb; have BK224 := am (hbox); have GW224 := am (gN hg (below_size (be HB))); have GE224 := am (gN hg (below_size (be HB))); have NB223_224 := nL BK223 hg; have NB224_223 := nR BK223 hg; replace BK223 := bB BK223 hb; replace HB := am (below_step (be HB) hb); clear hb hbox hg; have hnb27 := NB223_224.out; have hnc27 := NB224_223.out; have hcz28_0 : w26.cell? ⟨gb223, 0, none⟩ = some (.int .i8 a0_0) := (blk_cell BK223.out 0).trans rfl; have hcz28_1 : w26.cell? ⟨gb223, 1, none⟩ = some (.int .i8 a0_1) := (blk_cell BK223.out 1).trans rfl; have hwz28 := lv28_at BK223.out; have haz28 := at_cells BK223.out; have hfz28_0 := blk_frozen BK223.out 0; have hfz28_1 := blk_frozen BK223.out 1; have hfz28_2 := blk_frozen BK223.out 2; obtain ⟨hcz29_0, hcz29_1, hcz29_2, hcz29_3, hcz29_4, hcz29_5, hfz29_0, hfz29_1, hfz29_2, hfz29_3, hfz29_4, hfz29_5⟩ := bx6 BK224) | ((with_reducible refine gate_callee (f := 30) rfl ?_); refine gL (some 8) Try.func30 #[.agg (csBay a0_0 a0_1 a0_2), .agg #[.int .i8 a1_0, .int .i8 a1_1, .int .i8 a1_2, .int .i8 a1_3, .int .i8 a1_4, .int .i8 a1_5]] ?_; (with_reducible refine (impl_ValidBoat.calls a0_0 a0_1 a0_2 a1_0 a1_1 a1_2 a1_3 a1_4 a1_5 false _ A3.out).mono ?_); rintro e w30 ⟨rfl, hb⟩; refine ⟨_, rfl, ?_⟩; replace BK223 := bB BK223 hb; replace BK224 := bB BK224 hb; replace HB := am (below_step (be HB) hb); (try clear hb); (try clear hb2); (try clear hk); (try clear hi)))
    go_ret
    exact ⟨by first | rfl | (simp [errW_none, errW_some] <;> rfl) | (simp [*, errW_none, errW_some] <;> rfl), be HB⟩

/-! ### impl_allPlaces: function 111 -/
mutual
def impl_allPlaces.l0 : Nat → List (S36) → Int → Int → Int → Int → (Nat → Int) → Option ((List (S36)))
  | 0, _, _, _, _, _, _ => none
  | k + 1, x3, x8, x9, x228000, x228001, x228002 => if x9 < x8 then (impl_allPlaces.l1 k x3 x9 x8 x9 x228000 0 x228000 x228001 x228002) else (some x3)
def impl_allPlaces.l1 : Nat → List (S36) → Int → Int → Int → Int → Int → Int → Int → (Nat → Int) → Option ((List (S36)))
  | 0, _, _, _, _, _, _, _, _, _ => none
  | k + 1, x3, x4, x8, x9, x13, x14, x228000, x228001, x228002 => if x14 < x13 then (if x3.length < 70368744177664 then (impl_allPlaces.l1 k (x3 ++ [(⟨x14, x4⟩ : S36)]) x4 x8 x9 x13 (IntKind.i8.wrap (x14 + 1)) x228000 x228001 x228002) else (none)) else (impl_allPlaces.l0 k x3 x8 (IntKind.i8.wrap (x9 + 1)) x228000 x228001 x228002)
end
def impl_allPlaces.f (k : Nat) (a0_0 : Int) (a0_1 : Int) (a0_2 : (Nat → Int)) : Option ((List (S36))) := impl_allPlaces.l0 k (([] : List (S36))) a0_1 0 a0_0 a0_1 a0_2
set_option maxHeartbeats 8000000 in
set_option maxRecDepth 100000 in
theorem impl_allPlaces.calls (k : Nat) (a0_0 : Int) (a0_1 : Int) (a0_2 : (Nat → Int)) (r : List (S36)) (w : World) (h : impl_allPlaces.f k a0_0 a0_1 a0_2 = some r) :
    Calls Try.prog 111 #[.agg (csBay a0_0 a0_1 a0_2)] w fun e w' => ∃ v0_ : Value, e = .returned (v0_) ∧ Kd.R k36 36 w' w.heap.size (fun _ => True) v0_ r ∧ Below w.heap.size w w' := by
  have hu28 := Try.underlying28
  have hu36 := Try.underlying36
  have HB := am (Below.refl w.heap.size w)
  have H : (impl_allPlaces.l0 k (([] : List (S36))) a0_1 0 a0_0 a0_1 a0_2) = some r := h
  clear h
  obtain ⟨y228, hy228⟩ : ∃ y_ : List (S36), y_ = (([] : List (S36))) := ⟨_, rfl⟩
  replace H : (impl_allPlaces.l0 k y228 a0_1 0 a0_0 a0_1 a0_2) = some r := by first | (rw [hy228]; with_reducible exact H) | (have H2_ := (Option.bind_some _ _).symm.trans H; rw [hy228]; with_reducible exact H2_) | (have H2_ := (Option.bind_some _ _).symm.trans H; with_reducible exact H2_) | with_reducible exact H | (rw [hy228]; exact H) | exact H
  have Ny228 := am hy228
  clear hy228
  have H' := am H
  clear H
  go_enter Try.func111, Try.ntmps111
  go_wp2_with (first | ((with_reducible refine gate_dst (N := 1) rfl ?_); refine bxe (N := 1) (cs := (csBay a0_0 a0_1 a0_2)) (t := 28) ?_; intro gb227 hg w2 hbox hb; have BK227 := am (hbox); have GW227 := am (gN hg (below_size (be HB))); have GE227 := am (gN hg (below_size (be HB))); replace HB := am (below_step (be HB) hb); clear hb hbox hg) | ((with_reducible refine gate_dst (N := 6) rfl ?_); refine Kd.R_lit k36 _ 36 ?hg (N := 6) ?hd (xs := ([] : List (S36))) (inner := []) (ok := fun _ => True) (okp := fun _ => True) ?hr ?hp (fun _ hk => hk) trivial (Below.refl _ _) (Nat.le_refl _) (by simp) ?_; (case hd => rfl); (case hg => rfl); (case hr => first | (go_simp; done) | (go_simp; rfl)); (case hp => exact (Reps.none _ _)); intro v229 w3 ho4 hb hg_ hnew_; clear hg_ hnew_; (first | rw [← Ny228.out] at ho4 | (simp only [Int.reduceToNat] at ho4; rw [← Ny228.out] at ho4)); have HO230 := am (Kd.R_lower ho4 (below_size (be HB))); replace BK227 := bB BK227 hb; replace HB := am (below_step (be HB) hb); clear hb ho4; have hcz5_0 : w3.cell? ⟨gb227, 0, none⟩ = some (.int .i8 a0_0) := (blk_cell BK227.out 0).trans rfl; have hcz5_1 : w3.cell? ⟨gb227, 1, none⟩ = some (.int .i8 a0_1) := (blk_cell BK227.out 1).trans rfl; have hwz5 := lv28_at BK227.out; have haz5 := at_cells BK227.out; have hfz5_0 := blk_frozen BK227.out 0; have hfz5_1 := blk_frozen BK227.out 1; have hfz5_2 := blk_frozen BK227.out 2))
  go_loopg [3, 9] k (fun kq v3 v9 w' => ∃ (x3_1 : List (S36)) (x9_1 : Int), v9 = .int .i8 x9_1 ∧ Aside0 (impl_allPlaces.l0 kq x3_1 a0_1 x9_1 a0_0 a0_1 a0_2 = some r) ∧ Aside0 (kq ≤ k) ∧ Aside0 (Kd.R k36 36 w' w.heap.size (fun _ => True) v3 x3_1) ∧ Aside0 (w'.heap[gb227]? = some (.cells (csBay a0_0 a0_1 a0_2) 28 (0, 0))) ∧ Aside0 (Below w.heap.size w w'))
  case atStart => exact ⟨(y228), (0), vv, H', ⟨Nat.le_refl _⟩, ⟨kr HO230⟩, ⟨kb BK227⟩, ⟨be HB⟩⟩
  case round =>
    clear H'
    try clear c1
    try clear p2
    try clear hcz5_0
    try clear hcz5_1
    try clear hfz5_0
    try clear hfz5_1
    try clear hfz5_2
    obtain ⟨x3_1, x9_1, rfl, HA, HK1, HO_3, BK227, HB⟩ := hrel
    cases gk with
    | zero => exact absurd HA.out (by simp [impl_allPlaces.l0])
    | succ k1 =>
      have H := HA.out
      clear HA
      simp only [impl_allPlaces.l0] at H
      by_cases c6 : x9_1 < a0_1
      · rw [if_pos c6] at H
        have c6b0 : decide (x9_1 < a0_1) = true := decide_eq_true c6
        clear c6
        have H' := am H
        clear H
        have hcz7_0 : wr.cell? ⟨gb227, 0, none⟩ = some (.int .i8 a0_0) := (blk_cell BK227.out 0).trans rfl
        have hcz7_1 : wr.cell? ⟨gb227, 1, none⟩ = some (.int .i8 a0_1) := (blk_cell BK227.out 1).trans rfl
        have hwz7 := lv28_at BK227.out; have haz7 := at_cells BK227.out
        have hfz7_0 := blk_frozen BK227.out 0
        have hfz7_1 := blk_frozen BK227.out 1
        have hfz7_2 := blk_frozen BK227.out 2
        go_wp2
        go_loopg [3, 14] k1 (fun kq v3 v14 w' => ∃ (x3_2 : List (S36)) (x14_2 : Int), v14 = .int .i8 x14_2 ∧ Aside0 (impl_allPlaces.l1 kq x3_2 x9_1 a0_1 x9_1 a0_0 x14_2 a0_0 a0_1 a0_2 = some r) ∧ Aside0 (kq ≤ k1) ∧ Aside0 (Kd.R k36 36 w' w.heap.size (fun _ => True) v3 x3_2) ∧ Aside0 (w'.heap[gb227]? = some (.cells (csBay a0_0 a0_1 a0_2) 28 (0, 0))) ∧ Aside0 (Below w.heap.size w w'))
        case atStart => exact ⟨(x3_1), (0), vv, H', ⟨Nat.le_refl _⟩, ⟨kr HO_3⟩, ⟨kb BK227⟩, ⟨be HB⟩⟩
        case round =>
          clear H'
          try clear c1
          try clear p2
          try clear c6
          try clear c6b0
          try clear hcz5_0
          try clear hcz5_1
          try clear hcz7_0
          try clear hcz7_1
          try clear hfz5_0
          try clear hfz5_1
          try clear hfz5_2
          try clear hfz7_0
          try clear hfz7_1
          try clear hfz7_2
          try clear p2
          obtain ⟨x3_2, x14_2, rfl, HA, HK2, HO_3, BK227, HB⟩ := hrel
          cases gk with
          | zero => exact absurd HA.out (by simp [impl_allPlaces.l1])
          | succ k2 =>
            have H := HA.out
            clear HA
            simp only [impl_allPlaces.l1] at H
            by_cases c8 : x14_2 < a0_0
            · rw [if_pos c8] at H
              have c8b0 : decide (x14_2 < a0_0) = true := decide_eq_true c8
              clear c8
              by_cases c9 : x3_2.length < 70368744177664
              · rw [if_pos c9] at H
                have LMc9 := am c9
                clear c9
                obtain ⟨y231, hy231⟩ : ∃ y_ : List (S36), y_ = (x3_2 ++ [(⟨x14_2, x9_1⟩ : S36)]) := ⟨_, rfl⟩
                replace H : (impl_allPlaces.l1 k2 y231 x9_1 a0_1 x9_1 a0_0 (IntKind.i8.wrap (x14_2 + 1)) a0_0 a0_1 a0_2) = some r := by first | (rw [hy231]; with_reducible exact H) | (have H2_ := (Option.bind_some _ _).symm.trans H; rw [hy231]; with_reducible exact H2_) | (have H2_ := (Option.bind_some _ _).symm.trans H; with_reducible exact H2_) | with_reducible exact H | (rw [hy231]; exact H) | exact H
                have Ny231 := am hy231
                clear hy231
                have H' := am H
                clear H
                go_wp2_with (first | ((with_reducible refine gate_builtin (b := .append) (xs := #[.tmp 17, .tmp 21]) rfl ?_); at_builtin; refine Kd.R_append k36 (w0 := w) w.heap.size rfl (.tmp 17) (.tmp 21) 56 36 (.agg #[(.int .i8 0), (.int .i8 0)]) 2 rfl Try.underlying56 info36 rfl (by decide) (by omega) u3 x3_2 (⟨x14_2, x9_1⟩ : S36) [.int .i8 x14_2, .int .i8 x9_1] (fun _ => True) (fun _ => False) rfl rfl ?aP (fun _ hk => hk.elim) ?aF ?aO ?aB ?aS ?aL ?_; (case aP => exact k36_mkM _ _ _ (⟨x14_2, x9_1⟩ : S36)); (case aB => exact (be HB)); (case aF => exact (fun _ _ => trivial)); (case aO => exact (kr HO_3)); (case aS => exact (below_size (be HB))); (case aL => have := LMc9.out; omega); intro v232 w10 ho hb hg hat; rw [← Ny231.out] at ho; have HO233 := am (ho); replace BK227 := am (blk_grown (g := gb227) (o := .cells (csBay a0_0 a0_1 a0_2) 28 (0, 0)) (kb BK227) hg (Kd.R_ne HO_3.out BK227.out (by decide))); replace HB := am (hb); clear HO_3; clear ho hb hg hat))
                go_roundg k2
                case measure => have := HK1.out; have := HK2.out; omega
                case rel => exact ⟨(y231), (IntKind.i8.wrap (x14_2 + 1)), vv, H', ⟨by have := HK1.out; have := HK2.out; omega⟩, ⟨kr HO233⟩, ⟨kb BK227⟩, ⟨be HB⟩⟩
              · rw [if_neg c9] at H
                exact absurd H (by simp)
            · rw [if_neg c8] at H
              have c8b0 : decide (x14_2 < a0_0) = false := decide_eq_false c8
              clear c8
              have H' := am H
              clear H
              go_wp2
              go_roundg k2
              case measure => have := HK1.out; have := HK2.out; omega
              case rel => exact ⟨(x3_2), (IntKind.i8.wrap (x9_1 + 1)), vv, H', ⟨by have := HK1.out; have := HK2.out; omega⟩, ⟨kr HO_3⟩, ⟨kb BK227⟩, ⟨be HB⟩⟩
      · rw [if_neg c6] at H
        have c6b0 : decide (x9_1 < a0_1) = false := decide_eq_false c6
        clear c6
        obtain rfl := Option.some.inj H
        go_wp2
        go_ret
        exact ⟨_, by first | rfl | (simp [errW_none, errW_some] <;> rfl) | (simp [*, errW_none, errW_some] <;> rfl), by (with_reducible repeat (first | apply Kd.R_alloc | apply Kd.R_drewN | apply Kd.R_drew)); exact HO_3.out, be HB⟩

/-! ### impl_swingOf: function 115 -/
def impl_swingOf.f (k : Nat) (a0_0 : Int) (a0_1 : Int) (a0_2 : (Nat → Int)) (a1_0 : Int) (a1_1 : Int) (a1_2 : Int) (a1_3 : Int) (a1_4 : Int) (a1_5 : Int) : Option (Int) := (impl_reachOf.f k a0_0 a0_1 a0_2 a1_0 a1_1 a1_2 a1_3 a1_4 a1_5).bind fun t236 => (some (wrap64 (t236 + (wrap64 (a1_3)))))
def impl_swingOf.T1 : Bool × List (List Nat × List Nat) := (true, [([], []), ([], []), ([0, 1], [0, 1]), ([], []), ([3], [3]), ([4], [4]), ([2, 5], [2, 5]), ([6, 2, 0, 1, 2, 3, 4, 5, 6], [6])])
def impl_swingOf.B1 : List Nat := [0, 0, 3, 0, 8, 24, 63, 127]
theorem impl_swingOf.tab1 : rtab .any (opsOf Try.f115 1) = impl_swingOf.T1 := by kernel_rfl
theorem impl_swingOf.bits1 : waitsOk impl_swingOf.T1.2 impl_swingOf.B1 = true := by kernel_rfl
set_option maxHeartbeats 8000000 in
set_option maxRecDepth 100000 in
theorem impl_swingOf.calls (k : Nat) (a0_0 : Int) (a0_1 : Int) (a0_2 : (Nat → Int)) (a1_0 : Int) (a1_1 : Int) (a1_2 : Int) (a1_3 : Int) (a1_4 : Int) (a1_5 : Int) (r : Int) (w : World) (h : impl_swingOf.f k a0_0 a0_1 a0_2 a1_0 a1_1 a1_2 a1_3 a1_4 a1_5 = some r) :
    Calls Try.prog 115 #[.agg (csBay a0_0 a0_1 a0_2), .agg #[.int .i8 a1_0, .int .i8 a1_1, .int .i8 a1_2, .int .i8 a1_3, .int .i8 a1_4, .int .i8 a1_5]] w fun e w' => e = .returned (.int .i64 r) ∧ Below w.heap.size w w' := by
  have hu28 := Try.underlying28
  have hu38 := Try.underlying38
  have HB := am (Below.refl w.heap.size w)
  have H : ((impl_reachOf.f k a0_0 a0_1 a0_2 a1_0 a1_1 a1_2 a1_3 a1_4 a1_5).bind fun t236 => (some (wrap64 (t236 + (wrap64 (a1_3)))))) = some r := h
  clear h
  replace H := Option.bind_eq_some_iff.mp H
  obtain ⟨t236, A30, H⟩ := H
  try dsimp only at H
  have A3 := am A30
  clear A30
  obtain rfl := Option.some.inj H
  go_enter Try.func115, Try.ntmps115
  try go_wp2_with (first | ((with_reducible refine gate_dst (N := 2) rfl ?_); refine bxe (N := 2) (cs := (csBay a0_0 a0_1 a0_2)) (t := 28) ?_; intro gb234 hg w4 hbox hb; have BK234 := am (hbox); have GW234 := am (gN hg (below_size (be HB))); have GE234 := am (gN hg (below_size (be HB))); replace HB := am (below_step (be HB) hb); clear hb hbox hg) | ((with_reducible refine gate_dst (N := 3) rfl ?_); refine bxe (N := 3) (cs := #[.int .i8 a1_0, .int .i8 a1_1, .int .i8 a1_2, .int .i8 a1_3, .int .i8 a1_4, .int .i8 a1_5]) (t := 38) ?_; intro gb235 hg w5 hbox hb; have BK235 := am (hbox); have GW235 := am (gN hg (below_size (be HB))); have GE235 := am (gN hg (below_size (be HB))); have NB234_235 := nL BK234 hg; have NB235_234 := nR BK234 hg; replace BK234 := bB BK234 hb; replace HB := am (below_step (be HB) hb); clear hb hbox hg))
  have n0_ := am (blk_drew BK234.out)
  have n1_ := am (blk_drew BK235.out)
  have n2_ := am (below_drew1 HB.out)
  clear BK234
  clear BK235
  clear HB
  have BK234 := n0_
  have BK235 := n1_
  have HB := n2_
  clear n0_ n1_ n2_
  refine start_ (n := 8) (S := fun w' => w'.cell? ⟨gb234, 0, none⟩ = some (.int .i8 a0_0) ∧ w'.cell? ⟨gb234, 1, none⟩ = some (.int .i8 a0_1) ∧ (lv28 ⟨gb234, 0, none⟩).run Try.prog w' = .ok (.agg (csBay a0_0 a0_1 a0_2)) w' ∧ atCells w' gb234 a0_2 ∧ w'.cell? ⟨gb235, 0, none⟩ = some (.int .i8 a1_0) ∧ w'.cell? ⟨gb235, 1, none⟩ = some (.int .i8 a1_1) ∧ w'.cell? ⟨gb235, 2, none⟩ = some (.int .i8 a1_2) ∧ w'.cell? ⟨gb235, 3, none⟩ = some (.int .i8 a1_3) ∧ w'.cell? ⟨gb235, 4, none⟩ = some (.int .i8 a1_4) ∧ w'.cell? ⟨gb235, 5, none⟩ = some (.int .i8 a1_5)) (ds := []) #[false, false, false, false, false, false, false, false] (by kernel_rfl) rfl rfl ⟨(blk_cell BK234.out 0).trans rfl, (blk_cell BK234.out 1).trans rfl, lv28_at BK234.out, at_cells BK234.out, (blk_cell BK235.out 0).trans rfl, (blk_cell BK235.out 1).trans rfl, (blk_cell BK235.out 2).trans rfl, (blk_cell BK235.out 3).trans rfl, (blk_cell BK235.out 4).trans rfl, (blk_cell BK235.out 5).trans rfl⟩ (fun hHeld => ?_); refine with_tabW impl_swingOf.tab1 impl_swingOf.bits1 (fun HT_ HW_ => ?_)
  generalize w5.drew = w6 at BK234 BK235 HB hHeld ⊢
  refine pure_ (i := 3) (N := some 8) (v := ?_) (a' := ?_) #[false, false, false, true, false, false, false, false] rfl rfl (any_of HT_.out (by kernel_rfl)) (fun _ _ _ h => h) (Or.inl ⟨by rfl, ?_⟩) ?_ ?_
  rotate_left
  · intro w'
    go_simp
    with_reducible rfl
  rotate_left
  · simp only [Act.put, List.setIfInBounds_toArray, List.set_cons_zero, List.set_cons_succ, i64_w, i32_w]
    rfl
  refine take_ (i := 0) (N := some 5) (v := ?_) (a' := ?_) #[true, false, false, true, false, false, false, false] rfl rfl (take_ofW HT_.out HW_.out (by kernel_rfl)) (fun _ _ _ h => h) (Or.inl ⟨by rfl, ?_⟩) hHeld ?_ ?_
  rotate_left
  · rintro w' ⟨s0, s1, s2, s3, s4, s5, s6, s7, s8, s9⟩
    go_simp
    with_reducible rfl
  rotate_left
  · simp only [Act.put, List.setIfInBounds_toArray, List.set_cons_zero, List.set_cons_succ, i64_w, i32_w]
    rfl
  refine take_ (i := 1) (N := some 6) (v := ?_) (a' := ?_) #[true, true, false, true, false, false, false, false] rfl rfl (take_ofW HT_.out HW_.out (by kernel_rfl)) (fun _ _ _ h => h) (Or.inl ⟨by rfl, ?_⟩) hHeld ?_ ?_
  rotate_left
  · rintro w' ⟨s0, s1, s2, s3, s4, s5, s6, s7, s8, s9⟩
    go_simp
    with_reducible rfl
  rotate_left
  · simp only [Act.put, List.setIfInBounds_toArray, List.set_cons_zero, List.set_cons_succ, i64_w, i32_w]
    rfl
  refine take_ (i := 4) (N := some 9) (v := ?_) (a' := ?_) #[true, true, false, true, true, false, false, false] rfl rfl (take_ofW HT_.out HW_.out (by kernel_rfl)) (fun _ _ _ h => h) (Or.inl ⟨by rfl, ?_⟩) hHeld ?_ ?_
  rotate_left
  · rintro w' ⟨s0, s1, s2, s3, s4, s5, s6, s7, s8, s9⟩
    go_simp
    with_reducible rfl
  rotate_left
  · simp only [Act.put, List.setIfInBounds_toArray, List.set_cons_zero, List.set_cons_succ, i64_w, i32_w]
    rfl
  refine pure_ (i := 5) (N := some 10) (v := ?_) (a' := ?_) #[true, true, false, true, true, true, false, false] rfl rfl (any_of HT_.out (by kernel_rfl)) (fun _ _ _ h => h) (Or.inl ⟨by rfl, ?_⟩) ?_ ?_
  rotate_left
  · intro w'
    go_simp
    with_reducible rfl
  rotate_left
  · simp only [Act.put, List.setIfInBounds_toArray, List.set_cons_zero, List.set_cons_succ, i64_w, i32_w]
    rfl
  refine one_ (i := 2) (N := some 7) #[true, true, true, true, true, true, false, false] rfl rfl (one_of HT_.out (by kernel_rfl)) (by decide) (fun K hK => ?_)
  refine goes_ Try.func116 (by kernel_rfl) rfl #[.agg (csBay a0_0 a0_1 a0_2), .agg #[.int .i8 a1_0, .int .i8 a1_1, .int .i8 a1_2, .int .i8 a1_3, .int .i8 a1_4, .int .i8 a1_5]] (by rfl) rfl rfl (by (try simp only [List.map_toArray, List.map_cons, List.map_nil]); first | done | rfl | (simp only [List.length_drop, List.length_take]; rfl)) ?_
  with_reducible refine (impl_reachOf.calls k a0_0 a0_1 a0_2 a1_0 a1_1 a1_2 a1_3 a1_4 a1_5 t236 _ A3.out).mono ?_
  rintro e w7 ⟨rfl, hb⟩
  refine ⟨_, rfl, ?_⟩
  have n0_ := bB BK234 hb
  have n1_ := bB BK235 hb
  have n2_ := am (below_step (be HB) hb)
  clear BK234
  clear BK235
  clear HB
  have BK234 := n0_
  have BK235 := n1_
  have HB := n2_
  clear n0_ n1_ n2_
  (try clear hb)
  (try clear hb2)
  (try clear hk)
  (try clear hi)
  refine hK.out _ _ ⟨(blk_cell BK234.out 0).trans rfl, (blk_cell BK234.out 1).trans rfl, lv28_at BK234.out, at_cells BK234.out, (blk_cell BK235.out 0).trans rfl, (blk_cell BK235.out 1).trans rfl, (blk_cell BK235.out 2).trans rfl, (blk_cell BK235.out 3).trans rfl, (blk_cell BK235.out 4).trans rfl, (blk_cell BK235.out 5).trans rfl⟩ (fun hHeld => ?_)
  clear hK K
  refine norm_ (a' := ?_) ?_ ?_
  rotate_left
  · show Act.put _ (some 7) _ = _
    simp only [Act.put, List.setIfInBounds_toArray, List.set_cons_zero, List.set_cons_succ, i64_w, i32_w]
    rfl
  refine pure_ (i := 6) (N := some 11) (v := ?_) (a' := ?_) #[true, true, true, true, true, true, true, false] rfl rfl (any_of HT_.out (by kernel_rfl)) (fun _ _ _ h => h) (Or.inl ⟨by rfl, ?_⟩) ?_ ?_
  rotate_left
  · intro w'
    go_simp
    with_reducible rfl
  rotate_left
  · simp only [Act.put, List.setIfInBounds_toArray, List.set_cons_zero, List.set_cons_succ, i64_w, i32_w]
    rfl
  refine pure_ (i := 7) (N := some 4) (v := ?_) (a' := ?_) #[true, true, true, true, true, true, true, true] rfl rfl (any_of HT_.out (by kernel_rfl)) (fun _ _ _ h => h) (Or.inl ⟨by rfl, ?_⟩) ?_ ?_
  rotate_left
  · intro w'
    go_simp
    with_reducible rfl
  rotate_left
  · simp only [Act.put, List.setIfInBounds_toArray, List.set_cons_zero, List.set_cons_succ, i64_w, i32_w]
    rfl
  refine done_ (done_of HT_.out (by kernel_rfl)) ?_
  try go_wp2
  go_ret
  exact ⟨by first | rfl | (simp [errW_none, errW_some] <;> rfl) | (simp [*, errW_none, errW_some] <;> rfl), be HB⟩

/-! ### impl_far: function 171 -/
def impl_far.f (a0_0 : Int) (a0_1 : Int) (a1_0 : Int) (a1_1 : Int) : Option (Int) := some (wrap64 ((wrap64 ((wrap64 ((wrap64 (a0_0)) - (wrap64 (a1_0)))) * (wrap64 ((wrap64 (a0_0)) - (wrap64 (a1_0)))))) + (wrap64 ((wrap64 ((wrap64 (a0_1)) - (wrap64 (a1_1)))) * (wrap64 ((wrap64 (a0_1)) - (wrap64 (a1_1))))))))
set_option maxHeartbeats 8000000 in
set_option maxRecDepth 100000 in
theorem impl_far.calls (a0_0 : Int) (a0_1 : Int) (a1_0 : Int) (a1_1 : Int) (r : Int) (w : World) (h : impl_far.f a0_0 a0_1 a1_0 a1_1 = some r) :
    Calls Try.prog 171 #[.agg #[.int .i8 a0_0, .int .i8 a0_1], .agg #[.int .i8 a1_0, .int .i8 a1_1]] w fun e w' => e = .returned (.int .i64 r) ∧ Below w.heap.size w w' := by
  have hu36 := Try.underlying36
  have HB := am (Below.refl w.heap.size w)
  have H : (some (wrap64 ((wrap64 ((wrap64 ((wrap64 (a0_0)) - (wrap64 (a1_0)))) * (wrap64 ((wrap64 (a0_0)) - (wrap64 (a1_0)))))) + (wrap64 ((wrap64 ((wrap64 (a0_1)) - (wrap64 (a1_1)))) * (wrap64 ((wrap64 (a0_1)) - (wrap64 (a1_1))))))))) = some r := h
  clear h
  obtain rfl := Option.some.inj H
  go_enter Try.func171, Try.ntmps171
  go_wp2_with (first | ((with_reducible refine gate_dst (N := 2) rfl ?_); refine bxe (N := 2) (cs := #[.int .i8 a0_0, .int .i8 a0_1]) (t := 36) ?_; intro gb237 hg w3 hbox hb; have BK237 := am (hbox); have GW237 := am (gN hg (below_size (be HB))); have GE237 := am (gN hg (below_size (be HB))); replace HB := am (below_step (be HB) hb); clear hb hbox hg) | ((with_reducible refine gate_dst (N := 3) rfl ?_); refine bxe (N := 3) (cs := #[.int .i8 a1_0, .int .i8 a1_1]) (t := 36) ?_; intro gb238 hg w4 hbox hb; have BK238 := am (hbox); have GW238 := am (gN hg (below_size (be HB))); have GE238 := am (gN hg (below_size (be HB))); have NB237_238 := nL BK237 hg; have NB238_237 := nR BK237 hg; replace BK237 := bB BK237 hb; replace HB := am (below_step (be HB) hb); clear hb hbox hg; have hnb5 := NB237_238.out; have hnc5 := NB238_237.out; obtain ⟨hcz6_0, hcz6_1, hfz6_0, hfz6_1⟩ := bx2 BK237; obtain ⟨hcz7_0, hcz7_1, hfz7_0, hfz7_1⟩ := bx2 BK238))
  repeat (go_quiet (first | ((with_reducible refine gate_dst (N := 2) rfl ?_); refine bxe (N := 2) (cs := #[.int .i8 a0_0, .int .i8 a0_1]) (t := 36) ?_; intro gb237 hg w3 hbox hb; have BK237 := am (hbox); have GW237 := am (gN hg (below_size (be HB))); have GE237 := am (gN hg (below_size (be HB))); replace HB := am (below_step (be HB) hb); clear hb hbox hg) | ((with_reducible refine gate_dst (N := 3) rfl ?_); refine bxe (N := 3) (cs := #[.int .i8 a1_0, .int .i8 a1_1]) (t := 36) ?_; intro gb238 hg w4 hbox hb; have BK238 := am (hbox); have GW238 := am (gN hg (below_size (be HB))); have GE238 := am (gN hg (below_size (be HB))); have NB237_238 := nL BK237 hg; have NB238_237 := nR BK237 hg; replace BK237 := bB BK237 hb; replace HB := am (below_step (be HB) hb); clear hb hbox hg; have hnb5 := NB237_238.out; have hnc5 := NB238_237.out; obtain ⟨hcz6_0, hcz6_1, hfz6_0, hfz6_1⟩ := bx2 BK237; obtain ⟨hcz7_0, hcz7_1, hfz7_0, hfz7_1⟩ := bx2 BK238)); try go_wp2_with (first | ((with_reducible refine gate_dst (N := 2) rfl ?_); refine bxe (N := 2) (cs := #[.int .i8 a0_0, .int .i8 a0_1]) (t := 36) ?_; intro gb237 hg w3 hbox hb; have BK237 := am (hbox); have GW237 := am (gN hg (below_size (be HB))); have GE237 := am (gN hg (below_size (be HB))); replace HB := am (below_step (be HB) hb); clear hb hbox hg) | ((with_reducible refine gate_dst (N := 3) rfl ?_); refine bxe (N := 3) (cs := #[.int .i8 a1_0, .int .i8 a1_1]) (t := 36) ?_; intro gb238 hg w4 hbox hb; have BK238 := am (hbox); have GW238 := am (gN hg (below_size (be HB))); have GE238 := am (gN hg (below_size (be HB))); have NB237_238 := nL BK237 hg; have NB238_237 := nR BK237 hg; replace BK237 := bB BK237 hb; replace HB := am (below_step (be HB) hb); clear hb hbox hg; have hnb5 := NB237_238.out; have hnc5 := NB238_237.out; obtain ⟨hcz6_0, hcz6_1, hfz6_0, hfz6_1⟩ := bx2 BK237; obtain ⟨hcz7_0, hcz7_1, hfz7_0, hfz7_1⟩ := bx2 BK238)))
  go_ret
  exact ⟨by first | rfl | (simp [errW_none, errW_some] <;> rfl) | (simp [*, errW_none, errW_some] <;> rfl), be HB⟩

end Go.Proofs.Ytcollbifdfhfoaa.PFnExactSwingPlaces
