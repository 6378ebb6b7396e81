-- Written by a program out of this seat's translation (functions, and that the code comes to them).
import Derived.Test.YtcollbifdfhfoaaPFnExactIsAfloatx0
import Derived.Test.YtcollbifdfhfoaaPFnExactIsAfloatx5
namespace Go.Proofs.Ytcollbifdfhfoaa.PFnExactIsAfloat
open Go.RowKit Go.Proofs.YtcollbifdfhfoaaW.PrintWords Go.Proofs.YtcollbifdfhfoaaW.PrintLast Go.Proofs.YtcollbifdfhfoaaW.PrintMore
attribute [local go_sem] max2_int min2_int max_two min_two max_three min_three max_four min_four   -- for this text's walks alone
open Go.Proofs.Ytcollbifdfhfoaa.Bay Go.Proofs.Ytcollbifdfhfoaa.Short
attribute [local go_sem ↓] lv26_eq lv28_eq
attribute [local go_sem] lvv_set lvv_drewN lvv_drew lv26_run BayAt26_set BayAt26_drewN BayAt26_drew lv28_run BayAt28_set BayAt28_drewN BayAt28_drew
set_option linter.unusedVariables false
set_option linter.unusedSimpArgs false

/-! ### impl_isBoat: function 107 -/
def impl_isBoat.f (a0_0 : Int) (a0_1 : Int) (a0_2 : (Nat → Int)) (a1_0 : Int) (a1_1 : Int) (a1_2 : Int) (a1_3 : Int) (a1_4 : Int) (a1_5 : Int) : Option (Bool) := (impl_isWater.f a0_0 a0_1 a0_2 a1_0 a1_1).bind fun t229 => (if t229 = true then (if a1_2 ≥ 1 then (if a1_2 ≤ 60 then (if a1_3 ≥ 0 then (if a1_3 ≤ 5 then (if a1_4 ≥ 1 then (if a1_4 ≤ 30 then (if a1_5 ≥ 0 then (some (decide (a1_5 ≤ 9))) else (some false)) else (some false)) else (some false)) else (some false)) else (some false)) else (some false)) else (some false)) else (some false))
set_option maxHeartbeats 8000000 in
set_option maxRecDepth 100000 in
theorem impl_isBoat.calls (a0_0 : Int) (a0_1 : Int) (a0_2 : (Nat → Int)) (a1_0 : Int) (a1_1 : Int) (a1_2 : Int) (a1_3 : Int) (a1_4 : Int) (a1_5 : Int) (r : Bool) (w : World) (h : impl_isBoat.f a0_0 a0_1 a0_2 a1_0 a1_1 a1_2 a1_3 a1_4 a1_5 = some r) :
  Calls Try.prog 107 #[.agg (csBay a0_0 a0_1 a0_2), .agg #[.int .i8 a1_0, .int .i8 a1_1, .int .i8 a1_2, .int .i8 a1_3, .int .i8 a1_4, .int .i8 a1_5]] w fun e w' => e = .returned (.bool r) ∧ Below w.heap.size w w' := by
 have hu28 := Try.underlying28
 have hu38 := Try.underlying38
 have hu36 := Try.underlying36
 have HB := am (Below.refl w.heap.size w)
 have H : ((impl_isWater.f a0_0 a0_1 a0_2 a1_0 a1_1).bind fun t229 => (if t229 = true then (if a1_2 ≥ 1 then (if a1_2 ≤ 60 then (if a1_3 ≥ 0 then (if a1_3 ≤ 5 then (if a1_4 ≥ 1 then (if a1_4 ≤ 30 then (if a1_5 ≥ 0 then (some (decide (a1_5 ≤ 9))) else (some false)) else (some false)) else (some false)) else (some false)) else (some false)) else (some false)) else (some false)) else (some false))) = some r := h
 clear h
 replace H := Option.bind_eq_some_iff.mp H
 obtain ⟨t229, A30, H⟩ := H
 try dsimp only at H
 have A3 := am A30
 clear A30
 by_cases c4 : t229 = true
 ·subst c4
  rw [if_pos rfl] at H
  by_cases c5 : a1_2 ≥ 1
  ·rw [if_pos c5] at H
   have c5b0 : decide (1 ≤ a1_2) = true := decide_eq_true c5
   clear c5
   by_cases c6 : a1_2 ≤ 60
   ·rw [if_pos c6] at H
    have c6b0 : decide (a1_2 ≤ 60) = true := decide_eq_true c6
    clear c6
    by_cases c7 : a1_3 ≥ 0
    ·rw [if_pos c7] at H
     have c7b0 : decide (0 ≤ a1_3) = true := decide_eq_true c7
     have c7b1 : 0 ≤ a1_3 := c7
     clear c7
     by_cases c8 : a1_3 ≤ 5
     ·rw [if_pos c8] at H
      have c8b0 : decide (a1_3 ≤ 5) = true := decide_eq_true c8
      clear c8
      by_cases c9 : a1_4 ≥ 1
      ·rw [if_pos c9] at H
       have c9b0 : decide (1 ≤ a1_4) = true := decide_eq_true c9
       clear c9
       by_cases c10 : a1_4 ≤ 30
       ·rw [if_pos c10] at H
        have c10b0 : decide (a1_4 ≤ 30) = true := decide_eq_true c10
        clear c10
        by_cases c11 : a1_5 ≥ 0
        ·rw [if_pos c11] at H
         have c11b0 : decide (0 ≤ a1_5) = true := decide_eq_true c11
         have c11b1 : 0 ≤ a1_5 := c11
         clear c11
         obtain rfl := Option.some.inj H
         go_enter Try.func107, Try.ntmps107
         go_wp2_with (first | ((with_reducible refine gate_dst (N := 2) rfl ?_); refine bxe (N := 2) (cs := (csBay a0_0 a0_1 a0_2)) (t := 28) ?_; intro gb227 hg w12 hbox hb; have BK227 := am (hbox); have GW227 := am (gN hg (below_size (be HB))); have GE227 := am (gN hg (below_size (be HB))); replace HB := am (below_step (be HB) hb); clear hb hbox hg) | ((with_reducible refine gate_dst (N := 3) rfl ?_); refine bxe (N := 3) (cs := #[.int .i8 a1_0, .int .i8 a1_1, .int .i8 a1_2, .int .i8 a1_3, .int .i8 a1_4, .int .i8 a1_5]) (t := 38) ?_; intro gb228 hg w13 hbox hb; have BK228 := am (hbox); have GW228 := am (gN hg (below_size (be HB))); have GE228 := am (gN hg (below_size (be HB))); have NB227_228 := nL BK227 hg; have NB228_227 := nR BK227 hg; replace BK227 := bB BK227 hb; replace HB := am (below_step (be HB) hb); clear hb hbox hg; have hnb14 := NB227_228.out; have hnc14 := NB228_227.out; have hcz15_0 : w13.cell? ⟨gb227, 0, none⟩ = some (.int .i8 a0_0) := (blk_cell BK227.out 0).trans rfl; have hcz15_1 : w13.cell? ⟨gb227, 1, none⟩ = some (.int .i8 a0_1) := (blk_cell BK227.out 1).trans rfl; have hwz15 := lv28_at BK227.out; have haz15 := at_cells BK227.out; have hyz15 := BayAt28_of BK227.out; have hvz15 := lvv_of BK227.out; have hfz15_0 := blk_frozen BK227.out 0; have hfz15_1 := blk_frozen BK227.out 1; have hfz15_2 := blk_frozen BK227.out 2; obtain ⟨hcz16_0, hcz16_1, hcz16_2, hcz16_3, hcz16_4, hcz16_5, hfz16_0, hfz16_1, hfz16_2, hfz16_3, hfz16_4, hfz16_5⟩ := bx6 BK228) | ((with_reducible refine gate_callee (f := 167) rfl ?_); refine gL (some 8) Try.func167 #[.agg (csBay a0_0 a0_1 a0_2), .agg #[.int .i8 a1_0, .int .i8 a1_1]] ?_; (with_reducible refine (impl_isWater.calls a0_0 a0_1 a0_2 a1_0 a1_1 true _ A3.out).mono ?_); rintro e w17 ⟨rfl, hb⟩; refine ⟨_, rfl, ?_⟩; replace BK227 := bB BK227 hb; replace BK228 := bB BK228 hb; replace HB := am (below_step (be HB) hb); (try clear hb); (try clear hb2); (try clear hk); (try clear hi); obtain ⟨hcz18_0, hcz18_1, hcz18_2, hcz18_3, hcz18_4, hcz18_5, hfz18_0, hfz18_1, hfz18_2, hfz18_3, hfz18_4, hfz18_5⟩ := bx6 BK228))
         go_ret
         exact ⟨by first | rfl | (simp [errW_none, errW_some] <;> rfl) | (simp [*, errW_none, errW_some] <;> rfl), be HB⟩
        ·rw [if_neg c11] at H
         have c11b0 : decide (0 ≤ a1_5) = false := decide_eq_false c11
         clear c11
         obtain rfl := Option.some.inj H
         go_enter Try.func107, Try.ntmps107
         go_wp2_with (first | ((with_reducible refine gate_dst (N := 2) rfl ?_); refine bxe (N := 2) (cs := (csBay a0_0 a0_1 a0_2)) (t := 28) ?_; intro gb227 hg w19 hbox hb; have BK227 := am (hbox); have GW227 := am (gN hg (below_size (be HB))); have GE227 := am (gN hg (below_size (be HB))); replace HB := am (below_step (be HB) hb); clear hb hbox hg) | ((with_reducible refine gate_dst (N := 3) rfl ?_); refine bxe (N := 3) (cs := #[.int .i8 a1_0, .int .i8 a1_1, .int .i8 a1_2, .int .i8 a1_3, .int .i8 a1_4, .int .i8 a1_5]) (t := 38) ?_; intro gb228 hg w20 hbox hb; have BK228 := am (hbox); have GW228 := am (gN hg (below_size (be HB))); have GE228 := am (gN hg (below_size (be HB))); have NB227_228 := nL BK227 hg; have NB228_227 := nR BK227 hg; replace BK227 := bB BK227 hb; replace HB := am (below_step (be HB) hb); clear hb hbox hg; have hnb21 := NB227_228.out; have hnc21 := NB228_227.out; have hcz22_0 : w20.cell? ⟨gb227, 0, none⟩ = some (.int .i8 a0_0) := (blk_cell BK227.out 0).trans rfl; have hcz22_1 : w20.cell? ⟨gb227, 1, none⟩ = some (.int .i8 a0_1) := (blk_cell BK227.out 1).trans rfl; have hwz22 := lv28_at BK227.out; have haz22 := at_cells BK227.out; have hyz22 := BayAt28_of BK227.out; have hvz22 := lvv_of BK227.out; have hfz22_0 := blk_frozen BK227.out 0; have hfz22_1 := blk_frozen BK227.out 1; have hfz22_2 := blk_frozen BK227.out 2; obtain ⟨hcz23_0, hcz23_1, hcz23_2, hcz23_3, hcz23_4, hcz23_5, hfz23_0, hfz23_1, hfz23_2, hfz23_3, hfz23_4, hfz23_5⟩ := bx6 BK228) | ((with_reducible refine gate_callee (f := 167) rfl ?_); refine gL (some 8) Try.func167 #[.agg (csBay a0_0 a0_1 a0_2), .agg #[.int .i8 a1_0, .int .i8 a1_1]] ?_; (with_reducible refine (impl_isWater.calls a0_0 a0_1 a0_2 a1_0 a1_1 true _ A3.out).mono ?_); rintro e w24 ⟨rfl, hb⟩; refine ⟨_, rfl, ?_⟩; replace BK227 := bB BK227 hb; replace BK228 := bB BK228 hb; replace HB := am (below_step (be HB) hb); (try clear hb); (try clear hb2); (try clear hk); (try clear hi); obtain ⟨hcz25_0, hcz25_1, hcz25_2, hcz25_3, hcz25_4, hcz25_5, hfz25_0, hfz25_1, hfz25_2, hfz25_3, hfz25_4, hfz25_5⟩ := bx6 BK228))
         go_ret
         exact ⟨by first | rfl | (simp [errW_none, errW_some] <;> rfl) | (simp [*, errW_none, errW_some] <;> rfl), be HB⟩
       ·rw [if_neg c10] at H
        have c10b0 : decide (a1_4 ≤ 30) = false := decide_eq_false c10
        clear c10
        obtain rfl := Option.some.inj H
        go_enter Try.func107, Try.ntmps107
        go_wp2_with (first | ((with_reducible refine gate_dst (N := 2) rfl ?_); refine bxe (N := 2) (cs := (csBay a0_0 a0_1 a0_2)) (t := 28) ?_; intro gb227 hg w26 hbox hb; have BK227 := am (hbox); have GW227 := am (gN hg (below_size (be HB))); have GE227 := am (gN hg (below_size (be HB))); replace HB := am (below_step (be HB) hb); clear hb hbox hg) | ((with_reducible refine gate_dst (N := 3) rfl ?_); refine bxe (N := 3) (cs := #[.int .i8 a1_0, .int .i8 a1_1, .int .i8 a1_2, .int .i8 a1_3, .int .i8 a1_4, .int .i8 a1_5]) (t := 38) ?_; intro gb228 hg w27 hbox hb; have BK228 := am (hbox); have GW228 := am (gN hg (below_size (be HB))); have GE228 := am (gN hg (below_size (be HB))); have NB227_228 := nL BK227 hg; have NB228_227 := nR BK227 hg; replace BK227 := bB BK227 hb; replace HB := am (below_step (be HB) hb); clear hb hbox hg; have hnb28 := NB227_228.out; have hnc28 := NB228_227.out; have hcz29_0 : w27.cell? ⟨gb227, 0, none⟩ = some (.int .i8 a0_0) := (blk_cell BK227.out 0).trans rfl; have hcz29_1 : w27.cell? ⟨gb227, 1, none⟩ = some (.int .i8 a0_1) := (blk_cell BK227.out 1).trans rfl; have hwz29 := lv28_at BK227.out; have haz29 := at_cells BK227.out; have hyz29 := BayAt28_of BK227.out; have hvz29 := lvv_of BK227.out; have hfz29_0 := blk_frozen BK227.out 0; have hfz29_1 := blk_frozen BK227.out 1; have hfz29_2 := blk_frozen BK227.out 2; obtain ⟨hcz30_0, hcz30_1, hcz30_2, hcz30_3, hcz30_4, hcz30_5, hfz30_0, hfz30_1, hfz30_2, hfz30_3, hfz30_4, hfz30_5⟩ := bx6 BK228) | ((with_reducible refine gate_callee (f := 167) rfl ?_); refine gL (some 8) Try.func167 #[.agg (csBay a0_0 a0_1 a0_2), .agg #[.int .i8 a1_0, .int .i8 a1_1]] ?_; (with_reducible refine (impl_isWater.calls a0_0 a0_1 a0_2 a1_0 a1_1 true _ A3.out).mono ?_); rintro e w31 ⟨rfl, hb⟩; refine ⟨_, rfl, ?_⟩; replace BK227 := bB BK227 hb; replace BK228 := bB BK228 hb; replace HB := am (below_step (be HB) hb); (try clear hb); (try clear hb2); (try clear hk); (try clear hi); obtain ⟨hcz32_0, hcz32_1, hcz32_2, hcz32_3, hcz32_4, hcz32_5, hfz32_0, hfz32_1, hfz32_2, hfz32_3, hfz32_4, hfz32_5⟩ := bx6 BK228))
        go_ret
        exact ⟨by first | rfl | (simp [errW_none, errW_some] <;> rfl) | (simp [*, errW_none, errW_some] <;> rfl), be HB⟩
      ·rw [if_neg c9] at H
       have c9b0 : decide (1 ≤ a1_4) = false := decide_eq_false c9
       clear c9
       obtain rfl := Option.some.inj H
       go_enter Try.func107, Try.ntmps107
       go_wp2_with (first | ((with_reducible refine gate_dst (N := 2) rfl ?_); refine bxe (N := 2) (cs := (csBay a0_0 a0_1 a0_2)) (t := 28) ?_; intro gb227 hg w33 hbox hb; have BK227 := am (hbox); have GW227 := am (gN hg (below_size (be HB))); have GE227 := am (gN hg (below_size (be HB))); replace HB := am (below_step (be HB) hb); clear hb hbox hg) | ((with_reducible refine gate_dst (N := 3) rfl ?_); refine bxe (N := 3) (cs := #[.int .i8 a1_0, .int .i8 a1_1, .int .i8 a1_2, .int .i8 a1_3, .int .i8 a1_4, .int .i8 a1_5]) (t := 38) ?_; intro gb228 hg w34 hbox hb; have BK228 := am (hbox); have GW228 := am (gN hg (below_size (be HB))); have GE228 := am (gN hg (below_size (be HB))); have NB227_228 := nL BK227 hg; have NB228_227 := nR BK227 hg; replace BK227 := bB BK227 hb; replace HB := am (below_step (be HB) hb); clear hb hbox hg; have hnb35 := NB227_228.out; have hnc35 := NB228_227.out; have hcz36_0 : w34.cell? ⟨gb227, 0, none⟩ = some (.int .i8 a0_0) := (blk_cell BK227.out 0).trans rfl; have hcz36_1 : w34.cell? ⟨gb227, 1, none⟩ = some (.int .i8 a0_1) := (blk_cell BK227.out 1).trans rfl; have hwz36 := lv28_at BK227.out; have haz36 := at_cells BK227.out; have hyz36 := BayAt28_of BK227.out; have hvz36 := lvv_of BK227.out; have hfz36_0 := blk_frozen BK227.out 0; have hfz36_1 := blk_frozen BK227.out 1; have hfz36_2 := blk_frozen BK227.out 2; obtain ⟨hcz37_0, hcz37_1, hcz37_2, hcz37_3, hcz37_4, hcz37_5, hfz37_0, hfz37_1, hfz37_2, hfz37_3, hfz37_4, hfz37_5⟩ := bx6 BK228) | ((with_reducible refine gate_callee (f := 167) rfl ?_); refine gL (some 8) Try.func167 #[.agg (csBay a0_0 a0_1 a0_2), .agg #[.int .i8 a1_0, .int .i8 a1_1]] ?_; (with_reducible refine (impl_isWater.calls a0_0 a0_1 a0_2 a1_0 a1_1 true _ A3.out).mono ?_); rintro e w38 ⟨rfl, hb⟩; refine ⟨_, rfl, ?_⟩; replace BK227 := bB BK227 hb; replace BK228 := bB BK228 hb; replace HB := am (below_step (be HB) hb); (try clear hb); (try clear hb2); (try clear hk); (try clear hi); obtain ⟨hcz39_0, hcz39_1, hcz39_2, hcz39_3, hcz39_4, hcz39_5, hfz39_0, hfz39_1, hfz39_2, hfz39_3, hfz39_4, hfz39_5⟩ := bx6 BK228))
       go_ret
       exact ⟨by first | rfl | (simp [errW_none, errW_some] <;> rfl) | (simp [*, errW_none, errW_some] <;> rfl), be HB⟩
     ·rw [if_neg c8] at H
      have c8b0 : decide (a1_3 ≤ 5) = false := decide_eq_false c8
      clear c8
      obtain rfl := Option.some.inj H
      go_enter Try.func107, Try.ntmps107
      go_wp2_with (first | ((with_reducible refine gate_dst (N := 2) rfl ?_); refine bxe (N := 2) (cs := (csBay a0_0 a0_1 a0_2)) (t := 28) ?_; intro gb227 hg w40 hbox hb; have BK227 := am (hbox); have GW227 := am (gN hg (below_size (be HB))); have GE227 := am (gN hg (below_size (be HB))); replace HB := am (below_step (be HB) hb); clear hb hbox hg) | ((with_reducible refine gate_dst (N := 3) rfl ?_); refine bxe (N := 3) (cs := #[.int .i8 a1_0, .int .i8 a1_1, .int .i8 a1_2, .int .i8 a1_3, .int .i8 a1_4, .int .i8 a1_5]) (t := 38) ?_; intro gb228 hg w41 hbox hb; have BK228 := am (hbox); have GW228 := am (gN hg (below_size (be HB))); have GE228 := am (gN hg (below_size (be HB))); have NB227_228 := nL BK227 hg; have NB228_227 := nR BK227 hg; replace BK227 := bB BK227 hb; replace HB := am (below_step (be HB) hb); clear hb hbox hg; have hnb42 := NB227_228.out; have hnc42 := NB228_227.out; have hcz43_0 : w41.cell? ⟨gb227, 0, none⟩ = some (.int .i8 a0_0) := (blk_cell BK227.out 0).trans rfl; have hcz43_1 : w41.cell? ⟨gb227, 1, none⟩ = some (.int .i8 a0_1) := (blk_cell BK227.out 1).trans rfl; have hwz43 := lv28_at BK227.out; have haz43 := at_cells BK227.out; have hyz43 := BayAt28_of BK227.out; have hvz43 := lvv_of BK227.out; have hfz43_0 := blk_frozen BK227.out 0; have hfz43_1 := blk_frozen BK227.out 1; have hfz43_2 := blk_frozen BK227.out 2; obtain ⟨hcz44_0, hcz44_1, hcz44_2, hcz44_3, hcz44_4, hcz44_5, hfz44_0, hfz44_1, hfz44_2, hfz44_3, hfz44_4, hfz44_5⟩ := bx6 BK228) | ((with_reducible refine gate_callee (f := 167) rfl ?_); refine gL (some 8) Try.func167 #[.agg (csBay a0_0 a0_1 a0_2), .agg #[.int .i8 a1_0, .int .i8 a1_1]] ?_; (with_reducible refine (impl_isWater.calls a0_0 a0_1 a0_2 a1_0 a1_1 true _ A3.out).mono ?_); rintro e w45 ⟨rfl, hb⟩; refine ⟨_, rfl, ?_⟩; replace BK227 := bB BK227 hb; replace BK228 := bB BK228 hb; replace HB := am (below_step (be HB) hb); (try clear hb); (try clear hb2); (try clear hk); (try clear hi); obtain ⟨hcz46_0, hcz46_1, hcz46_2, hcz46_3, hcz46_4, hcz46_5, hfz46_0, hfz46_1, hfz46_2, hfz46_3, hfz46_4, hfz46_5⟩ := bx6 BK228))
      go_ret
      exact ⟨by first | rfl | (simp [errW_none, errW_some] <;> rfl) | (simp [*, errW_none, errW_some] <;> rfl), be HB⟩
    ·rw [if_neg c7] at H
     have c7b0 : decide (0 ≤ a1_3) = false := decide_eq_false c7
     clear c7
     obtain rfl := Option.some.inj H
     go_enter Try.func107, Try.ntmps107
     go_wp2_with (first | ((with_reducible refine gate_dst (N := 2) rfl ?_); refine bxe (N := 2) (cs := (csBay a0_0 a0_1 a0_2)) (t := 28) ?_; intro gb227 hg w47 hbox hb; have BK227 := am (hbox); have GW227 := am (gN hg (below_size (be HB))); have GE227 := am (gN hg (below_size (be HB))); replace HB := am (below_step (be HB) hb); clear hb hbox hg) | ((with_reducible refine gate_dst (N := 3) rfl ?_); refine bxe (N := 3) (cs := #[.int .i8 a1_0, .int .i8 a1_1, .int .i8 a1_2, .int .i8 a1_3, .int .i8 a1_4, .int .i8 a1_5]) (t := 38) ?_; intro gb228 hg w48 hbox hb; have BK228 := am (hbox); have GW228 := am (gN hg (below_size (be HB))); have GE228 := am (gN hg (below_size (be HB))); have NB227_228 := nL BK227 hg; have NB228_227 := nR BK227 hg; replace BK227 := bB BK227 hb; replace HB := am (below_step (be HB) hb); clear hb hbox hg; have hnb49 := NB227_228.out; have hnc49 := NB228_227.out; have hcz50_0 : w48.cell? ⟨gb227, 0, none⟩ = some (.int .i8 a0_0) := (blk_cell BK227.out 0).trans rfl; have hcz50_1 : w48.cell? ⟨gb227, 1, none⟩ = some (.int .i8 a0_1) := (blk_cell BK227.out 1).trans rfl; have hwz50 := lv28_at BK227.out; have haz50 := at_cells BK227.out; have hyz50 := BayAt28_of BK227.out; have hvz50 := lvv_of BK227.out; have hfz50_0 := blk_frozen BK227.out 0; have hfz50_1 := blk_frozen BK227.out 1; have hfz50_2 := blk_frozen BK227.out 2; obtain ⟨hcz51_0, hcz51_1, hcz51_2, hcz51_3, hcz51_4, hcz51_5, hfz51_0, hfz51_1, hfz51_2, hfz51_3, hfz51_4, hfz51_5⟩ := bx6 BK228) | ((with_reducible refine gate_callee (f := 167) rfl ?_); refine gL (some 8) Try.func167 #[.agg (csBay a0_0 a0_1 a0_2), .agg #[.int .i8 a1_0, .int .i8 a1_1]] ?_; (with_reducible refine (impl_isWater.calls a0_0 a0_1 a0_2 a1_0 a1_1 true _ A3.out).mono ?_); rintro e w52 ⟨rfl, hb⟩; refine ⟨_, rfl, ?_⟩; replace BK227 := bB BK227 hb; replace BK228 := bB BK228 hb; replace HB := am (below_step (be HB) hb); (try clear hb); (try clear hb2); (try clear hk); (try clear hi); obtain ⟨hcz53_0, hcz53_1, hcz53_2, hcz53_3, hcz53_4, hcz53_5, hfz53_0, hfz53_1, hfz53_2, hfz53_3, hfz53_4, hfz53_5⟩ := bx6 BK228))
     go_ret
     exact ⟨by first | rfl | (simp [errW_none, errW_some] <;> rfl) | (simp [*, errW_none, errW_some] <;> rfl), be HB⟩
   ·rw [if_neg c6] at H
    have c6b0 : decide (a1_2 ≤ 60) = false := decide_eq_false c6
    clear c6
    obtain rfl := Option.some.inj H
    go_enter Try.func107, Try.ntmps107
    go_wp2_with (first | ((with_reducible refine gate_dst (N := 2) rfl ?_); refine bxe (N := 2) (cs := (csBay a0_0 a0_1 a0_2)) (t := 28) ?_; intro gb227 hg w54 hbox hb; have BK227 := am (hbox); have GW227 := am (gN hg (below_size (be HB))); have GE227 := am (gN hg (below_size (be HB))); replace HB := am (below_step (be HB) hb); clear hb hbox hg) | ((with_reducible refine gate_dst (N := 3) rfl ?_); refine bxe (N := 3) (cs := #[.int .i8 a1_0, .int .i8 a1_1, .int .i8 a1_2, .int .i8 a1_3, .int .i8 a1_4, .int .i8 a1_5]) (t := 38) ?_; intro gb228 hg w55 hbox hb; have BK228 := am (hbox); have GW228 := am (gN hg (below_size (be HB))); have GE228 := am (gN hg (below_size (be HB))); have NB227_228 := nL BK227 hg; have NB228_227 := nR BK227 hg; replace BK227 := bB BK227 hb; replace HB := am (below_step (be HB) hb); clear hb hbox hg; have hnb56 := NB227_228.out; have hnc56 := NB228_227.out; have hcz57_0 : w55.cell? ⟨gb227, 0, none⟩ = some (.int .i8 a0_0) := (blk_cell BK227.out 0).trans rfl; have hcz57_1 : w55.cell? ⟨gb227, 1, none⟩ = some (.int .i8 a0_1) := (blk_cell BK227.out 1).trans rfl; have hwz57 := lv28_at BK227.out; have haz57 := at_cells BK227.out; have hyz57 := BayAt28_of BK227.out; have hvz57 := lvv_of BK227.out; have hfz57_0 := blk_frozen BK227.out 0; have hfz57_1 := blk_frozen BK227.out 1; have hfz57_2 := blk_frozen BK227.out 2; obtain ⟨hcz58_0, hcz58_1, hcz58_2, hcz58_3, hcz58_4, hcz58_5, hfz58_0, hfz58_1, hfz58_2, hfz58_3, hfz58_4, hfz58_5⟩ := bx6 BK228) | ((with_reducible refine gate_callee (f := 167) rfl ?_); refine gL (some 8) Try.func167 #[.agg (csBay a0_0 a0_1 a0_2), .agg #[.int .i8 a1_0, .int .i8 a1_1]] ?_; (with_reducible refine (impl_isWater.calls a0_0 a0_1 a0_2 a1_0 a1_1 true _ A3.out).mono ?_); rintro e w59 ⟨rfl, hb⟩; refine ⟨_, rfl, ?_⟩; replace BK227 := bB BK227 hb; replace BK228 := bB BK228 hb; replace HB := am (below_step (be HB) hb); (try clear hb); (try clear hb2); (try clear hk); (try clear hi); obtain ⟨hcz60_0, hcz60_1, hcz60_2, hcz60_3, hcz60_4, hcz60_5, hfz60_0, hfz60_1, hfz60_2, hfz60_3, hfz60_4, hfz60_5⟩ := bx6 BK228))
    go_ret
    exact ⟨by first | rfl | (simp [errW_none, errW_some] <;> rfl) | (simp [*, errW_none, errW_some] <;> rfl), be HB⟩
  ·rw [if_neg c5] at H
   have c5b0 : decide (1 ≤ a1_2) = false := decide_eq_false c5
   clear c5
   obtain rfl := Option.some.inj H
   go_enter Try.func107, Try.ntmps107
   go_wp2_with (first | ((with_reducible refine gate_dst (N := 2) rfl ?_); refine bxe (N := 2) (cs := (csBay a0_0 a0_1 a0_2)) (t := 28) ?_; intro gb227 hg w61 hbox hb; have BK227 := am (hbox); have GW227 := am (gN hg (below_size (be HB))); have GE227 := am (gN hg (below_size (be HB))); replace HB := am (below_step (be HB) hb); clear hb hbox hg) | ((with_reducible refine gate_dst (N := 3) rfl ?_); refine bxe (N := 3) (cs := #[.int .i8 a1_0, .int .i8 a1_1, .int .i8 a1_2, .int .i8 a1_3, .int .i8 a1_4, .int .i8 a1_5]) (t := 38) ?_; intro gb228 hg w62 hbox hb; have BK228 := am (hbox); have GW228 := am (gN hg (below_size (be HB))); have GE228 := am (gN hg (below_size (be HB))); have NB227_228 := nL BK227 hg; have NB228_227 := nR BK227 hg; replace BK227 := bB BK227 hb; replace HB := am (below_step (be HB) hb); clear hb hbox hg; have hnb63 := NB227_228.out; have hnc63 := NB228_227.out; have hcz64_0 : w62.cell? ⟨gb227, 0, none⟩ = some (.int .i8 a0_0) := (blk_cell BK227.out 0).trans rfl; have hcz64_1 : w62.cell? ⟨gb227, 1, none⟩ = some (.int .i8 a0_1) := (blk_cell BK227.out 1).trans rfl; have hwz64 := lv28_at BK227.out; have haz64 := at_cells BK227.out; have hyz64 := BayAt28_of BK227.out; have hvz64 := lvv_of BK227.out; have hfz64_0 := blk_frozen BK227.out 0; have hfz64_1 := blk_frozen BK227.out 1; have hfz64_2 := blk_frozen BK227.out 2; obtain ⟨hcz65_0, hcz65_1, hcz65_2, hcz65_3, hcz65_4, hcz65_5, hfz65_0, hfz65_1, hfz65_2, hfz65_3, hfz65_4, hfz65_5⟩ := bx6 BK228) | ((with_reducible refine gate_callee (f := 167) rfl ?_); refine gL (some 8) Try.func167 #[.agg (csBay a0_0 a0_1 a0_2), .agg #[.int .i8 a1_0, .int .i8 a1_1]] ?_; (with_reducible refine (impl_isWater.calls a0_0 a0_1 a0_2 a1_0 a1_1 true _ A3.out).mono ?_); rintro e w66 ⟨rfl, hb⟩; refine ⟨_, rfl, ?_⟩; replace BK227 := bB BK227 hb; replace BK228 := bB BK228 hb; replace HB := am (below_step (be HB) hb); (try clear hb); (try clear hb2); (try clear hk); (try clear hi); obtain ⟨hcz67_0, hcz67_1, hcz67_2, hcz67_3, hcz67_4, hcz67_5, hfz67_0, hfz67_1, hfz67_2, hfz67_3, hfz67_4, hfz67_5⟩ := bx6 BK228))
   go_ret
   exact ⟨by first | rfl | (simp [errW_none, errW_some] <;> rfl) | (simp [*, errW_none, errW_some] <;> rfl), be HB⟩
 ·replace c4 := Bool.eq_false_iff.mpr c4
  subst c4
  have H1 : (some false) = some r := by rw [if_neg (show ¬ (false = true) by decide)] at H; exact H
  clear H
  have H := H1
  clear H1
  obtain rfl := Option.some.inj H
  go_enter Try.func107, Try.ntmps107
  go_wp2_with (first | ((with_reducible refine gate_dst (N := 2) rfl ?_); refine bxe (N := 2) (cs := (csBay a0_0 a0_1 a0_2)) (t := 28) ?_; intro gb227 hg w68 hbox hb; have BK227 := am (hbox); have GW227 := am (gN hg (below_size (be HB))); have GE227 := am (gN hg (below_size (be HB))); replace HB := am (below_step (be HB) hb); clear hb hbox hg) | ((with_reducible refine gate_dst (N := 3) rfl ?_); refine bxe (N := 3) (cs := #[.int .i8 a1_0, .int .i8 a1_1, .int .i8 a1_2, .int .i8 a1_3, .int .i8 a1_4, .int .i8 a1_5]) (t := 38) ?_; intro gb228 hg w69 hbox hb; have BK228 := am (hbox); have GW228 := am (gN hg (below_size (be HB))); have GE228 := am (gN hg (below_size (be HB))); have NB227_228 := nL BK227 hg; have NB228_227 := nR BK227 hg; replace BK227 := bB BK227 hb; replace HB := am (below_step (be HB) hb); clear hb hbox hg; have hnb70 := NB227_228.out; have hnc70 := NB228_227.out; have hcz71_0 : w69.cell? ⟨gb227, 0, none⟩ = some (.int .i8 a0_0) := (blk_cell BK227.out 0).trans rfl; have hcz71_1 : w69.cell? ⟨gb227, 1, none⟩ = some (.int .i8 a0_1) := (blk_cell BK227.out 1).trans rfl; have hwz71 := lv28_at BK227.out; have haz71 := at_cells BK227.out; have hyz71 := BayAt28_of BK227.out; have hvz71 := lvv_of BK227.out; have hfz71_0 := blk_frozen BK227.out 0; have hfz71_1 := blk_frozen BK227.out 1; have hfz71_2 := blk_frozen BK227.out 2; obtain ⟨hcz72_0, hcz72_1, hcz72_2, hcz72_3, hcz72_4, hcz72_5, hfz72_0, hfz72_1, hfz72_2, hfz72_3, hfz72_4, hfz72_5⟩ := bx6 BK228) | ((with_reducible refine gate_callee (f := 167) rfl ?_); refine gL (some 8) Try.func167 #[.agg (csBay a0_0 a0_1 a0_2), .agg #[.int .i8 a1_0, .int .i8 a1_1]] ?_; (with_reducible refine (impl_isWater.calls a0_0 a0_1 a0_2 a1_0 a1_1 false _ A3.out).mono ?_); rintro e w73 ⟨rfl, hb⟩; refine ⟨_, rfl, ?_⟩; replace BK227 := bB BK227 hb; replace BK228 := bB BK228 hb; replace HB := am (below_step (be HB) hb); (try clear hb); (try clear hb2); (try clear hk); (try clear hi)))
  go_ret
  exact ⟨by first | rfl | (simp [errW_none, errW_some] <;> rfl) | (simp [*, errW_none, errW_some] <;> rfl), be HB⟩

/-! ### impl_ValidBoat: function 30 -/
def impl_ValidBoat.f (a0_0 : Int) (a0_1 : Int) (a0_2 : (Nat → Int)) (a1_0 : Int) (a1_1 : Int) (a1_2 : Int) (a1_3 : Int) (a1_4 : Int) (a1_5 : Int) : Option (Bool) := (impl_ValidBay.f a0_0 a0_1 a0_2).bind fun t232 => (if t232 = true then ((impl_isBoat.f a0_0 a0_1 a0_2 a1_0 a1_1 a1_2 a1_3 a1_4 a1_5).bind fun t233 => (some t233)) else (some false))
set_option maxHeartbeats 8000000 in
set_option maxRecDepth 100000 in
theorem impl_ValidBoat.calls (a0_0 : Int) (a0_1 : Int) (a0_2 : (Nat → Int)) (a1_0 : Int) (a1_1 : Int) (a1_2 : Int) (a1_3 : Int) (a1_4 : Int) (a1_5 : Int) (r : Bool) (w : World) (h : impl_ValidBoat.f a0_0 a0_1 a0_2 a1_0 a1_1 a1_2 a1_3 a1_4 a1_5 = some r) :
  Calls Try.prog 30 #[.agg (csBay a0_0 a0_1 a0_2), .agg #[.int .i8 a1_0, .int .i8 a1_1, .int .i8 a1_2, .int .i8 a1_3, .int .i8 a1_4, .int .i8 a1_5]] w fun e w' => e = .returned (.bool r) ∧ Below w.heap.size w w' := by
 have hu28 := Try.underlying28
 have hu38 := Try.underlying38
 have HB := am (Below.refl w.heap.size w)
 have H : ((impl_ValidBay.f a0_0 a0_1 a0_2).bind fun t232 => (if t232 = true then ((impl_isBoat.f a0_0 a0_1 a0_2 a1_0 a1_1 a1_2 a1_3 a1_4 a1_5).bind fun t233 => (some t233)) else (some false))) = some r := h
 clear h
 replace H := Option.bind_eq_some_iff.mp H
 obtain ⟨t232, A30, H⟩ := H
 try dsimp only at H
 have A3 := am A30
 clear A30
 by_cases c4 : t232 = true
 ·subst c4
  rw [if_pos rfl] at H
  replace H := Option.bind_eq_some_iff.mp H
  obtain ⟨t233, A50, H⟩ := H
  try dsimp only at H
  have A5 := am A50
  clear A50
  obtain rfl := Option.some.inj H
  go_enter Try.func30, Try.ntmps30
  go_wp2_with (first | ((with_reducible refine gate_dst (N := 2) rfl ?_); refine bxe (N := 2) (cs := (csBay a0_0 a0_1 a0_2)) (t := 28) ?_; intro gb230 hg w6 hbox hb; have BK230 := am (hbox); have GW230 := am (gN hg (below_size (be HB))); have GE230 := am (gN hg (below_size (be HB))); replace HB := am (below_step (be HB) hb); clear hb hbox hg) | ((with_reducible refine gate_dst (N := 3) rfl ?_); refine bxe (N := 3) (cs := #[.int .i8 a1_0, .int .i8 a1_1, .int .i8 a1_2, .int .i8 a1_3, .int .i8 a1_4, .int .i8 a1_5]) (t := 38) ?_; intro gb231 hg w7 hbox hb; have BK231 := am (hbox); have GW231 := am (gN hg (below_size (be HB))); have GE231 := am (gN hg (below_size (be HB))); have NB230_231 := nL BK230 hg; have NB231_230 := nR BK230 hg; replace BK230 := bB BK230 hb; replace HB := am (below_step (be HB) hb); clear hb hbox hg; have hnb8 := NB230_231.out; have hnc8 := NB231_230.out; have hcz9_0 : w7.cell? ⟨gb230, 0, none⟩ = some (.int .i8 a0_0) := (blk_cell BK230.out 0).trans rfl; have hcz9_1 : w7.cell? ⟨gb230, 1, none⟩ = some (.int .i8 a0_1) := (blk_cell BK230.out 1).trans rfl; have hwz9 := lv28_at BK230.out; have haz9 := at_cells BK230.out; have hyz9 := BayAt28_of BK230.out; have hvz9 := lvv_of BK230.out; have hfz9_0 := blk_frozen BK230.out 0; have hfz9_1 := blk_frozen BK230.out 1; have hfz9_2 := blk_frozen BK230.out 2) | ((with_reducible refine gate_callee (f := 27) rfl ?_); refine gL (some 6) Try.func27 #[.agg (csBay a0_0 a0_1 a0_2)] ?_; (with_reducible refine (impl_ValidBay.calls a0_0 a0_1 a0_2 true _ A3.out).mono ?_); rintro e w10 ⟨rfl, hb⟩; refine ⟨_, rfl, ?_⟩; replace BK230 := bB BK230 hb; replace BK231 := bB BK231 hb; replace HB := am (below_step (be HB) hb); (try clear hb); (try clear hb2); (try clear hk); (try clear hi); have hcz11_0 : w10.cell? ⟨gb230, 0, none⟩ = some (.int .i8 a0_0) := (blk_cell BK230.out 0).trans rfl; have hcz11_1 : w10.cell? ⟨gb230, 1, none⟩ = some (.int .i8 a0_1) := (blk_cell BK230.out 1).trans rfl; have hwz11 := lv28_at BK230.out; have haz11 := at_cells BK230.out; have hyz11 := BayAt28_of BK230.out; have hvz11 := lvv_of BK230.out; have hfz11_0 := blk_frozen BK230.out 0; have hfz11_1 := blk_frozen BK230.out 1; have hfz11_2 := blk_frozen BK230.out 2; obtain ⟨hcz12_0, hcz12_1, hcz12_2, hcz12_3, hcz12_4, hcz12_5, hfz12_0, hfz12_1, hfz12_2, hfz12_3, hfz12_4, hfz12_5⟩ := bx6 BK231) | (go_at_call 107; (with_reducible refine (impl_isBoat.calls a0_0 a0_1 a0_2 a1_0 a1_1 a1_2 a1_3 a1_4 a1_5 t233 _ A5.out).mono ?_); rintro e w13 ⟨rfl, hb⟩; replace BK230 := bB BK230 hb; replace BK231 := bB BK231 hb; replace HB := am (below_step (be HB) hb); (try clear hb); (try clear hb2); (try clear hk); (try clear hi)))
  go_ret
  exact ⟨by first | rfl | (simp [errW_none, errW_some] <;> rfl) | (simp [*, errW_none, errW_some] <;> rfl), be HB⟩
 ·replace c4 := Bool.eq_false_iff.mpr c4
  subst c4
  have H1 : (some false) = some r := by rw [if_neg (show ¬ (false = true) by decide)] at H; exact H
  clear H
  have H := H1
  clear H1
  obtain rfl := Option.some.inj H
  go_enter Try.func30, Try.ntmps30
  go_wp2_with (first | ((with_reducible refine gate_dst (N := 2) rfl ?_); refine bxe (N := 2) (cs := (csBay a0_0 a0_1 a0_2)) (t := 28) ?_; intro gb230 hg w14 hbox hb; have BK230 := am (hbox); have GW230 := am (gN hg (below_size (be HB))); have GE230 := am (gN hg (below_size (be HB))); replace HB := am (below_step (be HB) hb); clear hb hbox hg) | ((with_reducible refine gate_dst (N := 3) rfl ?_); refine bxe (N := 3) (cs := #[.int .i8 a1_0, .int .i8 a1_1, .int .i8 a1_2, .int .i8 a1_3, .int .i8 a1_4, .int .i8 a1_5]) (t := 38) ?_; intro gb231 hg w15 hbox hb; have BK231 := am (hbox); have GW231 := am (gN hg (below_size (be HB))); have GE231 := am (gN hg (below_size (be HB))); have NB230_231 := nL BK230 hg; have NB231_230 := nR BK230 hg; replace BK230 := bB BK230 hb; replace HB := am (below_step (be HB) hb); clear hb hbox hg; have hnb16 := NB230_231.out; have hnc16 := NB231_230.out; have hcz17_0 : w15.cell? ⟨gb230, 0, none⟩ = some (.int .i8 a0_0) := (blk_cell BK230.out 0).trans rfl; have hcz17_1 : w15.cell? ⟨gb230, 1, none⟩ = some (.int .i8 a0_1) := (blk_cell BK230.out 1).trans rfl; have hwz17 := lv28_at BK230.out; have haz17 := at_cells BK230.out; have hyz17 := BayAt28_of BK230.out; have hvz17 := lvv_of BK230.out; have hfz17_0 := blk_frozen BK230.out 0; have hfz17_1 := blk_frozen BK230.out 1; have hfz17_2 := blk_frozen BK230.out 2) | ((with_reducible refine gate_callee (f := 27) rfl ?_); refine gL (some 6) Try.func27 #[.agg (csBay a0_0 a0_1 a0_2)] ?_; (with_reducible refine (impl_ValidBay.calls a0_0 a0_1 a0_2 false _ A3.out).mono ?_); rintro e w18 ⟨rfl, hb⟩; refine ⟨_, rfl, ?_⟩; replace BK230 := bB BK230 hb; replace BK231 := bB BK231 hb; replace HB := am (below_step (be HB) hb); (try clear hb); (try clear hb2); (try clear hk); (try clear hi)))
  go_ret
  exact ⟨by first | rfl | (simp [errW_none, errW_some] <;> rfl) | (simp [*, errW_none, errW_some] <;> rfl), be HB⟩

/-! ### impl_afloat: function 150 -/
def impl_afloat.f (a0_0 : Int) (a0_1 : Int) (a0_2 : (Nat → Int)) (a1_0 : Int) (a1_1 : Int) (a1_2 : Int) (a1_3 : Int) (a1_4 : Int) (a1_5 : Int) (a2 : Int) : Option (Bool) := (impl_depth.f a0_0 a0_1 a0_2 a1_0 a1_1).bind fun t236 => (some (decide ((wrap64 (t236 + a2)) ≥ (wrap64 (a1_4)))))
def impl_afloat.T1 : Bool × List (List Nat × List Nat) := (true, [([], []), ([], []), ([1], [1]), ([0, 2], [0, 2]), ([], []), ([3, 4], [3, 4]), ([], []), ([6], [6]), ([7], [7]), ([5, 8], [5, 8]), ([9, 3, 0, 1, 2, 3, 4, 5, 6, 7, 8, 9], [9])])
def impl_afloat.B1 : List Nat := [0, 0, 2, 7, 0, 31, 0, 64, 192, 511, 1023]
theorem impl_afloat.tab1 : rtab .any (opsOf Try.f150 1) = impl_afloat.T1 := by kernel_rfl
theorem impl_afloat.bits1 : waitsOk impl_afloat.T1.2 impl_afloat.B1 = true := by kernel_rfl
set_option maxHeartbeats 8000000 in
set_option maxRecDepth 100000 in
theorem impl_afloat.calls (a0_0 : Int) (a0_1 : Int) (a0_2 : (Nat → Int)) (a1_0 : Int) (a1_1 : Int) (a1_2 : Int) (a1_3 : Int) (a1_4 : Int) (a1_5 : Int) (a2 : Int) (r : Bool) (w : World) (h : impl_afloat.f a0_0 a0_1 a0_2 a1_0 a1_1 a1_2 a1_3 a1_4 a1_5 a2 = some r) :
  Calls Try.prog 150 #[.agg (csBay a0_0 a0_1 a0_2), .agg #[.int .i8 a1_0, .int .i8 a1_1, .int .i8 a1_2, .int .i8 a1_3, .int .i8 a1_4, .int .i8 a1_5], .int .i64 a2] w fun e w' => e = .returned (.bool r) ∧ Below w.heap.size w w' := by
 have hu28 := Try.underlying28
 have hu38 := Try.underlying38
 have hu36 := Try.underlying36
 have HB := am (Below.refl w.heap.size w)
 have H : ((impl_depth.f a0_0 a0_1 a0_2 a1_0 a1_1).bind fun t236 => (some (decide ((wrap64 (t236 + a2)) ≥ (wrap64 (a1_4)))))) = some r := h
 clear h
 replace H := Option.bind_eq_some_iff.mp H
 obtain ⟨t236, A40, H⟩ := H
 try dsimp only at H
 have A4 := am A40
 clear A40
 obtain rfl := Option.some.inj H
 go_enter Try.func150, Try.ntmps150
 try go_wp2_with (first | ((with_reducible refine gate_dst (N := 3) rfl ?_); refine bxe (N := 3) (cs := (csBay a0_0 a0_1 a0_2)) (t := 28) ?_; intro gb234 hg w5 hbox hb; have BK234 := am (hbox); have GW234 := am (gN hg (below_size (be HB))); have GE234 := am (gN hg (below_size (be HB))); replace HB := am (below_step (be HB) hb); clear hb hbox hg) | ((with_reducible refine gate_dst (N := 4) rfl ?_); refine bxe (N := 4) (cs := #[.int .i8 a1_0, .int .i8 a1_1, .int .i8 a1_2, .int .i8 a1_3, .int .i8 a1_4, .int .i8 a1_5]) (t := 38) ?_; intro gb235 hg w6 hbox hb; have BK235 := am (hbox); have GW235 := am (gN hg (below_size (be HB))); have GE235 := am (gN hg (below_size (be HB))); have NB234_235 := nL BK234 hg; have NB235_234 := nR BK234 hg; replace BK234 := bB BK234 hb; replace HB := am (below_step (be HB) hb); clear hb hbox hg))
 have n0_ := am (blk_drew BK234.out)
 have n1_ := am (blk_drew BK235.out)
 have n2_ := am (below_drew1 HB.out)
 clear BK234
 clear BK235
 clear HB
 have BK234 := n0_
 have BK235 := n1_
 have HB := n2_
 clear n0_ n1_ n2_
 refine start_ (n := 11) (S := fun w' => w'.cell? ⟨gb234, 0, none⟩ = some (.int .i8 a0_0) ∧ w'.cell? ⟨gb234, 1, none⟩ = some (.int .i8 a0_1) ∧ atCells w' gb234 a0_2 ∧ BayAt28 w' gb234 ∧ lvv w' gb234 = .agg (csBay a0_0 a0_1 a0_2) ∧ w'.cell? ⟨gb235, 0, none⟩ = some (.int .i8 a1_0) ∧ w'.cell? ⟨gb235, 1, none⟩ = some (.int .i8 a1_1) ∧ w'.cell? ⟨gb235, 2, none⟩ = some (.int .i8 a1_2) ∧ w'.cell? ⟨gb235, 3, none⟩ = some (.int .i8 a1_3) ∧ w'.cell? ⟨gb235, 4, none⟩ = some (.int .i8 a1_4) ∧ w'.cell? ⟨gb235, 5, none⟩ = some (.int .i8 a1_5)) (ds := []) #[false, false, false, false, false, false, false, false, false, false, false] (by kernel_rfl) rfl rfl ⟨(blk_cell BK234.out 0).trans rfl, (blk_cell BK234.out 1).trans rfl, at_cells BK234.out, BayAt28_of BK234.out, lvv_of BK234.out, (blk_cell BK235.out 0).trans rfl, (blk_cell BK235.out 1).trans rfl, (blk_cell BK235.out 2).trans rfl, (blk_cell BK235.out 3).trans rfl, (blk_cell BK235.out 4).trans rfl, (blk_cell BK235.out 5).trans rfl⟩ (fun hHeld => ?_); refine with_tabW impl_afloat.tab1 impl_afloat.bits1 (fun HT_ HW_ => ?_)
 generalize w6.drew = w7 at BK234 BK235 HB hHeld ⊢
 refine pS (i := 1) (some 8) #[false, true, false, false, false, false, false, false, false, false, false] (any_of HT_.out (by kernel_rfl)) ?_
 refine pS (i := 4) (some 11) #[false, true, false, false, true, false, false, false, false, false, false] (any_of HT_.out (by kernel_rfl)) ?_
 refine pS (i := 6) (some 13) #[false, true, false, false, true, false, true, false, false, false, false] (any_of HT_.out (by kernel_rfl)) ?_
 refine tS (i := 0) (some 7) #[true, true, false, false, true, false, true, false, false, false, false] (take_ofW HT_.out HW_.out (by kernel_rfl)) hHeld ?_
 refine tS (i := 2) (some 9) #[true, true, true, false, true, false, true, false, false, false, false] (take_ofW HT_.out HW_.out (by kernel_rfl)) hHeld ?_
 refine tS (i := 7) (some 14) #[true, true, true, false, true, false, true, true, false, false, false] (take_ofW HT_.out HW_.out (by kernel_rfl)) hHeld ?_
 refine pS (i := 8) (some 15) #[true, true, true, false, true, false, true, true, true, false, false] (any_of HT_.out (by kernel_rfl)) ?_
 refine one_ (i := 3) (N := some 10) #[true, true, true, true, true, false, true, true, true, false, false] rfl rfl (one_of HT_.out (by kernel_rfl)) (by decide) (fun K hK => ?_)
 refine goes_ Try.func112 (by kernel_rfl) rfl #[.agg (csBay a0_0 a0_1 a0_2), .agg #[.int .i8 a1_0, .int .i8 a1_1]] (by rfl) rfl rfl (by (try simp only [List.map_toArray, List.map_cons, List.map_nil]); first | done | rfl | (simp only [List.length_drop, List.length_take]; rfl)) ?_
 with_reducible refine (impl_depth.calls a0_0 a0_1 a0_2 a1_0 a1_1 t236 _ A4.out).mono ?_
 rintro e w8 ⟨rfl, hb⟩
 refine ⟨_, rfl, ?_⟩
 have n0_ := bB BK234 hb
 have n1_ := bB BK235 hb
 have n2_ := am (below_step (be HB) hb)
 clear BK234
 clear BK235
 clear HB
 have BK234 := n0_
 have BK235 := n1_
 have HB := n2_
 clear n0_ n1_ n2_
 (try clear hb)
 (try clear hb2)
 (try clear hk)
 (try clear hi)
 refine hK.out _ _ ⟨(blk_cell BK234.out 0).trans rfl, (blk_cell BK234.out 1).trans rfl, at_cells BK234.out, BayAt28_of BK234.out, lvv_of BK234.out, (blk_cell BK235.out 0).trans rfl, (blk_cell BK235.out 1).trans rfl, (blk_cell BK235.out 2).trans rfl, (blk_cell BK235.out 3).trans rfl, (blk_cell BK235.out 4).trans rfl, (blk_cell BK235.out 5).trans rfl⟩ (fun hHeld => ?_)
 clear hK K
 refine norm_ (a' := ?_) ?_ ?_
 rotate_left
 ·show Act.put _ (some 10) _ = _
  simp only [Act.put, List.setIfInBounds_toArray, List.set_cons_zero, List.set_cons_succ, i64_w, i32_w]
  rfl
 refine pS (i := 5) (some 12) #[true, true, true, true, true, true, true, true, true, false, false] (any_of HT_.out (by kernel_rfl)) ?_
 refine pS (i := 9) (some 16) #[true, true, true, true, true, true, true, true, true, true, false] (any_of HT_.out (by kernel_rfl)) ?_
 refine pS (i := 10) (some 6) #[true, true, true, true, true, true, true, true, true, true, true] (any_of HT_.out (by kernel_rfl)) ?_
 refine done_ (done_of HT_.out (by kernel_rfl)) ?_
 try go_wp2
 go_ret
 exact ⟨by first | rfl | (simp [errW_none, errW_some] <;> rfl) | (simp [*, errW_none, errW_some] <;> rfl), be HB⟩

/-! ### impl_span: function 149 -/
def impl_span.f (l0 : List (S103)) : Option (Int × Int) := if 0 < (l0.length : Int) then (if 0 ≤ (wrap64 ((l0.length : Int) - 1)) then (if (wrap64 ((l0.length : Int) - 1)) < (l0.length : Int) then (some (wrap64 ((rd_T103 l0 0).f0), wrap64 ((rd_T103 l0 (wrap64 ((l0.length : Int) - 1))).f0))) else (none)) else (none)) else (none)
set_option maxHeartbeats 8000000 in
set_option maxRecDepth 100000 in
theorem impl_span.calls (A0 : Option Addr) (c0 : Nat) (l0 : List (S103)) (r1 : Int) (r2 : Int) (w : World) (hr0 : Kd.C k103 w A0 l0.length l0) (hc0 : l0.length ≤ c0) (h : impl_span.f l0 = some (r1, r2)) :
  Calls Try.prog 149 #[.slice A0 l0.length c0] w fun e w' => e = .returned (.tuple #[.int .i64 r1, .int .i64 r2]) ∧ Drawn0 w w' := by
 have HR0 := am hr0
 have HC0 := am hc0
 clear hr0 hc0
 have H : (if 0 < (l0.length : Int) then (if 0 ≤ (wrap64 ((l0.length : Int) - 1)) then (if (wrap64 ((l0.length : Int) - 1)) < (l0.length : Int) then (some (wrap64 ((rd_T103 l0 0).f0), wrap64 ((rd_T103 l0 (wrap64 ((l0.length : Int) - 1))).f0))) else (none)) else (none)) else (none)) = some (r1, r2) := h
 clear h
 by_cases c2 : 0 < (l0.length : Int)
 ·rw [if_pos c2] at H
  have c2b0 : decide (0 < (l0.length : Int)) = true := decide_eq_true c2
  have c2b1 : decide (0 < l0.length) = true := decide_eq_true (by omega)
  clear c2
  obtain ⟨ji3, hji3⟩ : ∃ j_ : Int, (wrap64 ((l0.length : Int) - 1)) = j_ := ⟨_, rfl⟩
  replace H : (if 0 ≤ (ji3) then (if (ji3) < (l0.length : Int) then (some (wrap64 ((rd_T103 l0 0).f0), wrap64 ((rd_T103 l0 (ji3)).f0))) else (none)) else (none)) = some (r1, r2) := by first | (rw [hji3] at H; exact H) | (simp only [hji3] at H ⊢; exact H)
  have hji3w : (IntKind.i64.wrap ((l0.length : Int) - 1)) = ji3 := (i64_w _).trans hji3
  by_cases c4 : 0 ≤ (ji3)
  ·rw [if_pos c4] at H
   have c4b0 : decide (0 ≤ (ji3)) = true := decide_eq_true c4
   have c4b1 : 0 ≤ (ji3) := c4
   clear c4
   by_cases c5 : (ji3) < (l0.length : Int)
   ·rw [if_pos c5] at H
    have c5b0 : decide ((ji3) < (l0.length : Int)) = true := decide_eq_true c5
    clear c5
    simp only [Option.some.injEq, Prod.mk.injEq] at H
    obtain ⟨rfl, rfl⟩ := H
    have p237 : 0 ≤ (0 : Int) := (by omega)
    have q237 : 0 < (l0.length : Int) := of_decide_eq_true (by first | (with_reducible assumption) | assumption)
    obtain ⟨ad237, e237, hx237_0, hx237_1⟩ := at_T103 HR0.out 0 p237 q237
    cases e237
    have qi237 : (0 < l0.length) = True := eq_true (by omega)
    (try rw [show ((0 : Int)).toNat = 0 from rfl] at hx237_0)
    (try rw [show 0 * 2 = 0 from rfl] at hx237_0)
    (try rw [Addr.add_zero'] at hx237_0)
    (try rw [show ((0 : Int)).toNat = 0 from rfl] at hx237_1)
    (try rw [show 0 * 2 = 0 from rfl] at hx237_1)
    (try rw [Addr.add_zero'] at hx237_1)
    replace p237 := eq_true p237
    replace q237 := eq_true q237
    have p238 : 0 ≤ ((ji3) : Int) := of_decide_eq_true (by first | (with_reducible assumption) | assumption)
    have q238 : (ji3) < (l0.length : Int) := of_decide_eq_true (by first | (with_reducible assumption) | assumption)
    obtain ⟨ad238, e238, hx238_0, hx238_1⟩ := at_T103 HR0.out (ji3) p238 q238
    obtain rfl : ad237 = ad238 := (by injection e238)
    replace p238 := eq_true p238
    replace q238 := eq_true q238
    go_enter Try.func149, Try.ntmps149
    go_wp2
    repeat (go_quiet (fail); try go_wp2)
    go_ret2
    exact ⟨by first | rfl | (simp; done) | (simp only [← hji3] <;> (first | rfl | simp)) | (simp [*]; done), by repeat (first | exact Drawn0.refl _ | apply Drawn0.step)⟩
   ·rw [if_neg c5] at H
    exact absurd H (by simp)
  ·rw [if_neg c4] at H
   exact absurd H (by simp)
 ·rw [if_neg c2] at H
  exact absurd H (by simp)

/-! ### impl_part: function 176 -/
def impl_part.l0 : Nat → List (S103) → Int → Int → Option (Int × Int × Int)
 | 0, _, _, _ => none
 | k + 1, x0, x1, x7 => if 0 ≤ (wrap64 (x7 + 1)) then (if (wrap64 (x7 + 1)) < (x0.length : Int) then (if (wrap64 ((rd_T103 x0 (wrap64 (x7 + 1))).f0)) ≤ x1 then (if (wrap64 (x7 + 2)) < (x0.length : Int) then (impl_part.l0 k x0 x1 (wrap64 (x7 + 1))) else (if 0 ≤ x7 then (if x7 < (x0.length : Int) then (if (wrap64 ((wrap64 ((rd_T103 x0 (wrap64 (x7 + 1))).f0)) - (wrap64 ((rd_T103 x0 x7).f0)))) = 0 then (none) else (some (x7, wrap64 (Int.tdiv (wrap64 (6 * (wrap64 (x1 - (wrap64 ((rd_T103 x0 x7).f0)))))) (wrap64 ((wrap64 ((rd_T103 x0 (wrap64 (x7 + 1))).f0)) - (wrap64 ((rd_T103 x0 x7).f0))))), Int.tmod (wrap64 (6 * (wrap64 (x1 - (wrap64 ((rd_T103 x0 x7).f0)))))) (wrap64 ((wrap64 ((rd_T103 x0 (wrap64 (x7 + 1))).f0)) - (wrap64 ((rd_T103 x0 x7).f0))))))) else (none)) else (none))) else (if 0 ≤ x7 then (if x7 < (x0.length : Int) then (if (wrap64 ((wrap64 ((rd_T103 x0 (wrap64 (x7 + 1))).f0)) - (wrap64 ((rd_T103 x0 x7).f0)))) = 0 then (none) else (some (x7, wrap64 (Int.tdiv (wrap64 (6 * (wrap64 (x1 - (wrap64 ((rd_T103 x0 x7).f0)))))) (wrap64 ((wrap64 ((rd_T103 x0 (wrap64 (x7 + 1))).f0)) - (wrap64 ((rd_T103 x0 x7).f0))))), Int.tmod (wrap64 (6 * (wrap64 (x1 - (wrap64 ((rd_T103 x0 x7).f0)))))) (wrap64 ((wrap64 ((rd_T103 x0 (wrap64 (x7 + 1))).f0)) - (wrap64 ((rd_T103 x0 x7).f0))))))) else (none)) else (none))) else (none)) else (none)
def impl_part.f (k : Nat) (l0 : List (S103)) (a1 : Int) : Option (Int × Int × Int) := impl_part.l0 k l0 a1 0
set_option maxHeartbeats 8000000 in
set_option maxRecDepth 100000 in
theorem impl_part.calls (k : Nat) (A0 : Option Addr) (c0 : Nat) (l0 : List (S103)) (a1 : Int) (r1 : Int) (r2 : Int) (r3 : Int) (w : World) (hr0 : Kd.C k103 w A0 l0.length l0) (hc0 : l0.length ≤ c0) (h : impl_part.f k l0 a1 = some (r1, r2, r3)) :
  Calls Try.prog 176 #[.slice A0 l0.length c0, .int .i64 a1] w fun e w' => e = .returned (.tuple #[.int .i64 r1, .int .i64 r2, .int .i64 r3]) ∧ Drawn0 w w' := by
 have HR0 := am hr0
 have HC0 := am hc0
 clear hr0 hc0
 have H : (impl_part.l0 k l0 a1 0) = some (r1, r2, r3) := h
 clear h
 have H' := am H
 clear H
 go_enter Try.func176, Try.ntmps176
 go_wp2
 repeat (go_quiet (fail); try go_wp2)
 go_loopg [7] k (fun kq v7 w' => ∃ (x7_1 : Int), v7 = .int .i64 x7_1 ∧ Aside0 (impl_part.l0 kq l0 a1 x7_1 = some (r1, r2, r3)) ∧ Aside0 (kq ≤ k) ∧ Drawn0 w w')
 case atStart => exact ⟨(0), vv, H', ⟨Nat.le_refl _⟩, by repeat (first | exact Drawn0.refl _ | apply Drawn0.step)⟩
 case round =>
  clear H'
  try clear c1
  try clear p2
  obtain ⟨x7_1, rfl, HA, HK1, ⟨m1, rfl⟩⟩ := hrel
  cases gk with
  | zero => exact absurd HA.out (by simp [impl_part.l0])
  | succ k1 =>
   have H := HA.out
   clear HA
   simp only [impl_part.l0] at H
   obtain ⟨ji3, hji3⟩ : ∃ j_ : Int, (wrap64 (x7_1 + 1)) = j_ := ⟨_, rfl⟩
   replace H : (if 0 ≤ (ji3) then (if (ji3) < (l0.length : Int) then (if (wrap64 ((rd_T103 l0 (ji3)).f0)) ≤ a1 then (if (wrap64 (x7_1 + 2)) < (l0.length : Int) then (impl_part.l0 k1 l0 a1 ji3) else (if 0 ≤ x7_1 then (if x7_1 < (l0.length : Int) then (if (wrap64 ((wrap64 ((rd_T103 l0 (ji3)).f0)) - (wrap64 ((rd_T103 l0 x7_1).f0)))) = 0 then (none) else (some (x7_1, wrap64 (Int.tdiv (wrap64 (6 * (wrap64 (a1 - (wrap64 ((rd_T103 l0 x7_1).f0)))))) (wrap64 ((wrap64 ((rd_T103 l0 (ji3)).f0)) - (wrap64 ((rd_T103 l0 x7_1).f0))))), Int.tmod (wrap64 (6 * (wrap64 (a1 - (wrap64 ((rd_T103 l0 x7_1).f0)))))) (wrap64 ((wrap64 ((rd_T103 l0 (ji3)).f0)) - (wrap64 ((rd_T103 l0 x7_1).f0))))))) else (none)) else (none))) else (if 0 ≤ x7_1 then (if x7_1 < (l0.length : Int) then (if (wrap64 ((wrap64 ((rd_T103 l0 (ji3)).f0)) - (wrap64 ((rd_T103 l0 x7_1).f0)))) = 0 then (none) else (some (x7_1, wrap64 (Int.tdiv (wrap64 (6 * (wrap64 (a1 - (wrap64 ((rd_T103 l0 x7_1).f0)))))) (wrap64 ((wrap64 ((rd_T103 l0 (ji3)).f0)) - (wrap64 ((rd_T103 l0 x7_1).f0))))), Int.tmod (wrap64 (6 * (wrap64 (a1 - (wrap64 ((rd_T103 l0 x7_1).f0)))))) (wrap64 ((wrap64 ((rd_T103 l0 (ji3)).f0)) - (wrap64 ((rd_T103 l0 x7_1).f0))))))) else (none)) else (none))) else (none)) else (none)) = some (r1, r2, r3) := by first | (rw [hji3] at H; exact H) | (simp only [hji3] at H ⊢; exact H)
   have hji3w : (IntKind.i64.wrap (x7_1 + 1)) = ji3 := (i64_w _).trans hji3
   by_cases c4 : 0 ≤ (ji3)
   ·rw [if_pos c4] at H
    have c4b0 : decide (0 ≤ (ji3)) = true := decide_eq_true c4
    have c4b1 : 0 ≤ (ji3) := c4
    clear c4
    by_cases c5 : (ji3) < (l0.length : Int)
    ·rw [if_pos c5] at H
     have c5b0 : decide ((ji3) < (l0.length : Int)) = true := decide_eq_true c5
     clear c5
     by_cases c6 : (wrap64 ((rd_T103 l0 (ji3)).f0)) ≤ a1
     ·rw [if_pos c6] at H
      have c6b0 : decide ((wrap64 ((rd_T103 l0 (ji3)).f0)) ≤ a1) = true := decide_eq_true c6
      clear c6
      by_cases c7 : (wrap64 (x7_1 + 2)) < (l0.length : Int)
      ·rw [if_pos c7] at H
       have c7b0 : decide ((wrap64 (x7_1 + 2)) < (l0.length : Int)) = true := decide_eq_true c7
       clear c7
       have H' := am H
       clear H
       have p239 : 0 ≤ ((ji3) : Int) := of_decide_eq_true (by first | (with_reducible assumption) | assumption)
       have q239 : (ji3) < (l0.length : Int) := of_decide_eq_true (by first | (with_reducible assumption) | assumption)
       obtain ⟨ad239, e239, hx239_0, hx239_1⟩ := at_T103 HR0.out (ji3) p239 q239
       cases e239
       replace p239 := eq_true p239
       replace q239 := eq_true q239
       go_wp2
       repeat (go_quiet (fail); try go_wp2)
       go_roundg k1
       case measure => have := HK1.out; omega
       case rel => exact ⟨(ji3), (by first | rfl | (simp; done) | (simp only [← hji3] <;> (first | rfl | simp)) | (simp [*]; done)), H', ⟨by have := HK1.out; omega⟩, by repeat (first | exact Drawn0.refl _ | apply Drawn0.step)⟩
      ·rw [if_neg c7] at H
       have c7b0 : decide ((wrap64 (x7_1 + 2)) < (l0.length : Int)) = false := decide_eq_false c7
       clear c7
       by_cases c8 : 0 ≤ x7_1
       ·rw [if_pos c8] at H
        have c8b0 : decide (0 ≤ x7_1) = true := decide_eq_true c8
        have c8b1 : 0 ≤ x7_1 := c8
        clear c8
        by_cases c9 : x7_1 < (l0.length : Int)
        ·rw [if_pos c9] at H
         have c9b0 : decide (x7_1 < (l0.length : Int)) = true := decide_eq_true c9
         clear c9
         by_cases c10 : (wrap64 ((wrap64 ((rd_T103 l0 (ji3)).f0)) - (wrap64 ((rd_T103 l0 x7_1).f0)))) = 0
         ·rw [if_pos c10] at H
          exact absurd H (by simp)
         ·rw [if_neg c10] at H
          have c10b0 : ((wrap64 ((wrap64 ((rd_T103 l0 (ji3)).f0)) - (wrap64 ((rd_T103 l0 x7_1).f0)))) == 0) = false := beq_eq_false_iff_ne.mpr c10
          have c10b1 : ((wrap64 ((wrap64 ((rd_T103 l0 (ji3)).f0)) - (wrap64 ((rd_T103 l0 x7_1).f0)))) != 0) = true := bne_iff_ne.mpr c10
          simp only [Option.some.injEq, Prod.mk.injEq] at H
          obtain ⟨rfl, rfl, rfl⟩ := H
          have p239 : 0 ≤ ((ji3) : Int) := of_decide_eq_true (by first | (with_reducible assumption) | assumption)
          have q239 : (ji3) < (l0.length : Int) := of_decide_eq_true (by first | (with_reducible assumption) | assumption)
          obtain ⟨ad239, e239, hx239_0, hx239_1⟩ := at_T103 HR0.out (ji3) p239 q239
          cases e239
          replace p239 := eq_true p239
          replace q239 := eq_true q239
          have p240 : 0 ≤ (x7_1 : Int) := of_decide_eq_true (by first | (with_reducible assumption) | assumption)
          have q240 : x7_1 < (l0.length : Int) := of_decide_eq_true (by first | (with_reducible assumption) | assumption)
          obtain ⟨ad240, e240, hx240_0, hx240_1⟩ := at_T103 HR0.out x7_1 p240 q240
          obtain rfl : ad239 = ad240 := (by injection e240)
          replace p240 := eq_true p240
          replace q240 := eq_true q240
          have p241 : 0 ≤ ((ji3) : Int) := of_decide_eq_true (by first | (with_reducible assumption) | assumption)
          have q241 : (ji3) < (l0.length : Int) := of_decide_eq_true (by first | (with_reducible assumption) | assumption)
          obtain ⟨ad241, e241, hx241_0, hx241_1⟩ := at_T103 HR0.out (ji3) p241 q241
          obtain rfl : ad239 = ad241 := (by injection e241)
          replace p241 := eq_true p241
          replace q241 := eq_true q241
          go_wp2
          repeat (go_quiet (fail); try go_wp2)
          go_ret3
          exact ⟨by first | rfl | (simp; done) | (simp only [← hji3] <;> (first | rfl | simp)) | (simp [*]; done), by repeat (first | exact Drawn0.refl _ | apply Drawn0.step)⟩
        ·rw [if_neg c9] at H
         exact absurd H (by simp)
       ·rw [if_neg c8] at H
        exact absurd H (by simp)
     ·rw [if_neg c6] at H
      have c6b0 : decide ((wrap64 ((rd_T103 l0 (ji3)).f0)) ≤ a1) = false := decide_eq_false c6
      clear c6
      by_cases c11 : 0 ≤ x7_1
      ·rw [if_pos c11] at H
       have c11b0 : decide (0 ≤ x7_1) = true := decide_eq_true c11
       have c11b1 : 0 ≤ x7_1 := c11
       clear c11
       by_cases c12 : x7_1 < (l0.length : Int)
       ·rw [if_pos c12] at H
        have c12b0 : decide (x7_1 < (l0.length : Int)) = true := decide_eq_true c12
        clear c12
        by_cases c13 : (wrap64 ((wrap64 ((rd_T103 l0 (ji3)).f0)) - (wrap64 ((rd_T103 l0 x7_1).f0)))) = 0
        ·rw [if_pos c13] at H
         exact absurd H (by simp)
        ·rw [if_neg c13] at H
         have c13b0 : ((wrap64 ((wrap64 ((rd_T103 l0 (ji3)).f0)) - (wrap64 ((rd_T103 l0 x7_1).f0)))) == 0) = false := beq_eq_false_iff_ne.mpr c13
         have c13b1 : ((wrap64 ((wrap64 ((rd_T103 l0 (ji3)).f0)) - (wrap64 ((rd_T103 l0 x7_1).f0)))) != 0) = true := bne_iff_ne.mpr c13
         simp only [Option.some.injEq, Prod.mk.injEq] at H
         obtain ⟨rfl, rfl, rfl⟩ := H
         have p239 : 0 ≤ ((ji3) : Int) := of_decide_eq_true (by first | (with_reducible assumption) | assumption)
         have q239 : (ji3) < (l0.length : Int) := of_decide_eq_true (by first | (with_reducible assumption) | assumption)
         obtain ⟨ad239, e239, hx239_0, hx239_1⟩ := at_T103 HR0.out (ji3) p239 q239
         cases e239
         replace p239 := eq_true p239
         replace q239 := eq_true q239
         have p242 : 0 ≤ (x7_1 : Int) := of_decide_eq_true (by first | (with_reducible assumption) | assumption)
         have q242 : x7_1 < (l0.length : Int) := of_decide_eq_true (by first | (with_reducible assumption) | assumption)
         obtain ⟨ad242, e242, hx242_0, hx242_1⟩ := at_T103 HR0.out x7_1 p242 q242
         obtain rfl : ad239 = ad242 := (by injection e242)
         replace p242 := eq_true p242
         replace q242 := eq_true q242
         have p243 : 0 ≤ ((ji3) : Int) := of_decide_eq_true (by first | (with_reducible assumption) | assumption)
         have q243 : (ji3) < (l0.length : Int) := of_decide_eq_true (by first | (with_reducible assumption) | assumption)
         obtain ⟨ad243, e243, hx243_0, hx243_1⟩ := at_T103 HR0.out (ji3) p243 q243
         obtain rfl : ad239 = ad243 := (by injection e243)
         replace p243 := eq_true p243
         replace q243 := eq_true q243
         go_wp2
         repeat (go_quiet (fail); try go_wp2)
         go_ret3
         exact ⟨by first | rfl | (simp; done) | (simp only [← hji3] <;> (first | rfl | simp)) | (simp [*]; done), by repeat (first | exact Drawn0.refl _ | apply Drawn0.step)⟩
       ·rw [if_neg c12] at H
        exact absurd H (by simp)
      ·rw [if_neg c11] at H
       exact absurd H (by simp)
    ·rw [if_neg c5] at H
     exact absurd H (by simp)
   ·rw [if_neg c4] at H
    exact absurd H (by simp)

/-! ### impl_twelfths: function 177 -/
def impl_twelfths.f  : Option (List Int) := some (([1, 2, 3, 3, 2, 1] : List Int))
set_option maxHeartbeats 8000000 in
set_option maxRecDepth 100000 in
theorem impl_twelfths.calls  (r : List Int) (w : World) (h : impl_twelfths.f  = some r) :
  Calls Try.prog 177 #[] w fun e w' => ∃ v0_ : Value, e = .returned (v0_) ∧ Kd.R (Kd.int .i64) 2 w' w.heap.size (fun _ => True) v0_ r ∧ Below w.heap.size w w' := by
 have HB := am (Below.refl w.heap.size w)
 have H : (some (([1, 2, 3, 3, 2, 1] : List Int))) = some r := h
 clear h
 obtain ⟨y244, hy244⟩ : ∃ y_ : List Int, y_ = (([1, 2, 3, 3, 2, 1] : List Int)) := ⟨_, rfl⟩
 replace H : (some y244) = some r := by first | (rw [hy244]; with_reducible exact H) | (have H2_ := (Option.bind_some _ _).symm.trans H; rw [hy244]; with_reducible exact H2_) | (have H2_ := (Option.bind_some _ _).symm.trans H; with_reducible exact H2_) | with_reducible exact H | (rw [hy244]; exact H) | exact H
 have Ny244 := am hy244
 clear hy244
 obtain rfl := Option.some.inj H
 go_enter Try.func177, Try.ntmps177
 go_wp2_with (first | ((with_reducible refine gate_dst (N := 1) rfl ?_); refine Kd.R_lit (Kd.int .i64) _ 2 ?hg (N := 1) ?hd (xs := ([1, 2, 3, 3, 2, 1] : List Int)) (inner := [.int .i64 1, .int .i64 2, .int .i64 3, .int .i64 3, .int .i64 2, .int .i64 1]) (ok := fun _ => True) (okp := fun _ => True) ?hr ?hp (fun _ hk => hk) trivial (Below.refl _ _) (Nat.le_refl _) (by simp) ?_; (case hd => rfl); (case hg => rfl); (case hr => first | (go_simp; done) | (go_simp; rfl)); (case hp => exact (Reps.one (show Kd.M (Kd.int .i64) _ _ _ 1 [.int .i64 1] from rfl) (Reps.one (show Kd.M (Kd.int .i64) _ _ _ 2 [.int .i64 2] from rfl) (Reps.one (show Kd.M (Kd.int .i64) _ _ _ 3 [.int .i64 3] from rfl) (Reps.one (show Kd.M (Kd.int .i64) _ _ _ 3 [.int .i64 3] from rfl) (Reps.one (show Kd.M (Kd.int .i64) _ _ _ 2 [.int .i64 2] from rfl) (Reps.one (show Kd.M (Kd.int .i64) _ _ _ 1 [.int .i64 1] from rfl) (Reps.none _ _)))))))); intro v245 w1 ho2 hb hg_ hnew_; clear hg_ hnew_; (first | rw [← Ny244.out] at ho2 | (simp only [Int.reduceToNat] at ho2; rw [← Ny244.out] at ho2)); have HO246 := am (Kd.R_lower ho2 (below_size (be HB))); replace HB := am (below_step (be HB) hb); clear hb ho2))
 go_ret
 exact ⟨_, by first | rfl | (simp [errW_none, errW_some] <;> rfl) | (simp [*, errW_none, errW_some] <;> rfl), by (with_reducible repeat (first | apply Kd.R_alloc | apply Kd.R_drewN | apply Kd.R_drew)); exact HO246.out, be HB⟩

end Go.Proofs.Ytcollbifdfhfoaa.PFnExactIsAfloat
