-- Written by a program out of this seat's translation (functions, and that the code comes to them).
import Derived.Test.YtcollbifdfhfoaaPFnExactGreedyBoatsx0
import Derived.Test.YtcollbifdfhfoaaPFnExactGreedyBoatsx1
import Derived.Test.YtcollbifdfhfoaaPFnExactGreedyBoatsx7
namespace Go.Proofs.Ytcollbifdfhfoaa.PFnExactGreedyBoats
open Go.RowKit Go.Proofs.YtcollbifdfhfoaaW.PrintWords Go.Proofs.YtcollbifdfhfoaaW.PrintLast Go.Proofs.YtcollbifdfhfoaaW.PrintMore
attribute [local go_sem] max2_int min2_int max_two min_two max_three min_three max_four min_four   -- for this text's walks alone
open Go.Proofs.Ytcollbifdfhfoaa.Bay Go.Proofs.Ytcollbifdfhfoaa.Short
attribute [local go_sem ↓] lv26_eq lv28_eq
attribute [local go_sem] lvv_set lvv_drewN lvv_drew lv26_run BayAt26_set BayAt26_drewN BayAt26_drew lv28_run BayAt28_set BayAt28_drewN BayAt28_drew
set_option linter.unusedVariables false
set_option linter.unusedSimpArgs false

attribute [local go_sem high] eqA36
/-! ### impl_far: function 171 -/
def impl_far.f (a0_0 : Int) (a0_1 : Int) (a1_0 : Int) (a1_1 : Int) : Option (Int) := some (wrap64 ((wrap64 ((wrap64 ((wrap64 (a0_0)) - (wrap64 (a1_0)))) * (wrap64 ((wrap64 (a0_0)) - (wrap64 (a1_0)))))) + (wrap64 ((wrap64 ((wrap64 (a0_1)) - (wrap64 (a1_1)))) * (wrap64 ((wrap64 (a0_1)) - (wrap64 (a1_1))))))))
set_option maxHeartbeats 8000000 in
set_option maxRecDepth 100000 in
theorem impl_far.calls (a0_0 : Int) (a0_1 : Int) (a1_0 : Int) (a1_1 : Int) (r : Int) (w : World) (h : impl_far.f a0_0 a0_1 a1_0 a1_1 = some r) :
  Calls Try.prog 171 #[.agg #[.int .i8 a0_0, .int .i8 a0_1], .agg #[.int .i8 a1_0, .int .i8 a1_1]] w fun e w' => e = .returned (.int .i64 r) ∧ Below w.heap.size w w' := by
 have hu36 := Try.underlying36
 have HB := am (Below.refl w.heap.size w)
 have H : (some (wrap64 ((wrap64 ((wrap64 ((wrap64 (a0_0)) - (wrap64 (a1_0)))) * (wrap64 ((wrap64 (a0_0)) - (wrap64 (a1_0)))))) + (wrap64 ((wrap64 ((wrap64 (a0_1)) - (wrap64 (a1_1)))) * (wrap64 ((wrap64 (a0_1)) - (wrap64 (a1_1))))))))) = some r := h
 clear h
 obtain rfl := Option.some.inj H
 go_enter Try.func171, Try.ntmps171
 go_wp2_with (first | ((with_reducible refine gate_dst (N := 2) rfl ?_); refine bxe (N := 2) (cs := #[.int .i8 a0_0, .int .i8 a0_1]) (t := 36) ?_; intro gb293 hg w3 hbox hb; have BK293 := am (hbox); have GW293 := am (gN hg (below_size (be HB))); have GE293 := am (gN hg (below_size (be HB))); replace HB := am (below_step (be HB) hb); clear hb hbox hg) | ((with_reducible refine gate_dst (N := 3) rfl ?_); refine bxe (N := 3) (cs := #[.int .i8 a1_0, .int .i8 a1_1]) (t := 36) ?_; intro gb294 hg w4 hbox hb; have BK294 := am (hbox); have GW294 := am (gN hg (below_size (be HB))); have GE294 := am (gN hg (below_size (be HB))); have NB293_294 := nL BK293 hg; have NB294_293 := nR BK293 hg; replace BK293 := bB BK293 hb; replace HB := am (below_step (be HB) hb); clear hb hbox hg; have hnb5 := NB293_294.out; have hnc5 := NB294_293.out; obtain ⟨hcz6_0, hcz6_1, hfz6_0, hfz6_1⟩ := bx2 BK293; obtain ⟨hcz7_0, hcz7_1, hfz7_0, hfz7_1⟩ := bx2 BK294))
 repeat (go_quiet (first | ((with_reducible refine gate_dst (N := 2) rfl ?_); refine bxe (N := 2) (cs := #[.int .i8 a0_0, .int .i8 a0_1]) (t := 36) ?_; intro gb293 hg w3 hbox hb; have BK293 := am (hbox); have GW293 := am (gN hg (below_size (be HB))); have GE293 := am (gN hg (below_size (be HB))); replace HB := am (below_step (be HB) hb); clear hb hbox hg) | ((with_reducible refine gate_dst (N := 3) rfl ?_); refine bxe (N := 3) (cs := #[.int .i8 a1_0, .int .i8 a1_1]) (t := 36) ?_; intro gb294 hg w4 hbox hb; have BK294 := am (hbox); have GW294 := am (gN hg (below_size (be HB))); have GE294 := am (gN hg (below_size (be HB))); have NB293_294 := nL BK293 hg; have NB294_293 := nR BK293 hg; replace BK293 := bB BK293 hb; replace HB := am (below_step (be HB) hb); clear hb hbox hg; have hnb5 := NB293_294.out; have hnc5 := NB294_293.out; obtain ⟨hcz6_0, hcz6_1, hfz6_0, hfz6_1⟩ := bx2 BK293; obtain ⟨hcz7_0, hcz7_1, hfz7_0, hfz7_1⟩ := bx2 BK294)); try go_wp2_with (first | ((with_reducible refine gate_dst (N := 2) rfl ?_); refine bxe (N := 2) (cs := #[.int .i8 a0_0, .int .i8 a0_1]) (t := 36) ?_; intro gb293 hg w3 hbox hb; have BK293 := am (hbox); have GW293 := am (gN hg (below_size (be HB))); have GE293 := am (gN hg (below_size (be HB))); replace HB := am (below_step (be HB) hb); clear hb hbox hg) | ((with_reducible refine gate_dst (N := 3) rfl ?_); refine bxe (N := 3) (cs := #[.int .i8 a1_0, .int .i8 a1_1]) (t := 36) ?_; intro gb294 hg w4 hbox hb; have BK294 := am (hbox); have GW294 := am (gN hg (below_size (be HB))); have GE294 := am (gN hg (below_size (be HB))); have NB293_294 := nL BK293 hg; have NB294_293 := nR BK293 hg; replace BK293 := bB BK293 hb; replace HB := am (below_step (be HB) hb); clear hb hbox hg; have hnb5 := NB293_294.out; have hnc5 := NB294_293.out; obtain ⟨hcz6_0, hcz6_1, hfz6_0, hfz6_1⟩ := bx2 BK293; obtain ⟨hcz7_0, hcz7_1, hfz7_0, hfz7_1⟩ := bx2 BK294)))
 go_ret
 exact ⟨by first | rfl | (simp [errW_none, errW_some] <;> rfl) | (simp [*, errW_none, errW_some] <;> rfl), be HB⟩

/-! ### impl_touch: function 119 -/
def impl_touch.j0 : Nat → Bool → Int → Int → (Nat → Int) → Int → Int → Int → Int → Int → Int → Int → Int → Int → Int → Int → Int → Option (Bool)
 | 0, _, _, _, _, _, _, _, _, _, _, _, _, _, _, _, _ => none
 | k + 1, x24, x296000, x296001, x296002, x297000, x297001, x297002, x297003, x297004, x297005, x298000, x298001, x298002, x298003, x298004, x298005 => if x24 = true then (some true) else (if x297005 = x298005 then ((impl_far.f x297000 x297001 x298000 x298001).bind fun t300 => (some (decide (t300 < (wrap64 ((wrap64 ((wrap64 (x297003)) + (wrap64 (x298003)))) * (wrap64 ((wrap64 (x297003)) + (wrap64 (x298003)))))))))) else ((impl_swingOf.f k x296000 x296001 x296002 x297000 x297001 x297002 x297003 x297004 x297005).bind fun t301 => ((impl_swingOf.f k x296000 x296001 x296002 x298000 x298001 x298002 x298003 x298004 x298005).bind fun t302 => ((impl_far.f x297000 x297001 x298000 x298001).bind fun t303 => (some (decide (t303 < (wrap64 ((wrap64 (t301 + t302)) * (wrap64 (t301 + t302)))))))))))
def impl_touch.f (k : Nat) (a0_0 : Int) (a0_1 : Int) (a0_2 : (Nat → Int)) (a1_0 : Int) (a1_1 : Int) (a1_2 : Int) (a1_3 : Int) (a1_4 : Int) (a1_5 : Int) (a2_0 : Int) (a2_1 : Int) (a2_2 : Int) (a2_3 : Int) (a2_4 : Int) (a2_5 : Int) : Option (Bool) := (impl_reachOf.f k a0_0 a0_1 a0_2 a1_0 a1_1 a1_2 a1_3 a1_4 a1_5).bind fun t298 => (if t298 < 0 then (impl_touch.j0 k true a0_0 a0_1 a0_2 a1_0 a1_1 a1_2 a1_3 a1_4 a1_5 a2_0 a2_1 a2_2 a2_3 a2_4 a2_5) else ((impl_reachOf.f k a0_0 a0_1 a0_2 a2_0 a2_1 a2_2 a2_3 a2_4 a2_5).bind fun t299 => (if t299 < 0 then (impl_touch.j0 k true a0_0 a0_1 a0_2 a1_0 a1_1 a1_2 a1_3 a1_4 a1_5 a2_0 a2_1 a2_2 a2_3 a2_4 a2_5) else (impl_touch.j0 k (a1_0 == a2_0 && (a1_1 == a2_1)) a0_0 a0_1 a0_2 a1_0 a1_1 a1_2 a1_3 a1_4 a1_5 a2_0 a2_1 a2_2 a2_3 a2_4 a2_5))))
def impl_touch.T5 : Bool × List (List Nat × List Nat) := (true, [([], []), ([], []), ([0, 1], [0, 1]), ([], []), ([], []), ([3, 4, 2], [3, 4]), ([2, 5], [2, 5]), ([6, 5, 0, 1, 2, 3, 4, 5, 6], [6])])
def impl_touch.B5 : List Nat := [0, 0, 3, 0, 0, 31, 63, 127]
theorem impl_touch.tab5 : rtab .any (opsOf Try.f119 5) = impl_touch.T5 := by kernel_rfl
theorem impl_touch.bits5 : waitsOk impl_touch.T5.2 impl_touch.B5 = true := by kernel_rfl
set_option maxHeartbeats 8000000 in
set_option maxRecDepth 100000 in
theorem impl_touch.calls (k : Nat) (a0_0 : Int) (a0_1 : Int) (a0_2 : (Nat → Int)) (a1_0 : Int) (a1_1 : Int) (a1_2 : Int) (a1_3 : Int) (a1_4 : Int) (a1_5 : Int) (a2_0 : Int) (a2_1 : Int) (a2_2 : Int) (a2_3 : Int) (a2_4 : Int) (a2_5 : Int) (r : Bool) (w : World) (h : impl_touch.f k a0_0 a0_1 a0_2 a1_0 a1_1 a1_2 a1_3 a1_4 a1_5 a2_0 a2_1 a2_2 a2_3 a2_4 a2_5 = some r) :
  Calls Try.prog 119 #[.agg (csBay a0_0 a0_1 a0_2), .agg #[.int .i8 a1_0, .int .i8 a1_1, .int .i8 a1_2, .int .i8 a1_3, .int .i8 a1_4, .int .i8 a1_5], .agg #[.int .i8 a2_0, .int .i8 a2_1, .int .i8 a2_2, .int .i8 a2_3, .int .i8 a2_4, .int .i8 a2_5]] w fun e w' => e = .returned (.bool r) ∧ Below w.heap.size w w' := by
 have hu28 := Try.underlying28
 have hu38 := Try.underlying38
 have hu36 := Try.underlying36
 have HB := am (Below.refl w.heap.size w)
 have H : ((impl_reachOf.f k a0_0 a0_1 a0_2 a1_0 a1_1 a1_2 a1_3 a1_4 a1_5).bind fun t298 => (if t298 < 0 then (impl_touch.j0 k true a0_0 a0_1 a0_2 a1_0 a1_1 a1_2 a1_3 a1_4 a1_5 a2_0 a2_1 a2_2 a2_3 a2_4 a2_5) else ((impl_reachOf.f k a0_0 a0_1 a0_2 a2_0 a2_1 a2_2 a2_3 a2_4 a2_5).bind fun t299 => (if t299 < 0 then (impl_touch.j0 k true a0_0 a0_1 a0_2 a1_0 a1_1 a1_2 a1_3 a1_4 a1_5 a2_0 a2_1 a2_2 a2_3 a2_4 a2_5) else (impl_touch.j0 k (a1_0 == a2_0 && (a1_1 == a2_1)) a0_0 a0_1 a0_2 a1_0 a1_1 a1_2 a1_3 a1_4 a1_5 a2_0 a2_1 a2_2 a2_3 a2_4 a2_5))))) = some r := h
 clear h
 have HC4 := am H
 clear H
 go_enter Try.func119, Try.ntmps119
 go_upto_region 1 with (first | ((with_reducible refine gate_dst (N := 3) rfl ?_); refine bxe (N := 3) (cs := (csBay a0_0 a0_1 a0_2)) (t := 28) ?_; intro gb295 hg w5 hbox hb; have BK295 := am (hbox); have GW295 := am (gN hg (below_size (be HB))); have GE295 := am (gN hg (below_size (be HB))); replace HB := am (below_step (be HB) hb); clear hb hbox hg) | ((with_reducible refine gate_dst (N := 4) rfl ?_); refine bxe (N := 4) (cs := #[.int .i8 a1_0, .int .i8 a1_1, .int .i8 a1_2, .int .i8 a1_3, .int .i8 a1_4, .int .i8 a1_5]) (t := 38) ?_; intro gb296 hg w6 hbox hb; have BK296 := am (hbox); have GW296 := am (gN hg (below_size (be HB))); have GE296 := am (gN hg (below_size (be HB))); have NB295_296 := nL BK295 hg; have NB296_295 := nR BK295 hg; replace BK295 := bB BK295 hb; replace HB := am (below_step (be HB) hb); clear hb hbox hg) | ((with_reducible refine gate_dst (N := 5) rfl ?_); refine bxe (N := 5) (cs := #[.int .i8 a2_0, .int .i8 a2_1, .int .i8 a2_2, .int .i8 a2_3, .int .i8 a2_4, .int .i8 a2_5]) (t := 38) ?_; intro gb297 hg w7 hbox hb; have BK297 := am (hbox); have GW297 := am (gN hg (below_size (be HB))); have GE297 := am (gN hg (below_size (be HB))); have NB295_297 := nL BK295 hg; have NB297_295 := nR BK295 hg; have NB296_297 := nL BK296 hg; have NB297_296 := nR BK296 hg; replace BK295 := bB BK295 hb; replace BK296 := bB BK296 hb; replace HB := am (below_step (be HB) hb); clear hb hbox hg))
 (try simp only [Act.put, List.setIfInBounds_toArray, List.set_cons_zero, List.set_cons_succ])
 go_cut [24] (fun v24 wc => ∃ (kq : Nat) (x24_3 : Bool), v24 = .bool x24_3 ∧ Aside0 (impl_touch.j0 kq x24_3 a0_0 a0_1 a0_2 a1_0 a1_1 a1_2 a1_3 a1_4 a1_5 a2_0 a2_1 a2_2 a2_3 a2_4 a2_5 = some r) ∧ Aside0 (kq ≤ k) ∧ Aside0 (wc.heap[gb295]? = some (.cells (csBay a0_0 a0_1 a0_2) 28 (0, 0))) ∧ Aside0 (wc.heap[gb296]? = some (.cells #[.int .i8 a1_0, .int .i8 a1_1, .int .i8 a1_2, .int .i8 a1_3, .int .i8 a1_4, .int .i8 a1_5] 38 (0, 0))) ∧ Aside0 (wc.heap[gb297]? = some (.cells #[.int .i8 a2_0, .int .i8 a2_1, .int .i8 a2_2, .int .i8 a2_3, .int .i8 a2_4, .int .i8 a2_5] 38 (0, 0))) ∧ Aside0 (Below w.heap.size w wc))
 case first =>
  have H := HC4.out
  clear HC4
  replace H := Option.bind_eq_some_iff.mp H
  obtain ⟨t298, A80, H⟩ := H
  try dsimp only at H
  have A8 := am A80
  clear A80
  by_cases c9 : t298 < 0
  ·rw [if_pos c9] at H
   have c9b0 : decide (t298 < 0) = true := decide_eq_true c9
   clear c9
   (first | rw [c9b0] | (simp only [i64_w, i32_w]; rw [c9b0]) | skip)
   have H' := am H
   clear H
   have hnb10 := NB295_296.out
   have hnc10 := NB296_295.out
   have hnb11 := NB295_297.out
   have hnc11 := NB297_295.out
   have hcz12_0 : w7.cell? ⟨gb295, 0, none⟩ = some (.int .i8 a0_0) := (blk_cell BK295.out 0).trans rfl
   have hcz12_1 : w7.cell? ⟨gb295, 1, none⟩ = some (.int .i8 a0_1) := (blk_cell BK295.out 1).trans rfl
   have hwz12 := lv28_at BK295.out; have haz12 := at_cells BK295.out; have hyz12 := BayAt28_of BK295.out; have hvz12 := lvv_of BK295.out
   have hfz12_0 := blk_frozen BK295.out 0
   have hfz12_1 := blk_frozen BK295.out 1
   have hfz12_2 := blk_frozen BK295.out 2
   have hnb13 := NB296_297.out
   have hnc13 := NB297_296.out
   obtain ⟨hcz14_0, hcz14_1, hcz14_2, hcz14_3, hcz14_4, hcz14_5, hfz14_0, hfz14_1, hfz14_2, hfz14_3, hfz14_4, hfz14_5⟩ := bx6 BK296
   go_wp2_with (first | ((with_reducible refine gate_callee (f := 116) rfl ?_); refine gL (some 10) Try.func116 #[.agg (csBay a0_0 a0_1 a0_2), .agg #[.int .i8 a1_0, .int .i8 a1_1, .int .i8 a1_2, .int .i8 a1_3, .int .i8 a1_4, .int .i8 a1_5]] ?_; (with_reducible refine (impl_reachOf.calls k a0_0 a0_1 a0_2 a1_0 a1_1 a1_2 a1_3 a1_4 a1_5 t298 _ A8.out).mono ?_); rintro e w15 ⟨rfl, hb⟩; refine ⟨_, rfl, ?_⟩; replace BK295 := bB BK295 hb; replace BK296 := bB BK296 hb; replace BK297 := bB BK297 hb; replace HB := am (below_step (be HB) hb); (try clear hb); (try clear hb2); (try clear hk); (try clear hi)))
   go_meet
   case rel => exact ⟨_, (true), vv, H', ⟨by first | omega | exact Nat.le_refl _⟩, ⟨kb BK295⟩, ⟨kb BK296⟩, ⟨kb BK297⟩, ⟨be HB⟩⟩
  ·rw [if_neg c9] at H
   have c9b0 : decide (t298 < 0) = false := decide_eq_false c9
   clear c9
   (first | rw [c9b0] | (simp only [i64_w, i32_w]; rw [c9b0]) | skip)
   replace H := Option.bind_eq_some_iff.mp H
   obtain ⟨t299, A160, H⟩ := H
   try dsimp only at H
   have A16 := am A160
   clear A160
   by_cases c17 : t299 < 0
   ·rw [if_pos c17] at H
    have c17b0 : decide (t299 < 0) = true := decide_eq_true c17
    clear c17
    have H' := am H
    clear H
    have hnb18 := NB295_296.out
    have hnc18 := NB296_295.out
    have hnb19 := NB295_297.out
    have hnc19 := NB297_295.out
    have hcz20_0 : w7.cell? ⟨gb295, 0, none⟩ = some (.int .i8 a0_0) := (blk_cell BK295.out 0).trans rfl
    have hcz20_1 : w7.cell? ⟨gb295, 1, none⟩ = some (.int .i8 a0_1) := (blk_cell BK295.out 1).trans rfl
    have hwz20 := lv28_at BK295.out; have haz20 := at_cells BK295.out; have hyz20 := BayAt28_of BK295.out; have hvz20 := lvv_of BK295.out
    have hfz20_0 := blk_frozen BK295.out 0
    have hfz20_1 := blk_frozen BK295.out 1
    have hfz20_2 := blk_frozen BK295.out 2
    have hnb21 := NB296_297.out
    have hnc21 := NB297_296.out
    obtain ⟨hcz22_0, hcz22_1, hcz22_2, hcz22_3, hcz22_4, hcz22_5, hfz22_0, hfz22_1, hfz22_2, hfz22_3, hfz22_4, hfz22_5⟩ := bx6 BK296
    go_wp2_with (first | ((with_reducible refine gate_callee (f := 116) rfl ?_); refine gL (some 10) Try.func116 #[.agg (csBay a0_0 a0_1 a0_2), .agg #[.int .i8 a1_0, .int .i8 a1_1, .int .i8 a1_2, .int .i8 a1_3, .int .i8 a1_4, .int .i8 a1_5]] ?_; (with_reducible refine (impl_reachOf.calls k a0_0 a0_1 a0_2 a1_0 a1_1 a1_2 a1_3 a1_4 a1_5 t298 _ A8.out).mono ?_); rintro e w23 ⟨rfl, hb⟩; refine ⟨_, rfl, ?_⟩; replace BK295 := bB BK295 hb; replace BK296 := bB BK296 hb; replace BK297 := bB BK297 hb; replace HB := am (below_step (be HB) hb); (try clear hb); (try clear hb2); (try clear hk); (try clear hi); obtain ⟨hcz24_0, hcz24_1, hwz24, haz24, hyz24, hvz24, hfz24_0, hfz24_1, hfz24_2⟩ := bb28 BK295; obtain ⟨hcz25_0, hcz25_1, hcz25_2, hcz25_3, hcz25_4, hcz25_5, hfz25_0, hfz25_1, hfz25_2, hfz25_3, hfz25_4, hfz25_5⟩ := bx6 BK297) | (go_at_call 116; (with_reducible refine (impl_reachOf.calls k a0_0 a0_1 a0_2 a2_0 a2_1 a2_2 a2_3 a2_4 a2_5 t299 _ A16.out).mono ?_); rintro e w26 ⟨rfl, hb⟩; replace BK295 := bB BK295 hb; replace BK296 := bB BK296 hb; replace BK297 := bB BK297 hb; replace HB := am (below_step (be HB) hb); (try clear hb); (try clear hb2); (try clear hk); (try clear hi)))
    go_meet
    case rel => exact ⟨_, (true), vv, H', ⟨by first | omega | exact Nat.le_refl _⟩, ⟨kb BK295⟩, ⟨kb BK296⟩, ⟨kb BK297⟩, ⟨be HB⟩⟩
   ·rw [if_neg c17] at H
    have c17b0 : decide (t299 < 0) = false := decide_eq_false c17
    clear c17
    have H' := am H
    clear H
    have hnb27 := NB295_296.out
    have hnc27 := NB296_295.out
    have hnb28 := NB295_297.out
    have hnc28 := NB297_295.out
    have hcz29_0 : w7.cell? ⟨gb295, 0, none⟩ = some (.int .i8 a0_0) := (blk_cell BK295.out 0).trans rfl
    have hcz29_1 : w7.cell? ⟨gb295, 1, none⟩ = some (.int .i8 a0_1) := (blk_cell BK295.out 1).trans rfl
    have hwz29 := lv28_at BK295.out; have haz29 := at_cells BK295.out; have hyz29 := BayAt28_of BK295.out; have hvz29 := lvv_of BK295.out
    have hfz29_0 := blk_frozen BK295.out 0
    have hfz29_1 := blk_frozen BK295.out 1
    have hfz29_2 := blk_frozen BK295.out 2
    have hnb30 := NB296_297.out
    have hnc30 := NB297_296.out
    obtain ⟨hcz31_0, hcz31_1, hcz31_2, hcz31_3, hcz31_4, hcz31_5, hfz31_0, hfz31_1, hfz31_2, hfz31_3, hfz31_4, hfz31_5⟩ := bx6 BK296
    go_wp2_with (first | ((with_reducible refine gate_callee (f := 116) rfl ?_); refine gL (some 10) Try.func116 #[.agg (csBay a0_0 a0_1 a0_2), .agg #[.int .i8 a1_0, .int .i8 a1_1, .int .i8 a1_2, .int .i8 a1_3, .int .i8 a1_4, .int .i8 a1_5]] ?_; (with_reducible refine (impl_reachOf.calls k a0_0 a0_1 a0_2 a1_0 a1_1 a1_2 a1_3 a1_4 a1_5 t298 _ A8.out).mono ?_); rintro e w32 ⟨rfl, hb⟩; refine ⟨_, rfl, ?_⟩; replace BK295 := bB BK295 hb; replace BK296 := bB BK296 hb; replace BK297 := bB BK297 hb; replace HB := am (below_step (be HB) hb); (try clear hb); (try clear hb2); (try clear hk); (try clear hi); obtain ⟨hcz33_0, hcz33_1, hwz33, haz33, hyz33, hvz33, hfz33_0, hfz33_1, hfz33_2⟩ := bb28 BK295; obtain ⟨hcz34_0, hcz34_1, hcz34_2, hcz34_3, hcz34_4, hcz34_5, hfz34_0, hfz34_1, hfz34_2, hfz34_3, hfz34_4, hfz34_5⟩ := bx6 BK297) | (go_at_call 116; (with_reducible refine (impl_reachOf.calls k a0_0 a0_1 a0_2 a2_0 a2_1 a2_2 a2_3 a2_4 a2_5 t299 _ A16.out).mono ?_); rintro e w35 ⟨rfl, hb⟩; replace BK295 := bB BK295 hb; replace BK296 := bB BK296 hb; replace BK297 := bB BK297 hb; replace HB := am (below_step (be HB) hb); (try clear hb); (try clear hb2); (try clear hk); (try clear hi); obtain ⟨hcz36_0, hcz36_1, hcz36_2, hcz36_3, hcz36_4, hcz36_5, hfz36_0, hfz36_1, hfz36_2, hfz36_3, hfz36_4, hfz36_5⟩ := bx6 BK296; obtain ⟨hcz37_0, hcz37_1, hcz37_2, hcz37_3, hcz37_4, hcz37_5, hfz37_0, hfz37_1, hfz37_2, hfz37_3, hfz37_4, hfz37_5⟩ := bx6 BK297))
    go_meet
    case rel => exact ⟨_, ((a1_0 == a2_0 && (a1_1 == a2_1))), vv, H', ⟨by first | omega | exact Nat.le_refl _⟩, ⟨kb BK295⟩, ⟨kb BK296⟩, ⟨kb BK297⟩, ⟨be HB⟩⟩
 case rest =>
  clear HC4
  try clear c1
  try clear c2
  try clear p2
  try clear c3
  try clear c9
  try clear c9b0
  try clear c10
  try clear c11
  try clear c13
  try clear c17
  try clear c17b0
  try clear c18
  try clear c19
  try clear c21
  try clear c27
  try clear c28
  try clear c30
  try clear hcz12_0
  try clear hcz12_1
  try clear hcz14_0
  try clear hcz14_1
  try clear hcz14_2
  try clear hcz14_3
  try clear hcz14_4
  try clear hcz14_5
  try clear hcz20_0
  try clear hcz20_1
  try clear hcz22_0
  try clear hcz22_1
  try clear hcz22_2
  try clear hcz22_3
  try clear hcz22_4
  try clear hcz22_5
  try clear hcz24_0
  try clear hcz24_1
  try clear hcz25_0
  try clear hcz25_1
  try clear hcz25_2
  try clear hcz25_3
  try clear hcz25_4
  try clear hcz25_5
  try clear hcz29_0
  try clear hcz29_1
  try clear hcz31_0
  try clear hcz31_1
  try clear hcz31_2
  try clear hcz31_3
  try clear hcz31_4
  try clear hcz31_5
  try clear hcz33_0
  try clear hcz33_1
  try clear hcz34_0
  try clear hcz34_1
  try clear hcz34_2
  try clear hcz34_3
  try clear hcz34_4
  try clear hcz34_5
  try clear hcz36_0
  try clear hcz36_1
  try clear hcz36_2
  try clear hcz36_3
  try clear hcz36_4
  try clear hcz36_5
  try clear hcz37_0
  try clear hcz37_1
  try clear hcz37_2
  try clear hcz37_3
  try clear hcz37_4
  try clear hcz37_5
  try clear hfz12_0
  try clear hfz12_1
  try clear hfz12_2
  try clear hfz14_0
  try clear hfz14_1
  try clear hfz14_2
  try clear hfz14_3
  try clear hfz14_4
  try clear hfz14_5
  try clear hfz20_0
  try clear hfz20_1
  try clear hfz20_2
  try clear hfz22_0
  try clear hfz22_1
  try clear hfz22_2
  try clear hfz22_3
  try clear hfz22_4
  try clear hfz22_5
  try clear hfz24_0
  try clear hfz24_1
  try clear hfz24_2
  try clear hfz25_0
  try clear hfz25_1
  try clear hfz25_2
  try clear hfz25_3
  try clear hfz25_4
  try clear hfz25_5
  try clear hfz29_0
  try clear hfz29_1
  try clear hfz29_2
  try clear hfz31_0
  try clear hfz31_1
  try clear hfz31_2
  try clear hfz31_3
  try clear hfz31_4
  try clear hfz31_5
  try clear hfz33_0
  try clear hfz33_1
  try clear hfz33_2
  try clear hfz34_0
  try clear hfz34_1
  try clear hfz34_2
  try clear hfz34_3
  try clear hfz34_4
  try clear hfz34_5
  try clear hfz36_0
  try clear hfz36_1
  try clear hfz36_2
  try clear hfz36_3
  try clear hfz36_4
  try clear hfz36_5
  try clear hfz37_0
  try clear hfz37_1
  try clear hfz37_2
  try clear hfz37_3
  try clear hfz37_4
  try clear hfz37_5
  obtain ⟨kq, x24_3, rfl, HA, HJ3, BK295, BK296, BK297, HB⟩ := hcut
  cases kq with
  | zero => exact absurd HA.out (by simp [impl_touch.j0])
  | succ kj3 =>
   have H := HA.out
   clear HA
   simp only [impl_touch.j0] at H
   by_cases c38 : x24_3 = true
   ·subst c38
    rw [if_pos rfl] at H
    obtain rfl := Option.some.inj H
    go_wp2
    go_ret
    exact ⟨by first | rfl | (simp [errW_none, errW_some] <;> rfl) | (simp [*, errW_none, errW_some] <;> rfl), be HB⟩
   ·replace c38 := Bool.eq_false_iff.mpr c38
    subst c38
    have H1 : (if a1_5 = a2_5 then ((impl_far.f a1_0 a1_1 a2_0 a2_1).bind fun t300 => (some (decide (t300 < (wrap64 ((wrap64 ((wrap64 (a1_3)) + (wrap64 (a2_3)))) * (wrap64 ((wrap64 (a1_3)) + (wrap64 (a2_3)))))))))) else ((impl_swingOf.f kj3 a0_0 a0_1 a0_2 a1_0 a1_1 a1_2 a1_3 a1_4 a1_5).bind fun t301 => ((impl_swingOf.f kj3 a0_0 a0_1 a0_2 a2_0 a2_1 a2_2 a2_3 a2_4 a2_5).bind fun t302 => ((impl_far.f a1_0 a1_1 a2_0 a2_1).bind fun t303 => (some (decide (t303 < (wrap64 ((wrap64 (t301 + t302)) * (wrap64 (t301 + t302))))))))))) = some r := by rw [if_neg (show ¬ (false = true) by decide)] at H; exact H
    clear H
    have H := H1
    clear H1
    by_cases c39 : a1_5 = a2_5
    ·rw [if_pos c39] at H
     have c39b0 : (a1_5 == a2_5) = true := beq_iff_eq.mpr c39
     have c39b1 : (a1_5 != a2_5) = false := bne_eq_false_iff_eq.mpr c39
     clear c39
     replace H := Option.bind_eq_some_iff.mp H
     obtain ⟨t300, A400, H⟩ := H
     try dsimp only at H
     have A40 := am A400
     clear A400
     obtain rfl := Option.some.inj H
     have hnb41 := NB296_295.out
     have hnc41 := NB295_296.out
     have hnb42 := NB296_297.out
     have hnc42 := NB297_296.out
     obtain ⟨hcz43_0, hcz43_1, hcz43_2, hcz43_3, hcz43_4, hcz43_5, hfz43_0, hfz43_1, hfz43_2, hfz43_3, hfz43_4, hfz43_5⟩ := bx6 BK296
     have hnb44 := NB297_295.out
     have hnc44 := NB295_297.out
     obtain ⟨hcz45_0, hcz45_1, hcz45_2, hcz45_3, hcz45_4, hcz45_5, hfz45_0, hfz45_1, hfz45_2, hfz45_3, hfz45_4, hfz45_5⟩ := bx6 BK297
     go_wp2_with (first | ((with_reducible refine gate_callee (f := 171) rfl ?_); refine gL (some 48) Try.func171 #[.agg #[.int .i8 a1_0, .int .i8 a1_1], .agg #[.int .i8 a2_0, .int .i8 a2_1]] ?_; (with_reducible refine (impl_far.calls a1_0 a1_1 a2_0 a2_1 t300 _ A40.out).mono ?_); rintro e w46 ⟨rfl, hb⟩; refine ⟨_, rfl, ?_⟩; replace BK295 := bB BK295 hb; replace BK296 := bB BK296 hb; replace BK297 := bB BK297 hb; replace HB := am (below_step (be HB) hb); (try clear hb); (try clear hb2); (try clear hk); (try clear hi)))
     go_ret
     exact ⟨by first | rfl | (simp [errW_none, errW_some] <;> rfl) | (simp [*, errW_none, errW_some] <;> rfl), be HB⟩
    ·rw [if_neg c39] at H
     have c39b0 : (a1_5 == a2_5) = false := beq_eq_false_iff_ne.mpr c39
     have c39b1 : (a1_5 != a2_5) = true := bne_iff_ne.mpr c39
     replace H := Option.bind_eq_some_iff.mp H
     obtain ⟨t301, A470, H⟩ := H
     try dsimp only at H
     have A47 := am A470
     clear A470
     replace H := Option.bind_eq_some_iff.mp H
     obtain ⟨t302, A480, H⟩ := H
     try dsimp only at H
     have A48 := am A480
     clear A480
     replace H := Option.bind_eq_some_iff.mp H
     obtain ⟨t303, A490, H⟩ := H
     try dsimp only at H
     have A49 := am A490
     clear A490
     obtain rfl := Option.some.inj H
     have hnb50 := NB296_295.out
     have hnc50 := NB295_296.out
     have hnb51 := NB296_297.out
     have hnc51 := NB297_296.out
     obtain ⟨hcz52_0, hcz52_1, hcz52_2, hcz52_3, hcz52_4, hcz52_5, hfz52_0, hfz52_1, hfz52_2, hfz52_3, hfz52_4, hfz52_5⟩ := bx6 BK296
     have hnb53 := NB297_295.out
     have hnc53 := NB295_297.out
     obtain ⟨hcz54_0, hcz54_1, hcz54_2, hcz54_3, hcz54_4, hcz54_5, hfz54_0, hfz54_1, hfz54_2, hfz54_3, hfz54_4, hfz54_5⟩ := bx6 BK297
     try go_wp2
     have n0_ := am (blk_drew BK295.out)
     have n1_ := am (blk_drew BK296.out)
     have n2_ := am (blk_drew BK297.out)
     have n3_ := am (below_drew1 HB.out)
     clear BK295
     clear BK296
     clear BK297
     clear HB
     have BK295 := n0_
     have BK296 := n1_
     have BK297 := n2_
     have HB := n3_
     clear n0_ n1_ n2_ n3_
     refine start_ (n := 8) (S := fun w' => w'.cell? ⟨gb295, 0, none⟩ = some (.int .i8 a0_0) ∧ w'.cell? ⟨gb295, 1, none⟩ = some (.int .i8 a0_1) ∧ atCells w' gb295 a0_2 ∧ BayAt28 w' gb295 ∧ lvv w' gb295 = .agg (csBay a0_0 a0_1 a0_2) ∧ w'.cell? ⟨gb296, 0, none⟩ = some (.int .i8 a1_0) ∧ w'.cell? ⟨gb296, 1, none⟩ = some (.int .i8 a1_1) ∧ w'.cell? ⟨gb296, 2, none⟩ = some (.int .i8 a1_2) ∧ w'.cell? ⟨gb296, 3, none⟩ = some (.int .i8 a1_3) ∧ w'.cell? ⟨gb296, 4, none⟩ = some (.int .i8 a1_4) ∧ w'.cell? ⟨gb296, 5, none⟩ = some (.int .i8 a1_5) ∧ w'.cell? ⟨gb297, 0, none⟩ = some (.int .i8 a2_0) ∧ w'.cell? ⟨gb297, 1, none⟩ = some (.int .i8 a2_1) ∧ w'.cell? ⟨gb297, 2, none⟩ = some (.int .i8 a2_2) ∧ w'.cell? ⟨gb297, 3, none⟩ = some (.int .i8 a2_3) ∧ w'.cell? ⟨gb297, 4, none⟩ = some (.int .i8 a2_4) ∧ w'.cell? ⟨gb297, 5, none⟩ = some (.int .i8 a2_5)) (ds := []) #[false, false, false, false, false, false, false, false] (by kernel_rfl) rfl rfl ⟨(blk_cell BK295.out 0).trans rfl, (blk_cell BK295.out 1).trans rfl, at_cells BK295.out, BayAt28_of BK295.out, lvv_of BK295.out, (blk_cell BK296.out 0).trans rfl, (blk_cell BK296.out 1).trans rfl, (blk_cell BK296.out 2).trans rfl, (blk_cell BK296.out 3).trans rfl, (blk_cell BK296.out 4).trans rfl, (blk_cell BK296.out 5).trans rfl, (blk_cell BK297.out 0).trans rfl, (blk_cell BK297.out 1).trans rfl, (blk_cell BK297.out 2).trans rfl, (blk_cell BK297.out 3).trans rfl, (blk_cell BK297.out 4).trans rfl, (blk_cell BK297.out 5).trans rfl⟩ (fun hHeld => ?_); refine with_tabW impl_touch.tab5 impl_touch.bits5 (fun HT_ HW_ => ?_)
     generalize wc.drew = w55 at BK295 BK296 BK297 HB hHeld ⊢
     refine tS (i := 0) (some 37) #[true, false, false, false, false, false, false, false] (take_ofW HT_.out HW_.out (by kernel_rfl)) hHeld ?_
     refine tS (i := 1) (some 38) #[true, true, false, false, false, false, false, false] (take_ofW HT_.out HW_.out (by kernel_rfl)) hHeld ?_
     refine tS (i := 3) (some 40) #[true, true, false, true, false, false, false, false] (take_ofW HT_.out HW_.out (by kernel_rfl)) hHeld ?_
     refine tS (i := 4) (some 41) #[true, true, false, true, true, false, false, false] (take_ofW HT_.out HW_.out (by kernel_rfl)) hHeld ?_
     refine one_ (i := 2) (N := some 39) #[true, true, true, true, true, false, false, false] rfl rfl (one_of HT_.out (by kernel_rfl)) (by decide) (fun K hK => ?_)
     refine goes_ Try.func115 (by kernel_rfl) rfl #[.agg (csBay a0_0 a0_1 a0_2), .agg #[.int .i8 a1_0, .int .i8 a1_1, .int .i8 a1_2, .int .i8 a1_3, .int .i8 a1_4, .int .i8 a1_5]] (by rfl) rfl rfl (by (try simp only [List.map_toArray, List.map_cons, List.map_nil]); first | done | rfl | (simp only [List.length_drop, List.length_take]; rfl)) ?_
     with_reducible refine (impl_swingOf.calls kj3 a0_0 a0_1 a0_2 a1_0 a1_1 a1_2 a1_3 a1_4 a1_5 t301 _ A47.out).mono ?_
     rintro e w56 ⟨rfl, hb⟩
     refine ⟨_, rfl, ?_⟩
     have n0_ := bB BK295 hb
     have n1_ := bB BK296 hb
     have n2_ := bB BK297 hb
     have n3_ := am (below_step (be HB) hb)
     clear BK295
     clear BK296
     clear BK297
     clear HB
     have BK295 := n0_
     have BK296 := n1_
     have BK297 := n2_
     have HB := n3_
     clear n0_ n1_ n2_ n3_
     (try clear hb)
     (try clear hb2)
     (try clear hk)
     (try clear hi)
     refine hK.out _ _ ⟨(blk_cell BK295.out 0).trans rfl, (blk_cell BK295.out 1).trans rfl, at_cells BK295.out, BayAt28_of BK295.out, lvv_of BK295.out, (blk_cell BK296.out 0).trans rfl, (blk_cell BK296.out 1).trans rfl, (blk_cell BK296.out 2).trans rfl, (blk_cell BK296.out 3).trans rfl, (blk_cell BK296.out 4).trans rfl, (blk_cell BK296.out 5).trans rfl, (blk_cell BK297.out 0).trans rfl, (blk_cell BK297.out 1).trans rfl, (blk_cell BK297.out 2).trans rfl, (blk_cell BK297.out 3).trans rfl, (blk_cell BK297.out 4).trans rfl, (blk_cell BK297.out 5).trans rfl⟩ (fun hHeld => ?_)
     clear hK K
     refine norm_ (a' := ?_) ?_ ?_
     rotate_left
     ·show Act.put _ (some 39) _ = _
      simp only [Act.put, List.setIfInBounds_toArray, List.set_cons_zero, List.set_cons_succ, i64_w, i32_w]
      rfl
     refine one_ (i := 5) (N := some 42) #[true, true, true, true, true, true, false, false] rfl rfl (one_of HT_.out (by kernel_rfl)) (by decide) (fun K hK => ?_)
     refine goes_ Try.func115 (by kernel_rfl) rfl #[.agg (csBay a0_0 a0_1 a0_2), .agg #[.int .i8 a2_0, .int .i8 a2_1, .int .i8 a2_2, .int .i8 a2_3, .int .i8 a2_4, .int .i8 a2_5]] (by rfl) rfl rfl (by (try simp only [List.map_toArray, List.map_cons, List.map_nil]); first | done | rfl | (simp only [List.length_drop, List.length_take]; rfl)) ?_
     with_reducible refine (impl_swingOf.calls kj3 a0_0 a0_1 a0_2 a2_0 a2_1 a2_2 a2_3 a2_4 a2_5 t302 _ A48.out).mono ?_
     rintro e w57 ⟨rfl, hb⟩
     refine ⟨_, rfl, ?_⟩
     have n0_ := bB BK295 hb
     have n1_ := bB BK296 hb
     have n2_ := bB BK297 hb
     have n3_ := am (below_step (be HB) hb)
     clear BK295
     clear BK296
     clear BK297
     clear HB
     have BK295 := n0_
     have BK296 := n1_
     have BK297 := n2_
     have HB := n3_
     clear n0_ n1_ n2_ n3_
     (try clear hb)
     (try clear hb2)
     (try clear hk)
     (try clear hi)
     refine hK.out _ _ ⟨(blk_cell BK295.out 0).trans rfl, (blk_cell BK295.out 1).trans rfl, at_cells BK295.out, BayAt28_of BK295.out, lvv_of BK295.out, (blk_cell BK296.out 0).trans rfl, (blk_cell BK296.out 1).trans rfl, (blk_cell BK296.out 2).trans rfl, (blk_cell BK296.out 3).trans rfl, (blk_cell BK296.out 4).trans rfl, (blk_cell BK296.out 5).trans rfl, (blk_cell BK297.out 0).trans rfl, (blk_cell BK297.out 1).trans rfl, (blk_cell BK297.out 2).trans rfl, (blk_cell BK297.out 3).trans rfl, (blk_cell BK297.out 4).trans rfl, (blk_cell BK297.out 5).trans rfl⟩ (fun hHeld => ?_)
     clear hK K
     refine norm_ (a' := ?_) ?_ ?_
     rotate_left
     ·show Act.put _ (some 42) _ = _
      simp only [Act.put, List.setIfInBounds_toArray, List.set_cons_zero, List.set_cons_succ, i64_w, i32_w]
      rfl
     refine pS (i := 6) (some 43) #[true, true, true, true, true, true, true, false] (any_of HT_.out (by kernel_rfl)) ?_
     refine pS (i := 7) (some 7) #[true, true, true, true, true, true, true, true] (any_of HT_.out (by kernel_rfl)) ?_
     refine done_ (done_of HT_.out (by kernel_rfl)) ?_
     obtain ⟨hcz58_0, hcz58_1, hcz58_2, hcz58_3, hcz58_4, hcz58_5, hfz58_0, hfz58_1, hfz58_2, hfz58_3, hfz58_4, hfz58_5⟩ := bx6 BK296
     obtain ⟨hcz59_0, hcz59_1, hcz59_2, hcz59_3, hcz59_4, hcz59_5, hfz59_0, hfz59_1, hfz59_2, hfz59_3, hfz59_4, hfz59_5⟩ := bx6 BK297
     try go_wp2_with (first | ((with_reducible refine gate_callee (f := 171) rfl ?_); refine gL (some 48) Try.func171 #[.agg #[.int .i8 a1_0, .int .i8 a1_1], .agg #[.int .i8 a2_0, .int .i8 a2_1]] ?_; (with_reducible refine (impl_far.calls a1_0 a1_1 a2_0 a2_1 t303 _ A49.out).mono ?_); rintro e w60 ⟨rfl, hb⟩; refine ⟨_, rfl, ?_⟩; replace BK295 := bB BK295 hb; replace BK296 := bB BK296 hb; replace BK297 := bB BK297 hb; replace HB := am (below_step (be HB) hb); (try clear hb); (try clear hb2); (try clear hk); (try clear hi)))
     go_ret
     exact ⟨by first | rfl | (simp [errW_none, errW_some] <;> rfl) | (simp [*, errW_none, errW_some] <;> rfl), be HB⟩

/-! ### impl_allPlaces: function 111 -/
mutual
def impl_allPlaces.l0 : Nat → List (S36) → Int → Int → Int → Int → (Nat → Int) → Option ((List (S36)))
 | 0, _, _, _, _, _, _ => none
 | k + 1, x3, x8, x9, x305000, x305001, x305002 => if x9 < x8 then (impl_allPlaces.l1 k x3 x9 x8 x9 x305000 0 x305000 x305001 x305002) else (some x3)
def impl_allPlaces.l1 : Nat → List (S36) → Int → Int → Int → Int → Int → Int → Int → (Nat → Int) → Option ((List (S36)))
 | 0, _, _, _, _, _, _, _, _, _ => none
 | k + 1, x3, x4, x8, x9, x13, x14, x305000, x305001, x305002 => if x14 < x13 then (if x3.length < 70368744177664 then (impl_allPlaces.l1 k (x3 ++ [(⟨x14, x4⟩ : S36)]) x4 x8 x9 x13 (IntKind.i8.wrap (x14 + 1)) x305000 x305001 x305002) else (none)) else (impl_allPlaces.l0 k x3 x8 (IntKind.i8.wrap (x9 + 1)) x305000 x305001 x305002)
end
def impl_allPlaces.f (k : Nat) (a0_0 : Int) (a0_1 : Int) (a0_2 : (Nat → Int)) : Option ((List (S36))) := impl_allPlaces.l0 k (([] : List (S36))) a0_1 0 a0_0 a0_1 a0_2
set_option maxHeartbeats 8000000 in
set_option maxRecDepth 100000 in
theorem impl_allPlaces.calls (k : Nat) (a0_0 : Int) (a0_1 : Int) (a0_2 : (Nat → Int)) (r : List (S36)) (w : World) (h : impl_allPlaces.f k a0_0 a0_1 a0_2 = some r) :
  Calls Try.prog 111 #[.agg (csBay a0_0 a0_1 a0_2)] w fun e w' => ∃ v0_ : Value, e = .returned (v0_) ∧ Kd.R k36 36 w' w.heap.size (fun _ => True) v0_ r ∧ Below w.heap.size w w' := by
 have hu28 := Try.underlying28
 have hu36 := Try.underlying36
 have HB := am (Below.refl w.heap.size w)
 have H : (impl_allPlaces.l0 k (([] : List (S36))) a0_1 0 a0_0 a0_1 a0_2) = some r := h
 clear h
 obtain ⟨y305, hy305⟩ : ∃ y_ : List (S36), y_ = (([] : List (S36))) := ⟨_, rfl⟩
 replace H : (impl_allPlaces.l0 k y305 a0_1 0 a0_0 a0_1 a0_2) = some r := by first | (rw [hy305]; with_reducible exact H) | (have H2_ := (Option.bind_some _ _).symm.trans H; rw [hy305]; with_reducible exact H2_) | (have H2_ := (Option.bind_some _ _).symm.trans H; with_reducible exact H2_) | with_reducible exact H | (rw [hy305]; exact H) | exact H
 have Ny305 := am hy305
 clear hy305
 have H' := am H
 clear H
 go_enter Try.func111, Try.ntmps111
 go_wp2_with (first | ((with_reducible refine gate_dst (N := 1) rfl ?_); refine bxe (N := 1) (cs := (csBay a0_0 a0_1 a0_2)) (t := 28) ?_; intro gb304 hg w2 hbox hb; have BK304 := am (hbox); have GW304 := am (gN hg (below_size (be HB))); have GE304 := am (gN hg (below_size (be HB))); replace HB := am (below_step (be HB) hb); clear hb hbox hg) | ((with_reducible refine gate_dst (N := 6) rfl ?_); refine Kd.R_lit k36 _ 36 ?hg (N := 6) ?hd (xs := ([] : List (S36))) (inner := []) (ok := fun _ => True) (okp := fun _ => True) ?hr ?hp (fun _ hk => hk) trivial (Below.refl _ _) (Nat.le_refl _) (by simp) ?_; (case hd => rfl); (case hg => rfl); (case hr => first | (go_simp; done) | (go_simp; rfl)); (case hp => exact (Reps.none _ _)); intro v306 w3 ho4 hb hg_ hnew_; clear hg_ hnew_; (first | rw [← Ny305.out] at ho4 | (simp only [Int.reduceToNat] at ho4; rw [← Ny305.out] at ho4)); have HO307 := am (Kd.R_lower ho4 (below_size (be HB))); replace BK304 := bB BK304 hb; replace HB := am (below_step (be HB) hb); clear hb ho4; obtain ⟨hcz5_0, hcz5_1, hwz5, haz5, hyz5, hvz5, hfz5_0, hfz5_1, hfz5_2⟩ := bb28 BK304))
 go_loopg [3, 9] k (fun kq v3 v9 w' => ∃ (x3_1 : List (S36)) (x9_1 : Int), v9 = .int .i8 x9_1 ∧ Aside0 (impl_allPlaces.l0 kq x3_1 a0_1 x9_1 a0_0 a0_1 a0_2 = some r) ∧ Aside0 (kq ≤ k) ∧ Aside0 (Kd.R k36 36 w' w.heap.size (fun _ => True) v3 x3_1) ∧ Aside0 (w'.heap[gb304]? = some (.cells (csBay a0_0 a0_1 a0_2) 28 (0, 0))) ∧ Aside0 (Below w.heap.size w w'))
 case atStart => exact ⟨(y305), (0), vv, H', ⟨Nat.le_refl _⟩, ⟨kr HO307⟩, ⟨kb BK304⟩, ⟨be HB⟩⟩
 case round =>
  clear H'
  try clear c1
  try clear p2
  try clear hcz5_0
  try clear hcz5_1
  try clear hfz5_0
  try clear hfz5_1
  try clear hfz5_2
  obtain ⟨x3_1, x9_1, rfl, HA, HK1, HO_3, BK304, HB⟩ := hrel
  cases gk with
  | zero => exact absurd HA.out (by simp [impl_allPlaces.l0])
  | succ k1 =>
   have H := HA.out
   clear HA
   simp only [impl_allPlaces.l0] at H
   by_cases c6 : x9_1 < a0_1
   ·rw [if_pos c6] at H
    have c6b0 : decide (x9_1 < a0_1) = true := decide_eq_true c6
    clear c6
    have H' := am H
    clear H
    have hcz7_0 : wr.cell? ⟨gb304, 0, none⟩ = some (.int .i8 a0_0) := (blk_cell BK304.out 0).trans rfl
    have hcz7_1 : wr.cell? ⟨gb304, 1, none⟩ = some (.int .i8 a0_1) := (blk_cell BK304.out 1).trans rfl
    have hwz7 := lv28_at BK304.out; have haz7 := at_cells BK304.out; have hyz7 := BayAt28_of BK304.out; have hvz7 := lvv_of BK304.out
    have hfz7_0 := blk_frozen BK304.out 0
    have hfz7_1 := blk_frozen BK304.out 1
    have hfz7_2 := blk_frozen BK304.out 2
    go_wp2
    go_loopg [3, 14] k1 (fun kq v3 v14 w' => ∃ (x3_2 : List (S36)) (x14_2 : Int), v14 = .int .i8 x14_2 ∧ Aside0 (impl_allPlaces.l1 kq x3_2 x9_1 a0_1 x9_1 a0_0 x14_2 a0_0 a0_1 a0_2 = some r) ∧ Aside0 (kq ≤ k1) ∧ Aside0 (Kd.R k36 36 w' w.heap.size (fun _ => True) v3 x3_2) ∧ Aside0 (w'.heap[gb304]? = some (.cells (csBay a0_0 a0_1 a0_2) 28 (0, 0))) ∧ Aside0 (Below w.heap.size w w'))
    case atStart => exact ⟨(x3_1), (0), vv, H', ⟨Nat.le_refl _⟩, ⟨kr HO_3⟩, ⟨kb BK304⟩, ⟨be HB⟩⟩
    case round =>
     clear H'
     try clear c1
     try clear p2
     try clear c6
     try clear c6b0
     try clear hcz5_0
     try clear hcz5_1
     try clear hcz7_0
     try clear hcz7_1
     try clear hfz5_0
     try clear hfz5_1
     try clear hfz5_2
     try clear hfz7_0
     try clear hfz7_1
     try clear hfz7_2
     try clear p2
     obtain ⟨x3_2, x14_2, rfl, HA, HK2, HO_3, BK304, HB⟩ := hrel
     cases gk with
     | zero => exact absurd HA.out (by simp [impl_allPlaces.l1])
     | succ k2 =>
      have H := HA.out
      clear HA
      simp only [impl_allPlaces.l1] at H
      by_cases c8 : x14_2 < a0_0
      ·rw [if_pos c8] at H
       have c8b0 : decide (x14_2 < a0_0) = true := decide_eq_true c8
       clear c8
       by_cases c9 : x3_2.length < 70368744177664
       ·rw [if_pos c9] at H
        have LMc9 := am c9
        clear c9
        obtain ⟨y308, hy308⟩ : ∃ y_ : List (S36), y_ = (x3_2 ++ [(⟨x14_2, x9_1⟩ : S36)]) := ⟨_, rfl⟩
        replace H : (impl_allPlaces.l1 k2 y308 x9_1 a0_1 x9_1 a0_0 (IntKind.i8.wrap (x14_2 + 1)) a0_0 a0_1 a0_2) = some r := by first | (rw [hy308]; with_reducible exact H) | (have H2_ := (Option.bind_some _ _).symm.trans H; rw [hy308]; with_reducible exact H2_) | (have H2_ := (Option.bind_some _ _).symm.trans H; with_reducible exact H2_) | with_reducible exact H | (rw [hy308]; exact H) | exact H
        have Ny308 := am hy308
        clear hy308
        have H' := am H
        clear H
        go_wp2_with (first | ((with_reducible refine gate_builtin (b := .append) (xs := #[.tmp 17, .tmp 21]) rfl ?_); at_builtin; refine Kd.R_append k36 (w0 := w) w.heap.size rfl (.tmp 17) (.tmp 21) 56 36 (.agg #[(.int .i8 0), (.int .i8 0)]) 2 rfl Try.underlying56 info36 rfl (by decide) (by omega) u3 x3_2 (⟨x14_2, x9_1⟩ : S36) [.int .i8 x14_2, .int .i8 x9_1] (fun _ => True) (fun _ => False) rfl rfl ?aP (fun _ hk => hk.elim) ?aF ?aO ?aB ?aS ?aL ?_; (case aP => exact k36_mkM _ _ _ (⟨x14_2, x9_1⟩ : S36)); (case aB => exact (be HB)); (case aF => exact (fun _ _ => trivial)); (case aO => exact (kr HO_3)); (case aS => exact (below_size (be HB))); (case aL => have := LMc9.out; omega); intro v309 w10 ho hb hg hat; rw [← Ny308.out] at ho; have HO310 := am (ho); replace BK304 := am (blk_grown (g := gb304) (o := .cells (csBay a0_0 a0_1 a0_2) 28 (0, 0)) (kb BK304) hg (Kd.R_ne HO_3.out BK304.out (by decide))); replace HB := am (hb); clear HO_3; clear ho hb hg hat))
        go_roundg k2
        case measure => have := HK1.out; have := HK2.out; omega
        case rel => exact ⟨(y308), (IntKind.i8.wrap (x14_2 + 1)), vv, H', ⟨by have := HK1.out; have := HK2.out; omega⟩, ⟨kr HO310⟩, ⟨kb BK304⟩, ⟨be HB⟩⟩
       ·rw [if_neg c9] at H
        exact absurd H (by simp)
      ·rw [if_neg c8] at H
       have c8b0 : decide (x14_2 < a0_0) = false := decide_eq_false c8
       clear c8
       have H' := am H
       clear H
       go_wp2
       go_roundg k2
       case measure => have := HK1.out; have := HK2.out; omega
       case rel => exact ⟨(x3_2), (IntKind.i8.wrap (x9_1 + 1)), vv, H', ⟨by have := HK1.out; have := HK2.out; omega⟩, ⟨kr HO_3⟩, ⟨kb BK304⟩, ⟨be HB⟩⟩
   ·rw [if_neg c6] at H
    have c6b0 : decide (x9_1 < a0_1) = false := decide_eq_false c6
    clear c6
    obtain rfl := Option.some.inj H
    go_wp2
    go_ret
    exact ⟨_, by first | rfl | (simp [errW_none, errW_some] <;> rfl) | (simp [*, errW_none, errW_some] <;> rfl), by (with_reducible repeat (first | apply Kd.R_alloc | apply Kd.R_drewN | apply Kd.R_drew)); exact HO_3.out, be HB⟩

end Go.Proofs.Ytcollbifdfhfoaa.PFnExactGreedyBoats
