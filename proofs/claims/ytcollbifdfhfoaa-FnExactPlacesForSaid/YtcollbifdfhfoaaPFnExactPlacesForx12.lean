-- Written by a program out of this seat's translation (functions, and that the code comes to them).
import Derived.Test.YtcollbifdfhfoaaPFnExactPlacesForx0
import Derived.Test.YtcollbifdfhfoaaPFnExactPlacesForx1
import Derived.Test.YtcollbifdfhfoaaPFnExactPlacesForx9
import Derived.Test.YtcollbifdfhfoaaPFnExactPlacesForx10
namespace Go.Proofs.Ytcollbifdfhfoaa.PFnExactPlacesFor
open Go.RowKit Go.Proofs.YtcollbifdfhfoaaW.PrintWords Go.Proofs.YtcollbifdfhfoaaW.PrintLast Go.Proofs.YtcollbifdfhfoaaW.PrintMore
attribute [local go_sem] max2_int min2_int max_two min_two max_three min_three max_four min_four   -- for this text's walks alone
open Go.Proofs.Ytcollbifdfhfoaa.Bay Go.Proofs.Ytcollbifdfhfoaa.Short
attribute [local go_sem ↓] lv26_eq lv28_eq
attribute [local go_sem] lvv_set lvv_drewN lvv_drew lv26_run BayAt26_set BayAt26_drewN BayAt26_drew lv28_run BayAt28_set BayAt28_drewN BayAt28_drew
set_option linter.unusedVariables false
set_option linter.unusedSimpArgs false

attribute [local go_sem high] eqA36
/-! ### impl_touch: function 119 -/
def impl_touch.j0 : Nat → Bool → Int → Int → (Nat → Int) → Int → Int → Int → Int → Int → Int → Int → Int → Int → Int → Int → Int → Option (Bool)
 | 0, _, _, _, _, _, _, _, _, _, _, _, _, _, _, _, _ => none
 | k + 1, x24, x374000, x374001, x374002, x375000, x375001, x375002, x375003, x375004, x375005, x376000, x376001, x376002, x376003, x376004, x376005 => if x24 = true then (some true) else (if x375005 = x376005 then ((impl_far.f x375000 x375001 x376000 x376001).bind fun t378 => (some (decide (t378 < (wrap64 ((wrap64 ((wrap64 (x375003)) + (wrap64 (x376003)))) * (wrap64 ((wrap64 (x375003)) + (wrap64 (x376003)))))))))) else ((impl_swingOf.f k x374000 x374001 x374002 x375000 x375001 x375002 x375003 x375004 x375005).bind fun t379 => ((impl_swingOf.f k x374000 x374001 x374002 x376000 x376001 x376002 x376003 x376004 x376005).bind fun t380 => ((impl_far.f x375000 x375001 x376000 x376001).bind fun t381 => (some (decide (t381 < (wrap64 ((wrap64 (t379 + t380)) * (wrap64 (t379 + t380)))))))))))
def impl_touch.f (k : Nat) (a0_0 : Int) (a0_1 : Int) (a0_2 : (Nat → Int)) (a1_0 : Int) (a1_1 : Int) (a1_2 : Int) (a1_3 : Int) (a1_4 : Int) (a1_5 : Int) (a2_0 : Int) (a2_1 : Int) (a2_2 : Int) (a2_3 : Int) (a2_4 : Int) (a2_5 : Int) : Option (Bool) := (impl_reachOf.f k a0_0 a0_1 a0_2 a1_0 a1_1 a1_2 a1_3 a1_4 a1_5).bind fun t376 => (if t376 < 0 then (impl_touch.j0 k true a0_0 a0_1 a0_2 a1_0 a1_1 a1_2 a1_3 a1_4 a1_5 a2_0 a2_1 a2_2 a2_3 a2_4 a2_5) else ((impl_reachOf.f k a0_0 a0_1 a0_2 a2_0 a2_1 a2_2 a2_3 a2_4 a2_5).bind fun t377 => (if t377 < 0 then (impl_touch.j0 k true a0_0 a0_1 a0_2 a1_0 a1_1 a1_2 a1_3 a1_4 a1_5 a2_0 a2_1 a2_2 a2_3 a2_4 a2_5) else (impl_touch.j0 k (a1_0 == a2_0 && (a1_1 == a2_1)) a0_0 a0_1 a0_2 a1_0 a1_1 a1_2 a1_3 a1_4 a1_5 a2_0 a2_1 a2_2 a2_3 a2_4 a2_5))))
def impl_touch.T5 : Bool × List (List Nat × List Nat) := (true, [([], []), ([], []), ([0, 1], [0, 1]), ([], []), ([], []), ([3, 4, 2], [3, 4]), ([2, 5], [2, 5]), ([6, 5, 0, 1, 2, 3, 4, 5, 6], [6])])
def impl_touch.B5 : List Nat := [0, 0, 3, 0, 0, 31, 63, 127]
theorem impl_touch.tab5 : rtab .any (opsOf Try.f119 5) = impl_touch.T5 := by kernel_rfl
theorem impl_touch.bits5 : waitsOk impl_touch.T5.2 impl_touch.B5 = true := by kernel_rfl
set_option maxHeartbeats 8000000 in
set_option maxRecDepth 100000 in
theorem impl_touch.calls (k : Nat) (a0_0 : Int) (a0_1 : Int) (a0_2 : (Nat → Int)) (a1_0 : Int) (a1_1 : Int) (a1_2 : Int) (a1_3 : Int) (a1_4 : Int) (a1_5 : Int) (a2_0 : Int) (a2_1 : Int) (a2_2 : Int) (a2_3 : Int) (a2_4 : Int) (a2_5 : Int) (r : Bool) (w : World) (h : impl_touch.f k a0_0 a0_1 a0_2 a1_0 a1_1 a1_2 a1_3 a1_4 a1_5 a2_0 a2_1 a2_2 a2_3 a2_4 a2_5 = some r) :
  Calls Try.prog 119 #[.agg (csBay a0_0 a0_1 a0_2), .agg #[.int .i8 a1_0, .int .i8 a1_1, .int .i8 a1_2, .int .i8 a1_3, .int .i8 a1_4, .int .i8 a1_5], .agg #[.int .i8 a2_0, .int .i8 a2_1, .int .i8 a2_2, .int .i8 a2_3, .int .i8 a2_4, .int .i8 a2_5]] w fun e w' => e = .returned (.bool r) ∧ Below w.heap.size w w' := by
 have hu28 := Try.underlying28
 have hu38 := Try.underlying38
 have hu36 := Try.underlying36
 have HB := am (Below.refl w.heap.size w)
 have H : ((impl_reachOf.f k a0_0 a0_1 a0_2 a1_0 a1_1 a1_2 a1_3 a1_4 a1_5).bind fun t376 => (if t376 < 0 then (impl_touch.j0 k true a0_0 a0_1 a0_2 a1_0 a1_1 a1_2 a1_3 a1_4 a1_5 a2_0 a2_1 a2_2 a2_3 a2_4 a2_5) else ((impl_reachOf.f k a0_0 a0_1 a0_2 a2_0 a2_1 a2_2 a2_3 a2_4 a2_5).bind fun t377 => (if t377 < 0 then (impl_touch.j0 k true a0_0 a0_1 a0_2 a1_0 a1_1 a1_2 a1_3 a1_4 a1_5 a2_0 a2_1 a2_2 a2_3 a2_4 a2_5) else (impl_touch.j0 k (a1_0 == a2_0 && (a1_1 == a2_1)) a0_0 a0_1 a0_2 a1_0 a1_1 a1_2 a1_3 a1_4 a1_5 a2_0 a2_1 a2_2 a2_3 a2_4 a2_5))))) = some r := h
 clear h
 have HC4 := am H
 clear H
 go_enter Try.func119, Try.ntmps119
 go_upto_region 1 with (first | ((with_reducible refine gate_dst (N := 3) rfl ?_); refine bxe (N := 3) (cs := (csBay a0_0 a0_1 a0_2)) (t := 28) ?_; intro gb373 hg w5 hbox hb; have BK373 := am (hbox); have GW373 := am (gN hg (below_size (be HB))); have GE373 := am (gN hg (below_size (be HB))); replace HB := am (below_step (be HB) hb); clear hb hbox hg) | ((with_reducible refine gate_dst (N := 4) rfl ?_); refine bxe (N := 4) (cs := #[.int .i8 a1_0, .int .i8 a1_1, .int .i8 a1_2, .int .i8 a1_3, .int .i8 a1_4, .int .i8 a1_5]) (t := 38) ?_; intro gb374 hg w6 hbox hb; have BK374 := am (hbox); have GW374 := am (gN hg (below_size (be HB))); have GE374 := am (gN hg (below_size (be HB))); have NB373_374 := nL BK373 hg; have NB374_373 := nR BK373 hg; replace BK373 := bB BK373 hb; replace HB := am (below_step (be HB) hb); clear hb hbox hg) | ((with_reducible refine gate_dst (N := 5) rfl ?_); refine bxe (N := 5) (cs := #[.int .i8 a2_0, .int .i8 a2_1, .int .i8 a2_2, .int .i8 a2_3, .int .i8 a2_4, .int .i8 a2_5]) (t := 38) ?_; intro gb375 hg w7 hbox hb; have BK375 := am (hbox); have GW375 := am (gN hg (below_size (be HB))); have GE375 := am (gN hg (below_size (be HB))); have NB373_375 := nL BK373 hg; have NB375_373 := nR BK373 hg; have NB374_375 := nL BK374 hg; have NB375_374 := nR BK374 hg; replace BK373 := bB BK373 hb; replace BK374 := bB BK374 hb; replace HB := am (below_step (be HB) hb); clear hb hbox hg))
 (try simp only [Act.put, List.setIfInBounds_toArray, List.set_cons_zero, List.set_cons_succ])
 go_cut [24] (fun v24 wc => ∃ (kq : Nat) (x24_3 : Bool), v24 = .bool x24_3 ∧ Aside0 (impl_touch.j0 kq x24_3 a0_0 a0_1 a0_2 a1_0 a1_1 a1_2 a1_3 a1_4 a1_5 a2_0 a2_1 a2_2 a2_3 a2_4 a2_5 = some r) ∧ Aside0 (kq ≤ k) ∧ Aside0 (wc.heap[gb373]? = some (.cells (csBay a0_0 a0_1 a0_2) 28 (0, 0))) ∧ Aside0 (wc.heap[gb374]? = some (.cells #[.int .i8 a1_0, .int .i8 a1_1, .int .i8 a1_2, .int .i8 a1_3, .int .i8 a1_4, .int .i8 a1_5] 38 (0, 0))) ∧ Aside0 (wc.heap[gb375]? = some (.cells #[.int .i8 a2_0, .int .i8 a2_1, .int .i8 a2_2, .int .i8 a2_3, .int .i8 a2_4, .int .i8 a2_5] 38 (0, 0))) ∧ Aside0 (Below w.heap.size w wc))
 case first =>
  have H := HC4.out
  clear HC4
  replace H := Option.bind_eq_some_iff.mp H
  obtain ⟨t376, A80, H⟩ := H
  try dsimp only at H
  have A8 := am A80
  clear A80
  by_cases c9 : t376 < 0
  ·rw [if_pos c9] at H
   have c9b0 : decide (t376 < 0) = true := decide_eq_true c9
   clear c9
   (first | rw [c9b0] | (simp only [i64_w, i32_w]; rw [c9b0]) | skip)
   have H' := am H
   clear H
   have hnb10 := NB373_374.out
   have hnc10 := NB374_373.out
   have hnb11 := NB373_375.out
   have hnc11 := NB375_373.out
   have hcz12_0 : w7.cell? ⟨gb373, 0, none⟩ = some (.int .i8 a0_0) := (blk_cell BK373.out 0).trans rfl
   have hcz12_1 : w7.cell? ⟨gb373, 1, none⟩ = some (.int .i8 a0_1) := (blk_cell BK373.out 1).trans rfl
   have hwz12 := lv28_at BK373.out; have haz12 := at_cells BK373.out; have hyz12 := BayAt28_of BK373.out; have hvz12 := lvv_of BK373.out
   have hfz12_0 := blk_frozen BK373.out 0
   have hfz12_1 := blk_frozen BK373.out 1
   have hfz12_2 := blk_frozen BK373.out 2
   have hnb13 := NB374_375.out
   have hnc13 := NB375_374.out
   obtain ⟨hcz14_0, hcz14_1, hcz14_2, hcz14_3, hcz14_4, hcz14_5, hfz14_0, hfz14_1, hfz14_2, hfz14_3, hfz14_4, hfz14_5⟩ := bx6 BK374
   go_wp2_with (first | ((with_reducible refine gate_callee (f := 116) rfl ?_); refine gL (some 10) Try.func116 #[.agg (csBay a0_0 a0_1 a0_2), .agg #[.int .i8 a1_0, .int .i8 a1_1, .int .i8 a1_2, .int .i8 a1_3, .int .i8 a1_4, .int .i8 a1_5]] ?_; (with_reducible refine (impl_reachOf.calls k a0_0 a0_1 a0_2 a1_0 a1_1 a1_2 a1_3 a1_4 a1_5 t376 _ A8.out).mono ?_); rintro e w15 ⟨rfl, hb⟩; refine ⟨_, rfl, ?_⟩; replace BK373 := bB BK373 hb; replace BK374 := bB BK374 hb; replace BK375 := bB BK375 hb; replace HB := am (below_step (be HB) hb); (try clear hb); (try clear hb2); (try clear hk); (try clear hi)))
   go_meet
   case rel => exact ⟨_, (true), vv, H', ⟨by first | omega | exact Nat.le_refl _⟩, ⟨kb BK373⟩, ⟨kb BK374⟩, ⟨kb BK375⟩, ⟨be HB⟩⟩
  ·rw [if_neg c9] at H
   have c9b0 : decide (t376 < 0) = false := decide_eq_false c9
   clear c9
   (first | rw [c9b0] | (simp only [i64_w, i32_w]; rw [c9b0]) | skip)
   replace H := Option.bind_eq_some_iff.mp H
   obtain ⟨t377, A160, H⟩ := H
   try dsimp only at H
   have A16 := am A160
   clear A160
   by_cases c17 : t377 < 0
   ·rw [if_pos c17] at H
    have c17b0 : decide (t377 < 0) = true := decide_eq_true c17
    clear c17
    have H' := am H
    clear H
    have hnb18 := NB373_374.out
    have hnc18 := NB374_373.out
    have hnb19 := NB373_375.out
    have hnc19 := NB375_373.out
    have hcz20_0 : w7.cell? ⟨gb373, 0, none⟩ = some (.int .i8 a0_0) := (blk_cell BK373.out 0).trans rfl
    have hcz20_1 : w7.cell? ⟨gb373, 1, none⟩ = some (.int .i8 a0_1) := (blk_cell BK373.out 1).trans rfl
    have hwz20 := lv28_at BK373.out; have haz20 := at_cells BK373.out; have hyz20 := BayAt28_of BK373.out; have hvz20 := lvv_of BK373.out
    have hfz20_0 := blk_frozen BK373.out 0
    have hfz20_1 := blk_frozen BK373.out 1
    have hfz20_2 := blk_frozen BK373.out 2
    have hnb21 := NB374_375.out
    have hnc21 := NB375_374.out
    obtain ⟨hcz22_0, hcz22_1, hcz22_2, hcz22_3, hcz22_4, hcz22_5, hfz22_0, hfz22_1, hfz22_2, hfz22_3, hfz22_4, hfz22_5⟩ := bx6 BK374
    go_wp2_with (first | ((with_reducible refine gate_callee (f := 116) rfl ?_); refine gL (some 10) Try.func116 #[.agg (csBay a0_0 a0_1 a0_2), .agg #[.int .i8 a1_0, .int .i8 a1_1, .int .i8 a1_2, .int .i8 a1_3, .int .i8 a1_4, .int .i8 a1_5]] ?_; (with_reducible refine (impl_reachOf.calls k a0_0 a0_1 a0_2 a1_0 a1_1 a1_2 a1_3 a1_4 a1_5 t376 _ A8.out).mono ?_); rintro e w23 ⟨rfl, hb⟩; refine ⟨_, rfl, ?_⟩; replace BK373 := bB BK373 hb; replace BK374 := bB BK374 hb; replace BK375 := bB BK375 hb; replace HB := am (below_step (be HB) hb); (try clear hb); (try clear hb2); (try clear hk); (try clear hi); obtain ⟨hcz24_0, hcz24_1, hwz24, haz24, hyz24, hvz24, hfz24_0, hfz24_1, hfz24_2⟩ := bb28 BK373; obtain ⟨hcz25_0, hcz25_1, hcz25_2, hcz25_3, hcz25_4, hcz25_5, hfz25_0, hfz25_1, hfz25_2, hfz25_3, hfz25_4, hfz25_5⟩ := bx6 BK375) | (go_at_call 116; (with_reducible refine (impl_reachOf.calls k a0_0 a0_1 a0_2 a2_0 a2_1 a2_2 a2_3 a2_4 a2_5 t377 _ A16.out).mono ?_); rintro e w26 ⟨rfl, hb⟩; replace BK373 := bB BK373 hb; replace BK374 := bB BK374 hb; replace BK375 := bB BK375 hb; replace HB := am (below_step (be HB) hb); (try clear hb); (try clear hb2); (try clear hk); (try clear hi)))
    go_meet
    case rel => exact ⟨_, (true), vv, H', ⟨by first | omega | exact Nat.le_refl _⟩, ⟨kb BK373⟩, ⟨kb BK374⟩, ⟨kb BK375⟩, ⟨be HB⟩⟩
   ·rw [if_neg c17] at H
    have c17b0 : decide (t377 < 0) = false := decide_eq_false c17
    clear c17
    have H' := am H
    clear H
    have hnb27 := NB373_374.out
    have hnc27 := NB374_373.out
    have hnb28 := NB373_375.out
    have hnc28 := NB375_373.out
    have hcz29_0 : w7.cell? ⟨gb373, 0, none⟩ = some (.int .i8 a0_0) := (blk_cell BK373.out 0).trans rfl
    have hcz29_1 : w7.cell? ⟨gb373, 1, none⟩ = some (.int .i8 a0_1) := (blk_cell BK373.out 1).trans rfl
    have hwz29 := lv28_at BK373.out; have haz29 := at_cells BK373.out; have hyz29 := BayAt28_of BK373.out; have hvz29 := lvv_of BK373.out
    have hfz29_0 := blk_frozen BK373.out 0
    have hfz29_1 := blk_frozen BK373.out 1
    have hfz29_2 := blk_frozen BK373.out 2
    have hnb30 := NB374_375.out
    have hnc30 := NB375_374.out
    obtain ⟨hcz31_0, hcz31_1, hcz31_2, hcz31_3, hcz31_4, hcz31_5, hfz31_0, hfz31_1, hfz31_2, hfz31_3, hfz31_4, hfz31_5⟩ := bx6 BK374
    go_wp2_with (first | ((with_reducible refine gate_callee (f := 116) rfl ?_); refine gL (some 10) Try.func116 #[.agg (csBay a0_0 a0_1 a0_2), .agg #[.int .i8 a1_0, .int .i8 a1_1, .int .i8 a1_2, .int .i8 a1_3, .int .i8 a1_4, .int .i8 a1_5]] ?_; (with_reducible refine (impl_reachOf.calls k a0_0 a0_1 a0_2 a1_0 a1_1 a1_2 a1_3 a1_4 a1_5 t376 _ A8.out).mono ?_); rintro e w32 ⟨rfl, hb⟩; refine ⟨_, rfl, ?_⟩; replace BK373 := bB BK373 hb; replace BK374 := bB BK374 hb; replace BK375 := bB BK375 hb; replace HB := am (below_step (be HB) hb); (try clear hb); (try clear hb2); (try clear hk); (try clear hi); obtain ⟨hcz33_0, hcz33_1, hwz33, haz33, hyz33, hvz33, hfz33_0, hfz33_1, hfz33_2⟩ := bb28 BK373; obtain ⟨hcz34_0, hcz34_1, hcz34_2, hcz34_3, hcz34_4, hcz34_5, hfz34_0, hfz34_1, hfz34_2, hfz34_3, hfz34_4, hfz34_5⟩ := bx6 BK375) | (go_at_call 116; (with_reducible refine (impl_reachOf.calls k a0_0 a0_1 a0_2 a2_0 a2_1 a2_2 a2_3 a2_4 a2_5 t377 _ A16.out).mono ?_); rintro e w35 ⟨rfl, hb⟩; replace BK373 := bB BK373 hb; replace BK374 := bB BK374 hb; replace BK375 := bB BK375 hb; replace HB := am (below_step (be HB) hb); (try clear hb); (try clear hb2); (try clear hk); (try clear hi); obtain ⟨hcz36_0, hcz36_1, hcz36_2, hcz36_3, hcz36_4, hcz36_5, hfz36_0, hfz36_1, hfz36_2, hfz36_3, hfz36_4, hfz36_5⟩ := bx6 BK374; obtain ⟨hcz37_0, hcz37_1, hcz37_2, hcz37_3, hcz37_4, hcz37_5, hfz37_0, hfz37_1, hfz37_2, hfz37_3, hfz37_4, hfz37_5⟩ := bx6 BK375))
    go_meet
    case rel => exact ⟨_, ((a1_0 == a2_0 && (a1_1 == a2_1))), vv, H', ⟨by first | omega | exact Nat.le_refl _⟩, ⟨kb BK373⟩, ⟨kb BK374⟩, ⟨kb BK375⟩, ⟨be HB⟩⟩
 case rest =>
  clear HC4
  try clear c1
  try clear c2
  try clear p2
  try clear c3
  try clear c9
  try clear c9b0
  try clear c10
  try clear c11
  try clear c13
  try clear c17
  try clear c17b0
  try clear c18
  try clear c19
  try clear c21
  try clear c27
  try clear c28
  try clear c30
  try clear hcz12_0
  try clear hcz12_1
  try clear hcz14_0
  try clear hcz14_1
  try clear hcz14_2
  try clear hcz14_3
  try clear hcz14_4
  try clear hcz14_5
  try clear hcz20_0
  try clear hcz20_1
  try clear hcz22_0
  try clear hcz22_1
  try clear hcz22_2
  try clear hcz22_3
  try clear hcz22_4
  try clear hcz22_5
  try clear hcz24_0
  try clear hcz24_1
  try clear hcz25_0
  try clear hcz25_1
  try clear hcz25_2
  try clear hcz25_3
  try clear hcz25_4
  try clear hcz25_5
  try clear hcz29_0
  try clear hcz29_1
  try clear hcz31_0
  try clear hcz31_1
  try clear hcz31_2
  try clear hcz31_3
  try clear hcz31_4
  try clear hcz31_5
  try clear hcz33_0
  try clear hcz33_1
  try clear hcz34_0
  try clear hcz34_1
  try clear hcz34_2
  try clear hcz34_3
  try clear hcz34_4
  try clear hcz34_5
  try clear hcz36_0
  try clear hcz36_1
  try clear hcz36_2
  try clear hcz36_3
  try clear hcz36_4
  try clear hcz36_5
  try clear hcz37_0
  try clear hcz37_1
  try clear hcz37_2
  try clear hcz37_3
  try clear hcz37_4
  try clear hcz37_5
  try clear hfz12_0
  try clear hfz12_1
  try clear hfz12_2
  try clear hfz14_0
  try clear hfz14_1
  try clear hfz14_2
  try clear hfz14_3
  try clear hfz14_4
  try clear hfz14_5
  try clear hfz20_0
  try clear hfz20_1
  try clear hfz20_2
  try clear hfz22_0
  try clear hfz22_1
  try clear hfz22_2
  try clear hfz22_3
  try clear hfz22_4
  try clear hfz22_5
  try clear hfz24_0
  try clear hfz24_1
  try clear hfz24_2
  try clear hfz25_0
  try clear hfz25_1
  try clear hfz25_2
  try clear hfz25_3
  try clear hfz25_4
  try clear hfz25_5
  try clear hfz29_0
  try clear hfz29_1
  try clear hfz29_2
  try clear hfz31_0
  try clear hfz31_1
  try clear hfz31_2
  try clear hfz31_3
  try clear hfz31_4
  try clear hfz31_5
  try clear hfz33_0
  try clear hfz33_1
  try clear hfz33_2
  try clear hfz34_0
  try clear hfz34_1
  try clear hfz34_2
  try clear hfz34_3
  try clear hfz34_4
  try clear hfz34_5
  try clear hfz36_0
  try clear hfz36_1
  try clear hfz36_2
  try clear hfz36_3
  try clear hfz36_4
  try clear hfz36_5
  try clear hfz37_0
  try clear hfz37_1
  try clear hfz37_2
  try clear hfz37_3
  try clear hfz37_4
  try clear hfz37_5
  obtain ⟨kq, x24_3, rfl, HA, HJ3, BK373, BK374, BK375, HB⟩ := hcut
  cases kq with
  | zero => exact absurd HA.out (by simp [impl_touch.j0])
  | succ kj3 =>
   have H := HA.out
   clear HA
   simp only [impl_touch.j0] at H
   by_cases c38 : x24_3 = true
   ·subst c38
    rw [if_pos rfl] at H
    obtain rfl := Option.some.inj H
    go_wp2
    go_ret
    exact ⟨by first | rfl | (simp [errW_none, errW_some] <;> rfl) | (simp [*, errW_none, errW_some] <;> rfl), be HB⟩
   ·replace c38 := Bool.eq_false_iff.mpr c38
    subst c38
    have H1 : (if a1_5 = a2_5 then ((impl_far.f a1_0 a1_1 a2_0 a2_1).bind fun t378 => (some (decide (t378 < (wrap64 ((wrap64 ((wrap64 (a1_3)) + (wrap64 (a2_3)))) * (wrap64 ((wrap64 (a1_3)) + (wrap64 (a2_3)))))))))) else ((impl_swingOf.f kj3 a0_0 a0_1 a0_2 a1_0 a1_1 a1_2 a1_3 a1_4 a1_5).bind fun t379 => ((impl_swingOf.f kj3 a0_0 a0_1 a0_2 a2_0 a2_1 a2_2 a2_3 a2_4 a2_5).bind fun t380 => ((impl_far.f a1_0 a1_1 a2_0 a2_1).bind fun t381 => (some (decide (t381 < (wrap64 ((wrap64 (t379 + t380)) * (wrap64 (t379 + t380))))))))))) = some r := by rw [if_neg (show ¬ (false = true) by decide)] at H; exact H
    clear H
    have H := H1
    clear H1
    by_cases c39 : a1_5 = a2_5
    ·rw [if_pos c39] at H
     have c39b0 : (a1_5 == a2_5) = true := beq_iff_eq.mpr c39
     have c39b1 : (a1_5 != a2_5) = false := bne_eq_false_iff_eq.mpr c39
     clear c39
     replace H := Option.bind_eq_some_iff.mp H
     obtain ⟨t378, A400, H⟩ := H
     try dsimp only at H
     have A40 := am A400
     clear A400
     obtain rfl := Option.some.inj H
     have hnb41 := NB374_373.out
     have hnc41 := NB373_374.out
     have hnb42 := NB374_375.out
     have hnc42 := NB375_374.out
     obtain ⟨hcz43_0, hcz43_1, hcz43_2, hcz43_3, hcz43_4, hcz43_5, hfz43_0, hfz43_1, hfz43_2, hfz43_3, hfz43_4, hfz43_5⟩ := bx6 BK374
     have hnb44 := NB375_373.out
     have hnc44 := NB373_375.out
     obtain ⟨hcz45_0, hcz45_1, hcz45_2, hcz45_3, hcz45_4, hcz45_5, hfz45_0, hfz45_1, hfz45_2, hfz45_3, hfz45_4, hfz45_5⟩ := bx6 BK375
     go_wp2_with (first | ((with_reducible refine gate_callee (f := 171) rfl ?_); refine gL (some 48) Try.func171 #[.agg #[.int .i8 a1_0, .int .i8 a1_1], .agg #[.int .i8 a2_0, .int .i8 a2_1]] ?_; (with_reducible refine (impl_far.calls a1_0 a1_1 a2_0 a2_1 t378 _ A40.out).mono ?_); rintro e w46 ⟨rfl, hb⟩; refine ⟨_, rfl, ?_⟩; replace BK373 := bB BK373 hb; replace BK374 := bB BK374 hb; replace BK375 := bB BK375 hb; replace HB := am (below_step (be HB) hb); (try clear hb); (try clear hb2); (try clear hk); (try clear hi)))
     go_ret
     exact ⟨by first | rfl | (simp [errW_none, errW_some] <;> rfl) | (simp [*, errW_none, errW_some] <;> rfl), be HB⟩
    ·rw [if_neg c39] at H
     have c39b0 : (a1_5 == a2_5) = false := beq_eq_false_iff_ne.mpr c39
     have c39b1 : (a1_5 != a2_5) = true := bne_iff_ne.mpr c39
     replace H := Option.bind_eq_some_iff.mp H
     obtain ⟨t379, A470, H⟩ := H
     try dsimp only at H
     have A47 := am A470
     clear A470
     replace H := Option.bind_eq_some_iff.mp H
     obtain ⟨t380, A480, H⟩ := H
     try dsimp only at H
     have A48 := am A480
     clear A480
     replace H := Option.bind_eq_some_iff.mp H
     obtain ⟨t381, A490, H⟩ := H
     try dsimp only at H
     have A49 := am A490
     clear A490
     obtain rfl := Option.some.inj H
     have hnb50 := NB374_373.out
     have hnc50 := NB373_374.out
     have hnb51 := NB374_375.out
     have hnc51 := NB375_374.out
     obtain ⟨hcz52_0, hcz52_1, hcz52_2, hcz52_3, hcz52_4, hcz52_5, hfz52_0, hfz52_1, hfz52_2, hfz52_3, hfz52_4, hfz52_5⟩ := bx6 BK374
     have hnb53 := NB375_373.out
     have hnc53 := NB373_375.out
     obtain ⟨hcz54_0, hcz54_1, hcz54_2, hcz54_3, hcz54_4, hcz54_5, hfz54_0, hfz54_1, hfz54_2, hfz54_3, hfz54_4, hfz54_5⟩ := bx6 BK375
     try go_wp2
     have n0_ := am (blk_drew BK373.out)
     have n1_ := am (blk_drew BK374.out)
     have n2_ := am (blk_drew BK375.out)
     have n3_ := am (below_drew1 HB.out)
     clear BK373
     clear BK374
     clear BK375
     clear HB
     have BK373 := n0_
     have BK374 := n1_
     have BK375 := n2_
     have HB := n3_
     clear n0_ n1_ n2_ n3_
     refine start_ (n := 8) (S := fun w' => w'.cell? ⟨gb373, 0, none⟩ = some (.int .i8 a0_0) ∧ w'.cell? ⟨gb373, 1, none⟩ = some (.int .i8 a0_1) ∧ atCells w' gb373 a0_2 ∧ BayAt28 w' gb373 ∧ lvv w' gb373 = .agg (csBay a0_0 a0_1 a0_2) ∧ w'.cell? ⟨gb374, 0, none⟩ = some (.int .i8 a1_0) ∧ w'.cell? ⟨gb374, 1, none⟩ = some (.int .i8 a1_1) ∧ w'.cell? ⟨gb374, 2, none⟩ = some (.int .i8 a1_2) ∧ w'.cell? ⟨gb374, 3, none⟩ = some (.int .i8 a1_3) ∧ w'.cell? ⟨gb374, 4, none⟩ = some (.int .i8 a1_4) ∧ w'.cell? ⟨gb374, 5, none⟩ = some (.int .i8 a1_5) ∧ w'.cell? ⟨gb375, 0, none⟩ = some (.int .i8 a2_0) ∧ w'.cell? ⟨gb375, 1, none⟩ = some (.int .i8 a2_1) ∧ w'.cell? ⟨gb375, 2, none⟩ = some (.int .i8 a2_2) ∧ w'.cell? ⟨gb375, 3, none⟩ = some (.int .i8 a2_3) ∧ w'.cell? ⟨gb375, 4, none⟩ = some (.int .i8 a2_4) ∧ w'.cell? ⟨gb375, 5, none⟩ = some (.int .i8 a2_5)) (ds := []) #[false, false, false, false, false, false, false, false] (by kernel_rfl) rfl rfl ⟨(blk_cell BK373.out 0).trans rfl, (blk_cell BK373.out 1).trans rfl, at_cells BK373.out, BayAt28_of BK373.out, lvv_of BK373.out, (blk_cell BK374.out 0).trans rfl, (blk_cell BK374.out 1).trans rfl, (blk_cell BK374.out 2).trans rfl, (blk_cell BK374.out 3).trans rfl, (blk_cell BK374.out 4).trans rfl, (blk_cell BK374.out 5).trans rfl, (blk_cell BK375.out 0).trans rfl, (blk_cell BK375.out 1).trans rfl, (blk_cell BK375.out 2).trans rfl, (blk_cell BK375.out 3).trans rfl, (blk_cell BK375.out 4).trans rfl, (blk_cell BK375.out 5).trans rfl⟩ (fun hHeld => ?_); refine with_tabW impl_touch.tab5 impl_touch.bits5 (fun HT_ HW_ => ?_)
     generalize wc.drew = w55 at BK373 BK374 BK375 HB hHeld ⊢
     refine tS (i := 0) (some 37) #[true, false, false, false, false, false, false, false] (take_ofW HT_.out HW_.out (by kernel_rfl)) hHeld ?_
     refine tS (i := 1) (some 38) #[true, true, false, false, false, false, false, false] (take_ofW HT_.out HW_.out (by kernel_rfl)) hHeld ?_
     refine tS (i := 3) (some 40) #[true, true, false, true, false, false, false, false] (take_ofW HT_.out HW_.out (by kernel_rfl)) hHeld ?_
     refine tS (i := 4) (some 41) #[true, true, false, true, true, false, false, false] (take_ofW HT_.out HW_.out (by kernel_rfl)) hHeld ?_
     refine one_ (i := 2) (N := some 39) #[true, true, true, true, true, false, false, false] rfl rfl (one_of HT_.out (by kernel_rfl)) (by decide) (fun K hK => ?_)
     refine goes_ Try.func115 (by kernel_rfl) rfl #[.agg (csBay a0_0 a0_1 a0_2), .agg #[.int .i8 a1_0, .int .i8 a1_1, .int .i8 a1_2, .int .i8 a1_3, .int .i8 a1_4, .int .i8 a1_5]] (by rfl) rfl rfl (by (try simp only [List.map_toArray, List.map_cons, List.map_nil]); first | done | rfl | (simp only [List.length_drop, List.length_take]; rfl)) ?_
     with_reducible refine (impl_swingOf.calls kj3 a0_0 a0_1 a0_2 a1_0 a1_1 a1_2 a1_3 a1_4 a1_5 t379 _ A47.out).mono ?_
     rintro e w56 ⟨rfl, hb⟩
     refine ⟨_, rfl, ?_⟩
     have n0_ := bB BK373 hb
     have n1_ := bB BK374 hb
     have n2_ := bB BK375 hb
     have n3_ := am (below_step (be HB) hb)
     clear BK373
     clear BK374
     clear BK375
     clear HB
     have BK373 := n0_
     have BK374 := n1_
     have BK375 := n2_
     have HB := n3_
     clear n0_ n1_ n2_ n3_
     (try clear hb)
     (try clear hb2)
     (try clear hk)
     (try clear hi)
     refine hK.out _ _ ⟨(blk_cell BK373.out 0).trans rfl, (blk_cell BK373.out 1).trans rfl, at_cells BK373.out, BayAt28_of BK373.out, lvv_of BK373.out, (blk_cell BK374.out 0).trans rfl, (blk_cell BK374.out 1).trans rfl, (blk_cell BK374.out 2).trans rfl, (blk_cell BK374.out 3).trans rfl, (blk_cell BK374.out 4).trans rfl, (blk_cell BK374.out 5).trans rfl, (blk_cell BK375.out 0).trans rfl, (blk_cell BK375.out 1).trans rfl, (blk_cell BK375.out 2).trans rfl, (blk_cell BK375.out 3).trans rfl, (blk_cell BK375.out 4).trans rfl, (blk_cell BK375.out 5).trans rfl⟩ (fun hHeld => ?_)
     clear hK K
     refine norm_ (a' := ?_) ?_ ?_
     rotate_left
     ·show Act.put _ (some 39) _ = _
      simp only [Act.put, List.setIfInBounds_toArray, List.set_cons_zero, List.set_cons_succ, i64_w, i32_w]
      rfl
     refine one_ (i := 5) (N := some 42) #[true, true, true, true, true, true, false, false] rfl rfl (one_of HT_.out (by kernel_rfl)) (by decide) (fun K hK => ?_)
     refine goes_ Try.func115 (by kernel_rfl) rfl #[.agg (csBay a0_0 a0_1 a0_2), .agg #[.int .i8 a2_0, .int .i8 a2_1, .int .i8 a2_2, .int .i8 a2_3, .int .i8 a2_4, .int .i8 a2_5]] (by rfl) rfl rfl (by (try simp only [List.map_toArray, List.map_cons, List.map_nil]); first | done | rfl | (simp only [List.length_drop, List.length_take]; rfl)) ?_
     with_reducible refine (impl_swingOf.calls kj3 a0_0 a0_1 a0_2 a2_0 a2_1 a2_2 a2_3 a2_4 a2_5 t380 _ A48.out).mono ?_
     rintro e w57 ⟨rfl, hb⟩
     refine ⟨_, rfl, ?_⟩
     have n0_ := bB BK373 hb
     have n1_ := bB BK374 hb
     have n2_ := bB BK375 hb
     have n3_ := am (below_step (be HB) hb)
     clear BK373
     clear BK374
     clear BK375
     clear HB
     have BK373 := n0_
     have BK374 := n1_
     have BK375 := n2_
     have HB := n3_
     clear n0_ n1_ n2_ n3_
     (try clear hb)
     (try clear hb2)
     (try clear hk)
     (try clear hi)
     refine hK.out _ _ ⟨(blk_cell BK373.out 0).trans rfl, (blk_cell BK373.out 1).trans rfl, at_cells BK373.out, BayAt28_of BK373.out, lvv_of BK373.out, (blk_cell BK374.out 0).trans rfl, (blk_cell BK374.out 1).trans rfl, (blk_cell BK374.out 2).trans rfl, (blk_cell BK374.out 3).trans rfl, (blk_cell BK374.out 4).trans rfl, (blk_cell BK374.out 5).trans rfl, (blk_cell BK375.out 0).trans rfl, (blk_cell BK375.out 1).trans rfl, (blk_cell BK375.out 2).trans rfl, (blk_cell BK375.out 3).trans rfl, (blk_cell BK375.out 4).trans rfl, (blk_cell BK375.out 5).trans rfl⟩ (fun hHeld => ?_)
     clear hK K
     refine norm_ (a' := ?_) ?_ ?_
     rotate_left
     ·show Act.put _ (some 42) _ = _
      simp only [Act.put, List.setIfInBounds_toArray, List.set_cons_zero, List.set_cons_succ, i64_w, i32_w]
      rfl
     refine pS (i := 6) (some 43) #[true, true, true, true, true, true, true, false] (any_of HT_.out (by kernel_rfl)) ?_
     refine pS (i := 7) (some 7) #[true, true, true, true, true, true, true, true] (any_of HT_.out (by kernel_rfl)) ?_
     refine done_ (done_of HT_.out (by kernel_rfl)) ?_
     obtain ⟨hcz58_0, hcz58_1, hcz58_2, hcz58_3, hcz58_4, hcz58_5, hfz58_0, hfz58_1, hfz58_2, hfz58_3, hfz58_4, hfz58_5⟩ := bx6 BK374
     obtain ⟨hcz59_0, hcz59_1, hcz59_2, hcz59_3, hcz59_4, hcz59_5, hfz59_0, hfz59_1, hfz59_2, hfz59_3, hfz59_4, hfz59_5⟩ := bx6 BK375
     try go_wp2_with (first | ((with_reducible refine gate_callee (f := 171) rfl ?_); refine gL (some 48) Try.func171 #[.agg #[.int .i8 a1_0, .int .i8 a1_1], .agg #[.int .i8 a2_0, .int .i8 a2_1]] ?_; (with_reducible refine (impl_far.calls a1_0 a1_1 a2_0 a2_1 t381 _ A49.out).mono ?_); rintro e w60 ⟨rfl, hb⟩; refine ⟨_, rfl, ?_⟩; replace BK373 := bB BK373 hb; replace BK374 := bB BK374 hb; replace BK375 := bB BK375 hb; replace HB := am (below_step (be HB) hb); (try clear hb); (try clear hb2); (try clear hk); (try clear hi)))
     go_ret
     exact ⟨by first | rfl | (simp [errW_none, errW_some] <;> rfl) | (simp [*, errW_none, errW_some] <;> rfl), be HB⟩

end Go.Proofs.Ytcollbifdfhfoaa.PFnExactPlacesFor
