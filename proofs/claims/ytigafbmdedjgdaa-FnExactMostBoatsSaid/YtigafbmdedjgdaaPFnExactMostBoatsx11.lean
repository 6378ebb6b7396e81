-- Written by a program out of this seat's translation (functions, and that the code comes to them).
import Derived.Test.YtigafbmdedjgdaaPFnExactMostBoatsx0
import Derived.Test.YtigafbmdedjgdaaPFnExactMostBoatsx1
import Derived.Test.YtigafbmdedjgdaaPFnExactMostBoatsx8
import Derived.Test.YtigafbmdedjgdaaPFnExactMostBoatsx10
namespace Go.Proofs.Ytigafbmdedjgdaa.PFnExactMostBoats
open Go.RowKit Go.Proofs.YtigafbmdedjgdaaW.PrintWords Go.Proofs.YtigafbmdedjgdaaW.PrintLast Go.Proofs.YtigafbmdedjgdaaW.PrintMore
attribute [local go_sem] max2_int min2_int max_two min_two max_three min_three max_four min_four   -- for this text's walks alone
open Go.Proofs.Ytigafbmdedjgdaa.Bay Go.Proofs.Ytigafbmdedjgdaa.Short
attribute [local go_sem ↓] lv26_eq lv32_eq
attribute [local go_sem] lvv_set lvv_drewN lvv_drew lv26_run BayAt26_set BayAt26_drewN BayAt26_drew lv32_run BayAt32_set BayAt32_drewN BayAt32_drew
set_option linter.unusedVariables false
set_option linter.unusedSimpArgs false

attribute [local go_sem high] eqA46
/-! ### impl_touch: function 31 -/
def impl_touch.j0 : Nat → Bool → Int → Int → (Nat → Int) → Int → Int → Int → Int → Int → Int → Int → Int → Int → Int → Int → Int → Option (Bool)
 | 0, _, _, _, _, _, _, _, _, _, _, _, _, _, _, _, _ => none
 | k + 1, x24, x337000, x337001, x337002, x338000, x338001, x338002, x338003, x338004, x338005, x339000, x339001, x339002, x339003, x339004, x339005 => if x24 = true then (some true) else (if x338005 = x339005 then ((impl_far.f x338000 x338001 x339000 x339001).bind fun t341 => (some (decide (t341 < (wrap64 ((wrap64 ((wrap64 (x338003)) + (wrap64 (x339003)))) * (wrap64 ((wrap64 (x338003)) + (wrap64 (x339003)))))))))) else ((impl_swingOf.f k x337000 x337001 x337002 x338000 x338001 x338002 x338003 x338004 x338005).bind fun t342 => ((impl_swingOf.f k x337000 x337001 x337002 x339000 x339001 x339002 x339003 x339004 x339005).bind fun t343 => ((impl_far.f x338000 x338001 x339000 x339001).bind fun t344 => (some (decide (t344 < (wrap64 ((wrap64 (t342 + t343)) * (wrap64 (t342 + t343)))))))))))
def impl_touch.f (k : Nat) (a0_0 : Int) (a0_1 : Int) (a0_2 : (Nat → Int)) (a1_0 : Int) (a1_1 : Int) (a1_2 : Int) (a1_3 : Int) (a1_4 : Int) (a1_5 : Int) (a2_0 : Int) (a2_1 : Int) (a2_2 : Int) (a2_3 : Int) (a2_4 : Int) (a2_5 : Int) : Option (Bool) := (impl_reachOf.f k a0_0 a0_1 a0_2 a1_0 a1_1 a1_2 a1_3 a1_4 a1_5).bind fun t339 => (if t339 < 0 then (impl_touch.j0 k true a0_0 a0_1 a0_2 a1_0 a1_1 a1_2 a1_3 a1_4 a1_5 a2_0 a2_1 a2_2 a2_3 a2_4 a2_5) else ((impl_reachOf.f k a0_0 a0_1 a0_2 a2_0 a2_1 a2_2 a2_3 a2_4 a2_5).bind fun t340 => (if t340 < 0 then (impl_touch.j0 k true a0_0 a0_1 a0_2 a1_0 a1_1 a1_2 a1_3 a1_4 a1_5 a2_0 a2_1 a2_2 a2_3 a2_4 a2_5) else (impl_touch.j0 k (a1_0 == a2_0 && (a1_1 == a2_1)) a0_0 a0_1 a0_2 a1_0 a1_1 a1_2 a1_3 a1_4 a1_5 a2_0 a2_1 a2_2 a2_3 a2_4 a2_5))))
def impl_touch.T5 : Bool × List (List Nat × List Nat) := (true, [([], []), ([], []), ([0, 1], [0, 1]), ([], []), ([], []), ([3, 4, 2], [3, 4]), ([2, 5], [2, 5]), ([6, 5, 0, 1, 2, 3, 4, 5, 6], [6])])
def impl_touch.B5 : List Nat := [0, 0, 3, 0, 0, 31, 63, 127]
theorem impl_touch.tab5 : rtab .any (opsOf Try.f31 5) = impl_touch.T5 := by kernel_rfl
theorem impl_touch.bits5 : waitsOk impl_touch.T5.2 impl_touch.B5 = true := by kernel_rfl
set_option maxHeartbeats 8000000 in
set_option maxRecDepth 100000 in
theorem impl_touch.calls (k : Nat) (a0_0 : Int) (a0_1 : Int) (a0_2 : (Nat → Int)) (a1_0 : Int) (a1_1 : Int) (a1_2 : Int) (a1_3 : Int) (a1_4 : Int) (a1_5 : Int) (a2_0 : Int) (a2_1 : Int) (a2_2 : Int) (a2_3 : Int) (a2_4 : Int) (a2_5 : Int) (r : Bool) (w : World) (h : impl_touch.f k a0_0 a0_1 a0_2 a1_0 a1_1 a1_2 a1_3 a1_4 a1_5 a2_0 a2_1 a2_2 a2_3 a2_4 a2_5 = some r) :
  Calls Try.prog 31 #[.agg (csBay a0_0 a0_1 a0_2), .agg #[.int .i8 a1_0, .int .i8 a1_1, .int .i8 a1_2, .int .i8 a1_3, .int .i8 a1_4, .int .i8 a1_5], .agg #[.int .i8 a2_0, .int .i8 a2_1, .int .i8 a2_2, .int .i8 a2_3, .int .i8 a2_4, .int .i8 a2_5]] w fun e w' => e = .returned (.bool r) ∧ Below w.heap.size w w' := by
 have hu32 := Try.underlying32
 have hu48 := Try.underlying48
 have hu46 := Try.underlying46
 have HB := am (Below.refl w.heap.size w)
 have H : ((impl_reachOf.f k a0_0 a0_1 a0_2 a1_0 a1_1 a1_2 a1_3 a1_4 a1_5).bind fun t339 => (if t339 < 0 then (impl_touch.j0 k true a0_0 a0_1 a0_2 a1_0 a1_1 a1_2 a1_3 a1_4 a1_5 a2_0 a2_1 a2_2 a2_3 a2_4 a2_5) else ((impl_reachOf.f k a0_0 a0_1 a0_2 a2_0 a2_1 a2_2 a2_3 a2_4 a2_5).bind fun t340 => (if t340 < 0 then (impl_touch.j0 k true a0_0 a0_1 a0_2 a1_0 a1_1 a1_2 a1_3 a1_4 a1_5 a2_0 a2_1 a2_2 a2_3 a2_4 a2_5) else (impl_touch.j0 k (a1_0 == a2_0 && (a1_1 == a2_1)) a0_0 a0_1 a0_2 a1_0 a1_1 a1_2 a1_3 a1_4 a1_5 a2_0 a2_1 a2_2 a2_3 a2_4 a2_5))))) = some r := h
 clear h
 have HC4 := am H
 clear H
 go_enter Try.func31, Try.ntmps31
 go_upto_region 1 with (first | ((with_reducible refine gate_dst (N := 3) rfl ?_); refine bxe (N := 3) (cs := (csBay a0_0 a0_1 a0_2)) (t := 32) ?_; intro gb336 hg w5 hbox hb; have BK336 := am (hbox); have GW336 := am (gN hg (below_size (be HB))); have GE336 := am (gN hg (below_size (be HB))); replace HB := am (below_step (be HB) hb); clear hb hbox hg) | ((with_reducible refine gate_dst (N := 4) rfl ?_); refine bxe (N := 4) (cs := #[.int .i8 a1_0, .int .i8 a1_1, .int .i8 a1_2, .int .i8 a1_3, .int .i8 a1_4, .int .i8 a1_5]) (t := 48) ?_; intro gb337 hg w6 hbox hb; have BK337 := am (hbox); have GW337 := am (gN hg (below_size (be HB))); have GE337 := am (gN hg (below_size (be HB))); have NB336_337 := nL BK336 hg; have NB337_336 := nR BK336 hg; replace BK336 := bB BK336 hb; replace HB := am (below_step (be HB) hb); clear hb hbox hg) | ((with_reducible refine gate_dst (N := 5) rfl ?_); refine bxe (N := 5) (cs := #[.int .i8 a2_0, .int .i8 a2_1, .int .i8 a2_2, .int .i8 a2_3, .int .i8 a2_4, .int .i8 a2_5]) (t := 48) ?_; intro gb338 hg w7 hbox hb; have BK338 := am (hbox); have GW338 := am (gN hg (below_size (be HB))); have GE338 := am (gN hg (below_size (be HB))); have NB336_338 := nL BK336 hg; have NB338_336 := nR BK336 hg; have NB337_338 := nL BK337 hg; have NB338_337 := nR BK337 hg; replace BK336 := bB BK336 hb; replace BK337 := bB BK337 hb; replace HB := am (below_step (be HB) hb); clear hb hbox hg))
 (try simp only [Act.put, List.setIfInBounds_toArray, List.set_cons_zero, List.set_cons_succ])
 go_cut [24] (fun v24 wc => ∃ (kq : Nat) (x24_3 : Bool), v24 = .bool x24_3 ∧ Aside0 (impl_touch.j0 kq x24_3 a0_0 a0_1 a0_2 a1_0 a1_1 a1_2 a1_3 a1_4 a1_5 a2_0 a2_1 a2_2 a2_3 a2_4 a2_5 = some r) ∧ Aside0 (kq ≤ k) ∧ Aside0 (wc.heap[gb336]? = some (.cells (csBay a0_0 a0_1 a0_2) 32 (0, 0))) ∧ Aside0 (wc.heap[gb337]? = some (.cells #[.int .i8 a1_0, .int .i8 a1_1, .int .i8 a1_2, .int .i8 a1_3, .int .i8 a1_4, .int .i8 a1_5] 48 (0, 0))) ∧ Aside0 (wc.heap[gb338]? = some (.cells #[.int .i8 a2_0, .int .i8 a2_1, .int .i8 a2_2, .int .i8 a2_3, .int .i8 a2_4, .int .i8 a2_5] 48 (0, 0))) ∧ Aside0 (Below w.heap.size w wc))
 case first =>
  have H := HC4.out
  clear HC4
  replace H := Option.bind_eq_some_iff.mp H
  obtain ⟨t339, A80, H⟩ := H
  try dsimp only at H
  have A8 := am A80
  clear A80
  by_cases c9 : t339 < 0
  ·rw [if_pos c9] at H
   have c9b0 : decide (t339 < 0) = true := decide_eq_true c9
   clear c9
   (first | rw [c9b0] | (simp only [i64_w, i32_w]; rw [c9b0]) | skip)
   have H' := am H
   clear H
   have hnb10 := NB336_337.out
   have hnc10 := NB337_336.out
   have hnb11 := NB336_338.out
   have hnc11 := NB338_336.out
   have hcz12_0 : w7.cell? ⟨gb336, 0, none⟩ = some (.int .i8 a0_0) := (blk_cell BK336.out 0).trans rfl
   have hcz12_1 : w7.cell? ⟨gb336, 1, none⟩ = some (.int .i8 a0_1) := (blk_cell BK336.out 1).trans rfl
   have hwz12 := lv32_at BK336.out; have haz12 := at_cells BK336.out; have hyz12 := BayAt32_of BK336.out; have hvz12 := lvv_of BK336.out
   have hfz12_0 := blk_frozen BK336.out 0
   have hfz12_1 := blk_frozen BK336.out 1
   have hfz12_2 := blk_frozen BK336.out 2
   have hnb13 := NB337_338.out
   have hnc13 := NB338_337.out
   obtain ⟨hcz14_0, hcz14_1, hcz14_2, hcz14_3, hcz14_4, hcz14_5, hfz14_0, hfz14_1, hfz14_2, hfz14_3, hfz14_4, hfz14_5⟩ := bx6 BK337
   go_wp2_with (first | ((with_reducible refine gate_callee (f := 39) rfl ?_); refine gL (some 10) Try.func39 #[.agg (csBay a0_0 a0_1 a0_2), .agg #[.int .i8 a1_0, .int .i8 a1_1, .int .i8 a1_2, .int .i8 a1_3, .int .i8 a1_4, .int .i8 a1_5]] ?_; (with_reducible refine (impl_reachOf.calls k a0_0 a0_1 a0_2 a1_0 a1_1 a1_2 a1_3 a1_4 a1_5 t339 _ A8.out).mono ?_); rintro e w15 ⟨rfl, hb⟩; refine ⟨_, rfl, ?_⟩; replace BK336 := bB BK336 hb; replace BK337 := bB BK337 hb; replace BK338 := bB BK338 hb; replace HB := am (below_step (be HB) hb); (try clear hb); (try clear hb2); (try clear hk); (try clear hi)))
   go_meet
   case rel => exact ⟨_, (true), vv, H', ⟨by first | omega | exact Nat.le_refl _⟩, ⟨kb BK336⟩, ⟨kb BK337⟩, ⟨kb BK338⟩, ⟨be HB⟩⟩
  ·rw [if_neg c9] at H
   have c9b0 : decide (t339 < 0) = false := decide_eq_false c9
   clear c9
   (first | rw [c9b0] | (simp only [i64_w, i32_w]; rw [c9b0]) | skip)
   replace H := Option.bind_eq_some_iff.mp H
   obtain ⟨t340, A160, H⟩ := H
   try dsimp only at H
   have A16 := am A160
   clear A160
   by_cases c17 : t340 < 0
   ·rw [if_pos c17] at H
    have c17b0 : decide (t340 < 0) = true := decide_eq_true c17
    clear c17
    have H' := am H
    clear H
    have hnb18 := NB336_337.out
    have hnc18 := NB337_336.out
    have hnb19 := NB336_338.out
    have hnc19 := NB338_336.out
    have hcz20_0 : w7.cell? ⟨gb336, 0, none⟩ = some (.int .i8 a0_0) := (blk_cell BK336.out 0).trans rfl
    have hcz20_1 : w7.cell? ⟨gb336, 1, none⟩ = some (.int .i8 a0_1) := (blk_cell BK336.out 1).trans rfl
    have hwz20 := lv32_at BK336.out; have haz20 := at_cells BK336.out; have hyz20 := BayAt32_of BK336.out; have hvz20 := lvv_of BK336.out
    have hfz20_0 := blk_frozen BK336.out 0
    have hfz20_1 := blk_frozen BK336.out 1
    have hfz20_2 := blk_frozen BK336.out 2
    have hnb21 := NB337_338.out
    have hnc21 := NB338_337.out
    obtain ⟨hcz22_0, hcz22_1, hcz22_2, hcz22_3, hcz22_4, hcz22_5, hfz22_0, hfz22_1, hfz22_2, hfz22_3, hfz22_4, hfz22_5⟩ := bx6 BK337
    go_wp2_with (first | ((with_reducible refine gate_callee (f := 39) rfl ?_); refine gL (some 10) Try.func39 #[.agg (csBay a0_0 a0_1 a0_2), .agg #[.int .i8 a1_0, .int .i8 a1_1, .int .i8 a1_2, .int .i8 a1_3, .int .i8 a1_4, .int .i8 a1_5]] ?_; (with_reducible refine (impl_reachOf.calls k a0_0 a0_1 a0_2 a1_0 a1_1 a1_2 a1_3 a1_4 a1_5 t339 _ A8.out).mono ?_); rintro e w23 ⟨rfl, hb⟩; refine ⟨_, rfl, ?_⟩; replace BK336 := bB BK336 hb; replace BK337 := bB BK337 hb; replace BK338 := bB BK338 hb; replace HB := am (below_step (be HB) hb); (try clear hb); (try clear hb2); (try clear hk); (try clear hi); obtain ⟨hcz24_0, hcz24_1, hwz24, haz24, hyz24, hvz24, hfz24_0, hfz24_1, hfz24_2⟩ := bb32 BK336; obtain ⟨hcz25_0, hcz25_1, hcz25_2, hcz25_3, hcz25_4, hcz25_5, hfz25_0, hfz25_1, hfz25_2, hfz25_3, hfz25_4, hfz25_5⟩ := bx6 BK338) | (go_at_call 39; (with_reducible refine (impl_reachOf.calls k a0_0 a0_1 a0_2 a2_0 a2_1 a2_2 a2_3 a2_4 a2_5 t340 _ A16.out).mono ?_); rintro e w26 ⟨rfl, hb⟩; replace BK336 := bB BK336 hb; replace BK337 := bB BK337 hb; replace BK338 := bB BK338 hb; replace HB := am (below_step (be HB) hb); (try clear hb); (try clear hb2); (try clear hk); (try clear hi)))
    go_meet
    case rel => exact ⟨_, (true), vv, H', ⟨by first | omega | exact Nat.le_refl _⟩, ⟨kb BK336⟩, ⟨kb BK337⟩, ⟨kb BK338⟩, ⟨be HB⟩⟩
   ·rw [if_neg c17] at H
    have c17b0 : decide (t340 < 0) = false := decide_eq_false c17
    clear c17
    have H' := am H
    clear H
    have hnb27 := NB336_337.out
    have hnc27 := NB337_336.out
    have hnb28 := NB336_338.out
    have hnc28 := NB338_336.out
    have hcz29_0 : w7.cell? ⟨gb336, 0, none⟩ = some (.int .i8 a0_0) := (blk_cell BK336.out 0).trans rfl
    have hcz29_1 : w7.cell? ⟨gb336, 1, none⟩ = some (.int .i8 a0_1) := (blk_cell BK336.out 1).trans rfl
    have hwz29 := lv32_at BK336.out; have haz29 := at_cells BK336.out; have hyz29 := BayAt32_of BK336.out; have hvz29 := lvv_of BK336.out
    have hfz29_0 := blk_frozen BK336.out 0
    have hfz29_1 := blk_frozen BK336.out 1
    have hfz29_2 := blk_frozen BK336.out 2
    have hnb30 := NB337_338.out
    have hnc30 := NB338_337.out
    obtain ⟨hcz31_0, hcz31_1, hcz31_2, hcz31_3, hcz31_4, hcz31_5, hfz31_0, hfz31_1, hfz31_2, hfz31_3, hfz31_4, hfz31_5⟩ := bx6 BK337
    go_wp2_with (first | ((with_reducible refine gate_callee (f := 39) rfl ?_); refine gL (some 10) Try.func39 #[.agg (csBay a0_0 a0_1 a0_2), .agg #[.int .i8 a1_0, .int .i8 a1_1, .int .i8 a1_2, .int .i8 a1_3, .int .i8 a1_4, .int .i8 a1_5]] ?_; (with_reducible refine (impl_reachOf.calls k a0_0 a0_1 a0_2 a1_0 a1_1 a1_2 a1_3 a1_4 a1_5 t339 _ A8.out).mono ?_); rintro e w32 ⟨rfl, hb⟩; refine ⟨_, rfl, ?_⟩; replace BK336 := bB BK336 hb; replace BK337 := bB BK337 hb; replace BK338 := bB BK338 hb; replace HB := am (below_step (be HB) hb); (try clear hb); (try clear hb2); (try clear hk); (try clear hi); obtain ⟨hcz33_0, hcz33_1, hwz33, haz33, hyz33, hvz33, hfz33_0, hfz33_1, hfz33_2⟩ := bb32 BK336; obtain ⟨hcz34_0, hcz34_1, hcz34_2, hcz34_3, hcz34_4, hcz34_5, hfz34_0, hfz34_1, hfz34_2, hfz34_3, hfz34_4, hfz34_5⟩ := bx6 BK338) | (go_at_call 39; (with_reducible refine (impl_reachOf.calls k a0_0 a0_1 a0_2 a2_0 a2_1 a2_2 a2_3 a2_4 a2_5 t340 _ A16.out).mono ?_); rintro e w35 ⟨rfl, hb⟩; replace BK336 := bB BK336 hb; replace BK337 := bB BK337 hb; replace BK338 := bB BK338 hb; replace HB := am (below_step (be HB) hb); (try clear hb); (try clear hb2); (try clear hk); (try clear hi); obtain ⟨hcz36_0, hcz36_1, hcz36_2, hcz36_3, hcz36_4, hcz36_5, hfz36_0, hfz36_1, hfz36_2, hfz36_3, hfz36_4, hfz36_5⟩ := bx6 BK337; obtain ⟨hcz37_0, hcz37_1, hcz37_2, hcz37_3, hcz37_4, hcz37_5, hfz37_0, hfz37_1, hfz37_2, hfz37_3, hfz37_4, hfz37_5⟩ := bx6 BK338))
    go_meet
    case rel => exact ⟨_, ((a1_0 == a2_0 && (a1_1 == a2_1))), vv, H', ⟨by first | omega | exact Nat.le_refl _⟩, ⟨kb BK336⟩, ⟨kb BK337⟩, ⟨kb BK338⟩, ⟨be HB⟩⟩
 case rest =>
  clear HC4
  try clear c1
  try clear c2
  try clear p2
  try clear c3
  try clear c9
  try clear c9b0
  try clear c10
  try clear c11
  try clear c13
  try clear c17
  try clear c17b0
  try clear c18
  try clear c19
  try clear c21
  try clear c27
  try clear c28
  try clear c30
  try clear c31
  try clear hcz12_0
  try clear hcz12_1
  try clear hcz14_0
  try clear hcz14_1
  try clear hcz14_2
  try clear hcz14_3
  try clear hcz14_4
  try clear hcz14_5
  try clear hcz20_0
  try clear hcz20_1
  try clear hcz22_0
  try clear hcz22_1
  try clear hcz22_2
  try clear hcz22_3
  try clear hcz22_4
  try clear hcz22_5
  try clear hcz24_0
  try clear hcz24_1
  try clear hcz25_0
  try clear hcz25_1
  try clear hcz25_2
  try clear hcz25_3
  try clear hcz25_4
  try clear hcz25_5
  try clear hcz29_0
  try clear hcz29_1
  try clear hcz31_0
  try clear hcz31_1
  try clear hcz31_2
  try clear hcz31_3
  try clear hcz31_4
  try clear hcz31_5
  try clear hcz33_0
  try clear hcz33_1
  try clear hcz34_0
  try clear hcz34_1
  try clear hcz34_2
  try clear hcz34_3
  try clear hcz34_4
  try clear hcz34_5
  try clear hcz36_0
  try clear hcz36_1
  try clear hcz36_2
  try clear hcz36_3
  try clear hcz36_4
  try clear hcz36_5
  try clear hcz37_0
  try clear hcz37_1
  try clear hcz37_2
  try clear hcz37_3
  try clear hcz37_4
  try clear hcz37_5
  try clear hfz12_0
  try clear hfz12_1
  try clear hfz12_2
  try clear hfz14_0
  try clear hfz14_1
  try clear hfz14_2
  try clear hfz14_3
  try clear hfz14_4
  try clear hfz14_5
  try clear hfz20_0
  try clear hfz20_1
  try clear hfz20_2
  try clear hfz22_0
  try clear hfz22_1
  try clear hfz22_2
  try clear hfz22_3
  try clear hfz22_4
  try clear hfz22_5
  try clear hfz24_0
  try clear hfz24_1
  try clear hfz24_2
  try clear hfz25_0
  try clear hfz25_1
  try clear hfz25_2
  try clear hfz25_3
  try clear hfz25_4
  try clear hfz25_5
  try clear hfz29_0
  try clear hfz29_1
  try clear hfz29_2
  try clear hfz31_0
  try clear hfz31_1
  try clear hfz31_2
  try clear hfz31_3
  try clear hfz31_4
  try clear hfz31_5
  try clear hfz33_0
  try clear hfz33_1
  try clear hfz33_2
  try clear hfz34_0
  try clear hfz34_1
  try clear hfz34_2
  try clear hfz34_3
  try clear hfz34_4
  try clear hfz34_5
  try clear hfz36_0
  try clear hfz36_1
  try clear hfz36_2
  try clear hfz36_3
  try clear hfz36_4
  try clear hfz36_5
  try clear hfz37_0
  try clear hfz37_1
  try clear hfz37_2
  try clear hfz37_3
  try clear hfz37_4
  try clear hfz37_5
  obtain ⟨kq, x24_3, rfl, HA, HJ3, BK336, BK337, BK338, HB⟩ := hcut
  cases kq with
  | zero => exact absurd HA.out (by simp [impl_touch.j0])
  | succ kj3 =>
   have H := HA.out
   clear HA
   simp only [impl_touch.j0] at H
   by_cases c38 : x24_3 = true
   ·subst c38
    rw [if_pos rfl] at H
    obtain rfl := Option.some.inj H
    go_wp2
    go_ret
    exact ⟨by first | rfl | (simp [errW_none, errW_some] <;> rfl) | (simp [*, errW_none, errW_some] <;> rfl), be HB⟩
   ·replace c38 := Bool.eq_false_iff.mpr c38
    subst c38
    have H1 : (if a1_5 = a2_5 then ((impl_far.f a1_0 a1_1 a2_0 a2_1).bind fun t341 => (some (decide (t341 < (wrap64 ((wrap64 ((wrap64 (a1_3)) + (wrap64 (a2_3)))) * (wrap64 ((wrap64 (a1_3)) + (wrap64 (a2_3)))))))))) else ((impl_swingOf.f kj3 a0_0 a0_1 a0_2 a1_0 a1_1 a1_2 a1_3 a1_4 a1_5).bind fun t342 => ((impl_swingOf.f kj3 a0_0 a0_1 a0_2 a2_0 a2_1 a2_2 a2_3 a2_4 a2_5).bind fun t343 => ((impl_far.f a1_0 a1_1 a2_0 a2_1).bind fun t344 => (some (decide (t344 < (wrap64 ((wrap64 (t342 + t343)) * (wrap64 (t342 + t343))))))))))) = some r := by rw [if_neg (show ¬ (false = true) by decide)] at H; exact H
    clear H
    have H := H1
    clear H1
    by_cases c39 : a1_5 = a2_5
    ·rw [if_pos c39] at H
     have c39b0 : (a1_5 == a2_5) = true := beq_iff_eq.mpr c39
     have c39b1 : (a1_5 != a2_5) = false := bne_eq_false_iff_eq.mpr c39
     clear c39
     replace H := Option.bind_eq_some_iff.mp H
     obtain ⟨t341, A400, H⟩ := H
     try dsimp only at H
     have A40 := am A400
     clear A400
     obtain rfl := Option.some.inj H
     have hnb41 := NB337_336.out
     have hnc41 := NB336_337.out
     have hnb42 := NB337_338.out
     have hnc42 := NB338_337.out
     obtain ⟨hcz43_0, hcz43_1, hcz43_2, hcz43_3, hcz43_4, hcz43_5, hfz43_0, hfz43_1, hfz43_2, hfz43_3, hfz43_4, hfz43_5⟩ := bx6 BK337
     have hnb44 := NB338_336.out
     have hnc44 := NB336_338.out
     obtain ⟨hcz45_0, hcz45_1, hcz45_2, hcz45_3, hcz45_4, hcz45_5, hfz45_0, hfz45_1, hfz45_2, hfz45_3, hfz45_4, hfz45_5⟩ := bx6 BK338
     go_wp2_with (first | ((with_reducible refine gate_callee (f := 42) rfl ?_); refine gL (some 48) Try.func42 #[.agg #[.int .i8 a1_0, .int .i8 a1_1], .agg #[.int .i8 a2_0, .int .i8 a2_1]] ?_; (with_reducible refine (impl_far.calls a1_0 a1_1 a2_0 a2_1 t341 _ A40.out).mono ?_); rintro e w46 ⟨rfl, hb⟩; refine ⟨_, rfl, ?_⟩; replace BK336 := bB BK336 hb; replace BK337 := bB BK337 hb; replace BK338 := bB BK338 hb; replace HB := am (below_step (be HB) hb); (try clear hb); (try clear hb2); (try clear hk); (try clear hi)))
     go_ret
     exact ⟨by first | rfl | (simp [errW_none, errW_some] <;> rfl) | (simp [*, errW_none, errW_some] <;> rfl), be HB⟩
    ·rw [if_neg c39] at H
     have c39b0 : (a1_5 == a2_5) = false := beq_eq_false_iff_ne.mpr c39
     have c39b1 : (a1_5 != a2_5) = true := bne_iff_ne.mpr c39
     replace H := Option.bind_eq_some_iff.mp H
     obtain ⟨t342, A470, H⟩ := H
     try dsimp only at H
     have A47 := am A470
     clear A470
     replace H := Option.bind_eq_some_iff.mp H
     obtain ⟨t343, A480, H⟩ := H
     try dsimp only at H
     have A48 := am A480
     clear A480
     replace H := Option.bind_eq_some_iff.mp H
     obtain ⟨t344, A490, H⟩ := H
     try dsimp only at H
     have A49 := am A490
     clear A490
     obtain rfl := Option.some.inj H
     have hnb50 := NB337_336.out
     have hnc50 := NB336_337.out
     have hnb51 := NB337_338.out
     have hnc51 := NB338_337.out
     obtain ⟨hcz52_0, hcz52_1, hcz52_2, hcz52_3, hcz52_4, hcz52_5, hfz52_0, hfz52_1, hfz52_2, hfz52_3, hfz52_4, hfz52_5⟩ := bx6 BK337
     have hnb53 := NB338_336.out
     have hnc53 := NB336_338.out
     obtain ⟨hcz54_0, hcz54_1, hcz54_2, hcz54_3, hcz54_4, hcz54_5, hfz54_0, hfz54_1, hfz54_2, hfz54_3, hfz54_4, hfz54_5⟩ := bx6 BK338
     try go_wp2
     have n0_ := am (blk_drew BK336.out)
     have n1_ := am (blk_drew BK337.out)
     have n2_ := am (blk_drew BK338.out)
     have n3_ := am (below_drew1 HB.out)
     clear BK336
     clear BK337
     clear BK338
     clear HB
     have BK336 := n0_
     have BK337 := n1_
     have BK338 := n2_
     have HB := n3_
     clear n0_ n1_ n2_ n3_
     refine start_ (n := 8) (S := fun w' => w'.cell? ⟨gb336, 0, none⟩ = some (.int .i8 a0_0) ∧ w'.cell? ⟨gb336, 1, none⟩ = some (.int .i8 a0_1) ∧ atCells w' gb336 a0_2 ∧ BayAt32 w' gb336 ∧ lvv w' gb336 = .agg (csBay a0_0 a0_1 a0_2) ∧ w'.cell? ⟨gb337, 0, none⟩ = some (.int .i8 a1_0) ∧ w'.cell? ⟨gb337, 1, none⟩ = some (.int .i8 a1_1) ∧ w'.cell? ⟨gb337, 2, none⟩ = some (.int .i8 a1_2) ∧ w'.cell? ⟨gb337, 3, none⟩ = some (.int .i8 a1_3) ∧ w'.cell? ⟨gb337, 4, none⟩ = some (.int .i8 a1_4) ∧ w'.cell? ⟨gb337, 5, none⟩ = some (.int .i8 a1_5) ∧ w'.cell? ⟨gb338, 0, none⟩ = some (.int .i8 a2_0) ∧ w'.cell? ⟨gb338, 1, none⟩ = some (.int .i8 a2_1) ∧ w'.cell? ⟨gb338, 2, none⟩ = some (.int .i8 a2_2) ∧ w'.cell? ⟨gb338, 3, none⟩ = some (.int .i8 a2_3) ∧ w'.cell? ⟨gb338, 4, none⟩ = some (.int .i8 a2_4) ∧ w'.cell? ⟨gb338, 5, none⟩ = some (.int .i8 a2_5)) (ds := []) #[false, false, false, false, false, false, false, false] (by kernel_rfl) rfl rfl ⟨(blk_cell BK336.out 0).trans rfl, (blk_cell BK336.out 1).trans rfl, at_cells BK336.out, BayAt32_of BK336.out, lvv_of BK336.out, (blk_cell BK337.out 0).trans rfl, (blk_cell BK337.out 1).trans rfl, (blk_cell BK337.out 2).trans rfl, (blk_cell BK337.out 3).trans rfl, (blk_cell BK337.out 4).trans rfl, (blk_cell BK337.out 5).trans rfl, (blk_cell BK338.out 0).trans rfl, (blk_cell BK338.out 1).trans rfl, (blk_cell BK338.out 2).trans rfl, (blk_cell BK338.out 3).trans rfl, (blk_cell BK338.out 4).trans rfl, (blk_cell BK338.out 5).trans rfl⟩ (fun hHeld => ?_); refine with_tabW impl_touch.tab5 impl_touch.bits5 (fun HT_ HW_ => ?_)
     generalize wc.drew = w55 at BK336 BK337 BK338 HB hHeld ⊢
     refine tS (i := 0) (some 37) #[true, false, false, false, false, false, false, false] (take_ofW HT_.out HW_.out (by kernel_rfl)) hHeld ?_
     refine tS (i := 1) (some 38) #[true, true, false, false, false, false, false, false] (take_ofW HT_.out HW_.out (by kernel_rfl)) hHeld ?_
     refine tS (i := 3) (some 40) #[true, true, false, true, false, false, false, false] (take_ofW HT_.out HW_.out (by kernel_rfl)) hHeld ?_
     refine tS (i := 4) (some 41) #[true, true, false, true, true, false, false, false] (take_ofW HT_.out HW_.out (by kernel_rfl)) hHeld ?_
     refine one_ (i := 2) (N := some 39) #[true, true, true, true, true, false, false, false] rfl rfl (one_of HT_.out (by kernel_rfl)) (by decide) (fun K hK => ?_)
     refine goes_ Try.func40 (by kernel_rfl) rfl #[.agg (csBay a0_0 a0_1 a0_2), .agg #[.int .i8 a1_0, .int .i8 a1_1, .int .i8 a1_2, .int .i8 a1_3, .int .i8 a1_4, .int .i8 a1_5]] (by rfl) rfl rfl (by (try simp only [List.map_toArray, List.map_cons, List.map_nil]); first | done | rfl | (simp only [List.length_drop, List.length_take]; rfl)) ?_
     with_reducible refine (impl_swingOf.calls kj3 a0_0 a0_1 a0_2 a1_0 a1_1 a1_2 a1_3 a1_4 a1_5 t342 _ A47.out).mono ?_
     rintro e w56 ⟨rfl, hb⟩
     refine ⟨_, rfl, ?_⟩
     have n0_ := bB BK336 hb
     have n1_ := bB BK337 hb
     have n2_ := bB BK338 hb
     have n3_ := am (below_step (be HB) hb)
     clear BK336
     clear BK337
     clear BK338
     clear HB
     have BK336 := n0_
     have BK337 := n1_
     have BK338 := n2_
     have HB := n3_
     clear n0_ n1_ n2_ n3_
     (try clear hb)
     (try clear hb2)
     (try clear hk)
     (try clear hi)
     refine hK.out _ _ ⟨(blk_cell BK336.out 0).trans rfl, (blk_cell BK336.out 1).trans rfl, at_cells BK336.out, BayAt32_of BK336.out, lvv_of BK336.out, (blk_cell BK337.out 0).trans rfl, (blk_cell BK337.out 1).trans rfl, (blk_cell BK337.out 2).trans rfl, (blk_cell BK337.out 3).trans rfl, (blk_cell BK337.out 4).trans rfl, (blk_cell BK337.out 5).trans rfl, (blk_cell BK338.out 0).trans rfl, (blk_cell BK338.out 1).trans rfl, (blk_cell BK338.out 2).trans rfl, (blk_cell BK338.out 3).trans rfl, (blk_cell BK338.out 4).trans rfl, (blk_cell BK338.out 5).trans rfl⟩ (fun hHeld => ?_)
     clear hK K
     refine norm_ (a' := ?_) ?_ ?_
     rotate_left
     ·show Act.put _ (some 39) _ = _
      simp only [Act.put, List.setIfInBounds_toArray, List.set_cons_zero, List.set_cons_succ, i64_w, i32_w]
      rfl
     refine one_ (i := 5) (N := some 42) #[true, true, true, true, true, true, false, false] rfl rfl (one_of HT_.out (by kernel_rfl)) (by decide) (fun K hK => ?_)
     refine goes_ Try.func40 (by kernel_rfl) rfl #[.agg (csBay a0_0 a0_1 a0_2), .agg #[.int .i8 a2_0, .int .i8 a2_1, .int .i8 a2_2, .int .i8 a2_3, .int .i8 a2_4, .int .i8 a2_5]] (by rfl) rfl rfl (by (try simp only [List.map_toArray, List.map_cons, List.map_nil]); first | done | rfl | (simp only [List.length_drop, List.length_take]; rfl)) ?_
     with_reducible refine (impl_swingOf.calls kj3 a0_0 a0_1 a0_2 a2_0 a2_1 a2_2 a2_3 a2_4 a2_5 t343 _ A48.out).mono ?_
     rintro e w57 ⟨rfl, hb⟩
     refine ⟨_, rfl, ?_⟩
     have n0_ := bB BK336 hb
     have n1_ := bB BK337 hb
     have n2_ := bB BK338 hb
     have n3_ := am (below_step (be HB) hb)
     clear BK336
     clear BK337
     clear BK338
     clear HB
     have BK336 := n0_
     have BK337 := n1_
     have BK338 := n2_
     have HB := n3_
     clear n0_ n1_ n2_ n3_
     (try clear hb)
     (try clear hb2)
     (try clear hk)
     (try clear hi)
     refine hK.out _ _ ⟨(blk_cell BK336.out 0).trans rfl, (blk_cell BK336.out 1).trans rfl, at_cells BK336.out, BayAt32_of BK336.out, lvv_of BK336.out, (blk_cell BK337.out 0).trans rfl, (blk_cell BK337.out 1).trans rfl, (blk_cell BK337.out 2).trans rfl, (blk_cell BK337.out 3).trans rfl, (blk_cell BK337.out 4).trans rfl, (blk_cell BK337.out 5).trans rfl, (blk_cell BK338.out 0).trans rfl, (blk_cell BK338.out 1).trans rfl, (blk_cell BK338.out 2).trans rfl, (blk_cell BK338.out 3).trans rfl, (blk_cell BK338.out 4).trans rfl, (blk_cell BK338.out 5).trans rfl⟩ (fun hHeld => ?_)
     clear hK K
     refine norm_ (a' := ?_) ?_ ?_
     rotate_left
     ·show Act.put _ (some 42) _ = _
      simp only [Act.put, List.setIfInBounds_toArray, List.set_cons_zero, List.set_cons_succ, i64_w, i32_w]
      rfl
     refine pS (i := 6) (some 43) #[true, true, true, true, true, true, true, false] (any_of HT_.out (by kernel_rfl)) ?_
     refine pS (i := 7) (some 7) #[true, true, true, true, true, true, true, true] (any_of HT_.out (by kernel_rfl)) ?_
     refine done_ (done_of HT_.out (by kernel_rfl)) ?_
     obtain ⟨hcz58_0, hcz58_1, hcz58_2, hcz58_3, hcz58_4, hcz58_5, hfz58_0, hfz58_1, hfz58_2, hfz58_3, hfz58_4, hfz58_5⟩ := bx6 BK337
     obtain ⟨hcz59_0, hcz59_1, hcz59_2, hcz59_3, hcz59_4, hcz59_5, hfz59_0, hfz59_1, hfz59_2, hfz59_3, hfz59_4, hfz59_5⟩ := bx6 BK338
     try go_wp2_with (first | ((with_reducible refine gate_callee (f := 42) rfl ?_); refine gL (some 48) Try.func42 #[.agg #[.int .i8 a1_0, .int .i8 a1_1], .agg #[.int .i8 a2_0, .int .i8 a2_1]] ?_; (with_reducible refine (impl_far.calls a1_0 a1_1 a2_0 a2_1 t344 _ A49.out).mono ?_); rintro e w60 ⟨rfl, hb⟩; refine ⟨_, rfl, ?_⟩; replace BK336 := bB BK336 hb; replace BK337 := bB BK337 hb; replace BK338 := bB BK338 hb; replace HB := am (below_step (be HB) hb); (try clear hb); (try clear hb2); (try clear hk); (try clear hi)))
     go_ret
     exact ⟨by first | rfl | (simp [errW_none, errW_some] <;> rfl) | (simp [*, errW_none, errW_some] <;> rfl), be HB⟩

/-! ### impl_comes: function 20 -/
def impl_comes.l0 : Nat → List (S48) → Int → Int → Int → Int → (Nat → Int) → Int → Int → Int → Int → Int → Int → Option (Bool)
 | 0, _, _, _, _, _, _, _, _, _, _, _, _ => none
 | k + 1, x13, x14, x15, x346000, x346001, x346002, x347000, x347001, x347002, x347003, x347004, x347005 => if x15 < x14 then (if 0 ≤ x15 then (if x15 < (x13.length : Int) then ((impl_touch.f k x346000 x346001 x346002 ((rd_T48 x13 x15).f0.f0) ((rd_T48 x13 x15).f0.f1) ((rd_T48 x13 x15).f1) ((rd_T48 x13 x15).f2) ((rd_T48 x13 x15).f3) ((rd_T48 x13 x15).f4) x347000 x347001 x347002 x347003 x347004 x347005).bind fun t350 => (if t350 = true then (some false) else (impl_comes.l0 k x13 x14 (wrap64 (x15 + 1)) x346000 x346001 x346002 x347000 x347001 x347002 x347003 x347004 x347005))) else (none)) else (none)) else (some true)
def impl_comes.f (k : Nat) (a0_0 : Int) (a0_1 : Int) (a0_2 : (Nat → Int)) (l1 : List (S48)) (a2_0 : Int) (a2_1 : Int) (a2_2 : Int) (a2_3 : Int) (a2_4 : Int) (a2_5 : Int) : Option (Bool) := (impl_safe.f k a0_0 a0_1 a0_2 a2_0 a2_1 a2_2 a2_3 a2_4 a2_5).bind fun t347 => (if t347 = true then (impl_comes.l0 k l1 (l1.length : Int) 0 a0_0 a0_1 a0_2 a2_0 a2_1 a2_2 a2_3 a2_4 a2_5) else (some false))
set_option maxHeartbeats 8000000 in
set_option maxRecDepth 100000 in
theorem impl_comes.calls (k : Nat) (a0_0 : Int) (a0_1 : Int) (a0_2 : (Nat → Int)) (A1 : Option Addr) (c1 : Nat) (l1 : List (S48)) (a2_0 : Int) (a2_1 : Int) (a2_2 : Int) (a2_3 : Int) (a2_4 : Int) (a2_5 : Int) (r : Bool) (w : World) (hr1 : Kd.C k48 w A1 l1.length l1) (hc1 : l1.length ≤ c1) (h : impl_comes.f k a0_0 a0_1 a0_2 l1 a2_0 a2_1 a2_2 a2_3 a2_4 a2_5 = some r) :
  Calls Try.prog 20 #[.agg (csBay a0_0 a0_1 a0_2), .slice A1 l1.length c1, .agg #[.int .i8 a2_0, .int .i8 a2_1, .int .i8 a2_2, .int .i8 a2_3, .int .i8 a2_4, .int .i8 a2_5]] w fun e w' => e = .returned (.bool r) ∧ Below w.heap.size w w' := by
 have hu32 := Try.underlying32
 have hu48 := Try.underlying48
 have HR1 := am hr1
 have HC1 := am hc1
 clear hr1 hc1
 have HB := am (Below.refl w.heap.size w)
 have H : ((impl_safe.f k a0_0 a0_1 a0_2 a2_0 a2_1 a2_2 a2_3 a2_4 a2_5).bind fun t347 => (if t347 = true then (impl_comes.l0 k l1 (l1.length : Int) 0 a0_0 a0_1 a0_2 a2_0 a2_1 a2_2 a2_3 a2_4 a2_5) else (some false))) = some r := h
 clear h
 replace H := Option.bind_eq_some_iff.mp H
 obtain ⟨t347, A40, H⟩ := H
 try dsimp only at H
 have A4 := am A40
 clear A40
 by_cases c5 : t347 = true
 ·subst c5
  rw [if_pos rfl] at H
  have H' := am H
  clear H
  go_enter Try.func20, Try.ntmps20
  go_wp2_with (first | ((with_reducible refine gate_dst (N := 3) rfl ?_); refine bxe (N := 3) (cs := (csBay a0_0 a0_1 a0_2)) (t := 32) ?_; intro gb345 hg w6 hbox hb; have BK345 := am (hbox); have GW345 := am (gN hg (below_size (be HB))); have GE345 := am (gN hg (below_size (be HB))); replace HB := am (below_step (be HB) hb); clear hb hbox hg) | ((with_reducible refine gate_dst (N := 5) rfl ?_); refine bxe (N := 5) (cs := #[.int .i8 a2_0, .int .i8 a2_1, .int .i8 a2_2, .int .i8 a2_3, .int .i8 a2_4, .int .i8 a2_5]) (t := 48) ?_; intro gb346 hg w7 hbox hb; have BK346 := am (hbox); have GW346 := am (gN hg (below_size (be HB))); have GE346 := am (gN hg (below_size (be HB))); have NB345_346 := nL BK345 hg; have NB346_345 := nR BK345 hg; replace BK345 := bB BK345 hb; replace HB := am (below_step (be HB) hb); clear hb hbox hg; have hnb8 := NB345_346.out; have hnc8 := NB346_345.out; obtain ⟨hcz9_0, hcz9_1, hwz9, haz9, hyz9, hvz9, hfz9_0, hfz9_1, hfz9_2⟩ := bb32 BK345; obtain ⟨hcz10_0, hcz10_1, hcz10_2, hcz10_3, hcz10_4, hcz10_5, hfz10_0, hfz10_1, hfz10_2, hfz10_3, hfz10_4, hfz10_5⟩ := bx6 BK346) | ((with_reducible refine gate_callee (f := 30) rfl ?_); refine gL (some 11) Try.func30 #[.agg (csBay a0_0 a0_1 a0_2), .agg #[.int .i8 a2_0, .int .i8 a2_1, .int .i8 a2_2, .int .i8 a2_3, .int .i8 a2_4, .int .i8 a2_5]] ?_; (with_reducible refine (impl_safe.calls k a0_0 a0_1 a0_2 a2_0 a2_1 a2_2 a2_3 a2_4 a2_5 true _ A4.out).mono ?_); rintro e w11 ⟨rfl, hb⟩; refine ⟨_, rfl, ?_⟩; replace BK345 := bB BK345 hb; replace BK346 := bB BK346 hb; replace HB := am (below_step (be HB) hb); (try clear hb); (try clear hb2); (try clear hk); (try clear hi)))
  go_loopg [15] k (fun kq v15 w' => ∃ (x15_1 : Int), v15 = .int .i64 x15_1 ∧ Aside0 (impl_comes.l0 kq l1 (l1.length : Int) x15_1 a0_0 a0_1 a0_2 a2_0 a2_1 a2_2 a2_3 a2_4 a2_5 = some r) ∧ Aside0 (kq ≤ k) ∧ Aside0 (w'.heap[gb345]? = some (.cells (csBay a0_0 a0_1 a0_2) 32 (0, 0))) ∧ Aside0 (w'.heap[gb346]? = some (.cells #[.int .i8 a2_0, .int .i8 a2_1, .int .i8 a2_2, .int .i8 a2_3, .int .i8 a2_4, .int .i8 a2_5] 48 (0, 0))) ∧ Aside0 (Below w.heap.size w w'))
  case atStart => exact ⟨(0), vv, H', ⟨Nat.le_refl _⟩, ⟨kb BK345⟩, ⟨kb BK346⟩, ⟨be HB⟩⟩
  case round =>
   clear H'
   try clear c1
   try clear c2
   try clear p2
   try clear c3
   try clear c5
   try clear c8
   try clear hcz10_0
   try clear hcz10_1
   try clear hcz10_2
   try clear hcz10_3
   try clear hcz10_4
   try clear hcz10_5
   try clear hcz9_0
   try clear hcz9_1
   try clear hfz10_0
   try clear hfz10_1
   try clear hfz10_2
   try clear hfz10_3
   try clear hfz10_4
   try clear hfz10_5
   try clear hfz9_0
   try clear hfz9_1
   try clear hfz9_2
   obtain ⟨x15_1, rfl, HA, HK1, BK345, BK346, HB⟩ := hrel
   cases gk with
   | zero => exact absurd HA.out (by simp [impl_comes.l0])
   | succ k1 =>
    have H := HA.out
    clear HA
    simp only [impl_comes.l0] at H
    by_cases c12 : x15_1 < (l1.length : Int)
    ·rw [if_pos c12] at H
     have c12b0 : decide (x15_1 < (l1.length : Int)) = true := decide_eq_true c12
     clear c12
     by_cases c13 : 0 ≤ x15_1
     ·rw [if_pos c13] at H
      have c13b0 : decide (0 ≤ x15_1) = true := decide_eq_true c13
      have c13b1 : 0 ≤ x15_1 := c13
      clear c13
      by_cases c14 : x15_1 < (l1.length : Int)
      ·rw [if_pos c14] at H
       have c14b0 : decide (x15_1 < (l1.length : Int)) = true := decide_eq_true c14
       clear c14
       replace H := Option.bind_eq_some_iff.mp H
       obtain ⟨t350, A150, H⟩ := H
       try dsimp only at H
       have A15 := am A150
       clear A150
       by_cases c16 : t350 = true
       ·subst c16
        rw [if_pos rfl] at H
        obtain rfl := Option.some.inj H
        have p348 : 0 ≤ (x15_1 : Int) := of_decide_eq_true (by first | (with_reducible assumption) | assumption)
        have q348 : x15_1 < (l1.length : Int) := of_decide_eq_true (by first | (with_reducible assumption) | assumption)
        obtain ⟨ad348, e348, hx348_0, hx348_1, hx348_2, hx348_3, hx348_4, hx348_5⟩ := at_T48 HR1.out x15_1 p348 q348
        cases e348
        replace hx348_0 := (HB.out.cell (World.block_lt_of_cell? w _ hx348_0)).trans hx348_0
        replace hx348_1 := (HB.out.cell (World.block_lt_of_cell? w _ hx348_1)).trans hx348_1
        replace hx348_2 := (HB.out.cell (World.block_lt_of_cell? w _ hx348_2)).trans hx348_2
        replace hx348_3 := (HB.out.cell (World.block_lt_of_cell? w _ hx348_3)).trans hx348_3
        replace hx348_4 := (HB.out.cell (World.block_lt_of_cell? w _ hx348_4)).trans hx348_4
        replace hx348_5 := (HB.out.cell (World.block_lt_of_cell? w _ hx348_5)).trans hx348_5
        replace p348 := eq_true p348
        replace q348 := eq_true q348
        go_wp2_with (first | ((with_reducible refine gate_dst (N := 8) rfl ?_); refine bxe (N := 8) (cs := #[.int .i8 0, .int .i8 0, .int .i8 0, .int .i8 0, .int .i8 0, .int .i8 0]) (t := 48) ?_; intro gb349 hg w17 hbox hb; have BK349 := am (hbox); have GW349 := am (gN hg (below_size (be HB))); have GE349 := am (gN hg (below_size (be HB))); have NB345_349 := nL BK345 hg; have NB349_345 := nR BK345 hg; have NB346_349 := nL BK346 hg; have NB349_346 := nR BK346 hg; replace BK345 := bB BK345 hb; replace BK346 := bB BK346 hb; replace HB := am (below_step (be HB) hb); clear hb hbox hg; have hnb18 := NB349_345.out; have hnc18 := NB345_349.out; have hnb19 := NB349_346.out; have hnc19 := NB346_349.out; obtain ⟨hcz20_0, hcz20_1, hcz20_2, hcz20_3, hcz20_4, hcz20_5, hfz20_0, hfz20_1, hfz20_2, hfz20_3, hfz20_4, hfz20_5⟩ := bx6 BK349; have hnb21 := NB345_346.out; have hnc21 := NB346_345.out; obtain ⟨hcz22_0, hcz22_1, hwz22, haz22, hyz22, hvz22, hfz22_0, hfz22_1, hfz22_2⟩ := bb32 BK345; obtain ⟨hcz23_0, hcz23_1, hcz23_2, hcz23_3, hcz23_4, hcz23_5, hfz23_0, hfz23_1, hfz23_2, hfz23_3, hfz23_4, hfz23_5⟩ := bx6 BK346) | ((with_reducible refine gate_callee (f := 31) rfl ?_); refine gL (some 22) Try.func31 #[.agg (csBay a0_0 a0_1 a0_2), .agg #[.int .i8 ((rd_T48 l1 x15_1).f0.f0), .int .i8 ((rd_T48 l1 x15_1).f0.f1), .int .i8 ((rd_T48 l1 x15_1).f1), .int .i8 ((rd_T48 l1 x15_1).f2), .int .i8 ((rd_T48 l1 x15_1).f3), .int .i8 ((rd_T48 l1 x15_1).f4)], .agg #[.int .i8 a2_0, .int .i8 a2_1, .int .i8 a2_2, .int .i8 a2_3, .int .i8 a2_4, .int .i8 a2_5]] ?_; (with_reducible refine (impl_touch.calls k1 a0_0 a0_1 a0_2 ((rd_T48 l1 x15_1).f0.f0) ((rd_T48 l1 x15_1).f0.f1) ((rd_T48 l1 x15_1).f1) ((rd_T48 l1 x15_1).f2) ((rd_T48 l1 x15_1).f3) ((rd_T48 l1 x15_1).f4) a2_0 a2_1 a2_2 a2_3 a2_4 a2_5 true _ A15.out).mono ?_); rintro e w24 ⟨rfl, hb⟩; refine ⟨_, rfl, ?_⟩; replace BK345 := am (blk_below (g := gb345) (o := .cells (csBay a0_0 a0_1 a0_2) 32 (0, 0)) (by (with_reducible repeat (first | refine blk_drewN ?_ _ | refine blk_drew ?_ | refine blk_alloc ?_ _)); refine blk_far ?_ NB345_349.out _; (with_reducible repeat (first | refine blk_drewN ?_ _ | refine blk_drew ?_ | refine blk_alloc ?_ _)); refine blk_far ?_ NB345_349.out _; (with_reducible repeat (first | refine blk_drewN ?_ _ | refine blk_drew ?_ | refine blk_alloc ?_ _)); refine blk_far ?_ NB345_349.out _; (with_reducible repeat (first | refine blk_drewN ?_ _ | refine blk_drew ?_ | refine blk_alloc ?_ _)); refine blk_far ?_ NB345_349.out _; (with_reducible repeat (first | refine blk_drewN ?_ _ | refine blk_drew ?_ | refine blk_alloc ?_ _)); refine blk_far ?_ NB345_349.out _; (with_reducible repeat (first | refine blk_drewN ?_ _ | refine blk_drew ?_ | refine blk_alloc ?_ _)); refine blk_far ?_ NB345_349.out _; exact kb BK345) hb); replace BK346 := am (blk_below (g := gb346) (o := .cells #[.int .i8 a2_0, .int .i8 a2_1, .int .i8 a2_2, .int .i8 a2_3, .int .i8 a2_4, .int .i8 a2_5] 48 (0, 0)) (by (with_reducible repeat (first | refine blk_drewN ?_ _ | refine blk_drew ?_ | refine blk_alloc ?_ _)); refine blk_far ?_ NB346_349.out _; (with_reducible repeat (first | refine blk_drewN ?_ _ | refine blk_drew ?_ | refine blk_alloc ?_ _)); refine blk_far ?_ NB346_349.out _; (with_reducible repeat (first | refine blk_drewN ?_ _ | refine blk_drew ?_ | refine blk_alloc ?_ _)); refine blk_far ?_ NB346_349.out _; (with_reducible repeat (first | refine blk_drewN ?_ _ | refine blk_drew ?_ | refine blk_alloc ?_ _)); refine blk_far ?_ NB346_349.out _; (with_reducible repeat (first | refine blk_drewN ?_ _ | refine blk_drew ?_ | refine blk_alloc ?_ _)); refine blk_far ?_ NB346_349.out _; (with_reducible repeat (first | refine blk_drewN ?_ _ | refine blk_drew ?_ | refine blk_alloc ?_ _)); refine blk_far ?_ NB346_349.out _; exact kb BK346) hb); replace BK349 := am (blk_below (g := gb349) (o := .cells #[.int .i8 ((rd_T48 l1 x15_1).f0.f0), .int .i8 ((rd_T48 l1 x15_1).f0.f1), .int .i8 ((rd_T48 l1 x15_1).f1), .int .i8 ((rd_T48 l1 x15_1).f2), .int .i8 ((rd_T48 l1 x15_1).f3), .int .i8 ((rd_T48 l1 x15_1).f4)] 48 (0, 0)) (by (with_reducible repeat (first | refine blk_drewN ?_ _ | refine blk_drew ?_ | refine blk_alloc ?_ _)); refine blk_put (cs := #[.int .i8 ((rd_T48 l1 x15_1).f0.f0), .int .i8 ((rd_T48 l1 x15_1).f0.f1), .int .i8 ((rd_T48 l1 x15_1).f1), .int .i8 ((rd_T48 l1 x15_1).f2), .int .i8 ((rd_T48 l1 x15_1).f3), .int .i8 0]) ?_ 5 _ rfl; (with_reducible repeat (first | refine blk_drewN ?_ _ | refine blk_drew ?_ | refine blk_alloc ?_ _)); refine blk_put (cs := #[.int .i8 ((rd_T48 l1 x15_1).f0.f0), .int .i8 ((rd_T48 l1 x15_1).f0.f1), .int .i8 ((rd_T48 l1 x15_1).f1), .int .i8 ((rd_T48 l1 x15_1).f2), .int .i8 0, .int .i8 0]) ?_ 4 _ rfl; (with_reducible repeat (first | refine blk_drewN ?_ _ | refine blk_drew ?_ | refine blk_alloc ?_ _)); refine blk_put (cs := #[.int .i8 ((rd_T48 l1 x15_1).f0.f0), .int .i8 ((rd_T48 l1 x15_1).f0.f1), .int .i8 ((rd_T48 l1 x15_1).f1), .int .i8 0, .int .i8 0, .int .i8 0]) ?_ 3 _ rfl; (with_reducible repeat (first | refine blk_drewN ?_ _ | refine blk_drew ?_ | refine blk_alloc ?_ _)); refine blk_put (cs := #[.int .i8 ((rd_T48 l1 x15_1).f0.f0), .int .i8 ((rd_T48 l1 x15_1).f0.f1), .int .i8 0, .int .i8 0, .int .i8 0, .int .i8 0]) ?_ 2 _ rfl; (with_reducible repeat (first | refine blk_drewN ?_ _ | refine blk_drew ?_ | refine blk_alloc ?_ _)); refine blk_put (cs := #[.int .i8 ((rd_T48 l1 x15_1).f0.f0), .int .i8 0, .int .i8 0, .int .i8 0, .int .i8 0, .int .i8 0]) ?_ 1 _ rfl; (with_reducible repeat (first | refine blk_drewN ?_ _ | refine blk_drew ?_ | refine blk_alloc ?_ _)); refine blk_put (cs := #[.int .i8 0, .int .i8 0, .int .i8 0, .int .i8 0, .int .i8 0, .int .i8 0]) ?_ 0 _ rfl; exact kb BK349) hb); replace HB := am (below_step (be HB) hb); (try clear hb); (try clear hb2); (try clear hk); (try clear hi)))
        go_ret
        exact ⟨by first | rfl | (simp [errW_none, errW_some] <;> rfl) | (simp [*, errW_none, errW_some] <;> rfl), be HB⟩
       ·replace c16 := Bool.eq_false_iff.mpr c16
        subst c16
        have H1 : (impl_comes.l0 k1 l1 (l1.length : Int) (wrap64 (x15_1 + 1)) a0_0 a0_1 a0_2 a2_0 a2_1 a2_2 a2_3 a2_4 a2_5) = some r := by rw [if_neg (show ¬ (false = true) by decide)] at H; exact H
        clear H
        have H := H1
        clear H1
        have H' := am H
        clear H
        have p348 : 0 ≤ (x15_1 : Int) := of_decide_eq_true (by first | (with_reducible assumption) | assumption)
        have q348 : x15_1 < (l1.length : Int) := of_decide_eq_true (by first | (with_reducible assumption) | assumption)
        obtain ⟨ad348, e348, hx348_0, hx348_1, hx348_2, hx348_3, hx348_4, hx348_5⟩ := at_T48 HR1.out x15_1 p348 q348
        cases e348
        replace hx348_0 := (HB.out.cell (World.block_lt_of_cell? w _ hx348_0)).trans hx348_0
        replace hx348_1 := (HB.out.cell (World.block_lt_of_cell? w _ hx348_1)).trans hx348_1
        replace hx348_2 := (HB.out.cell (World.block_lt_of_cell? w _ hx348_2)).trans hx348_2
        replace hx348_3 := (HB.out.cell (World.block_lt_of_cell? w _ hx348_3)).trans hx348_3
        replace hx348_4 := (HB.out.cell (World.block_lt_of_cell? w _ hx348_4)).trans hx348_4
        replace hx348_5 := (HB.out.cell (World.block_lt_of_cell? w _ hx348_5)).trans hx348_5
        replace p348 := eq_true p348
        replace q348 := eq_true q348
        go_wp2_with (first | ((with_reducible refine gate_dst (N := 8) rfl ?_); refine bxe (N := 8) (cs := #[.int .i8 0, .int .i8 0, .int .i8 0, .int .i8 0, .int .i8 0, .int .i8 0]) (t := 48) ?_; intro gb349 hg w25 hbox hb; have BK349 := am (hbox); have GW349 := am (gN hg (below_size (be HB))); have GE349 := am (gN hg (below_size (be HB))); have NB345_349 := nL BK345 hg; have NB349_345 := nR BK345 hg; have NB346_349 := nL BK346 hg; have NB349_346 := nR BK346 hg; replace BK345 := bB BK345 hb; replace BK346 := bB BK346 hb; replace HB := am (below_step (be HB) hb); clear hb hbox hg; have hnb26 := NB349_345.out; have hnc26 := NB345_349.out; have hnb27 := NB349_346.out; have hnc27 := NB346_349.out; obtain ⟨hcz28_0, hcz28_1, hcz28_2, hcz28_3, hcz28_4, hcz28_5, hfz28_0, hfz28_1, hfz28_2, hfz28_3, hfz28_4, hfz28_5⟩ := bx6 BK349; have hnb29 := NB345_346.out; have hnc29 := NB346_345.out; obtain ⟨hcz30_0, hcz30_1, hwz30, haz30, hyz30, hvz30, hfz30_0, hfz30_1, hfz30_2⟩ := bb32 BK345; obtain ⟨hcz31_0, hcz31_1, hcz31_2, hcz31_3, hcz31_4, hcz31_5, hfz31_0, hfz31_1, hfz31_2, hfz31_3, hfz31_4, hfz31_5⟩ := bx6 BK346) | ((with_reducible refine gate_callee (f := 31) rfl ?_); refine gL (some 22) Try.func31 #[.agg (csBay a0_0 a0_1 a0_2), .agg #[.int .i8 ((rd_T48 l1 x15_1).f0.f0), .int .i8 ((rd_T48 l1 x15_1).f0.f1), .int .i8 ((rd_T48 l1 x15_1).f1), .int .i8 ((rd_T48 l1 x15_1).f2), .int .i8 ((rd_T48 l1 x15_1).f3), .int .i8 ((rd_T48 l1 x15_1).f4)], .agg #[.int .i8 a2_0, .int .i8 a2_1, .int .i8 a2_2, .int .i8 a2_3, .int .i8 a2_4, .int .i8 a2_5]] ?_; (with_reducible refine (impl_touch.calls k1 a0_0 a0_1 a0_2 ((rd_T48 l1 x15_1).f0.f0) ((rd_T48 l1 x15_1).f0.f1) ((rd_T48 l1 x15_1).f1) ((rd_T48 l1 x15_1).f2) ((rd_T48 l1 x15_1).f3) ((rd_T48 l1 x15_1).f4) a2_0 a2_1 a2_2 a2_3 a2_4 a2_5 false _ A15.out).mono ?_); rintro e w32 ⟨rfl, hb⟩; refine ⟨_, rfl, ?_⟩; replace BK345 := am (blk_below (g := gb345) (o := .cells (csBay a0_0 a0_1 a0_2) 32 (0, 0)) (by (with_reducible repeat (first | refine blk_drewN ?_ _ | refine blk_drew ?_ | refine blk_alloc ?_ _)); refine blk_far ?_ NB345_349.out _; (with_reducible repeat (first | refine blk_drewN ?_ _ | refine blk_drew ?_ | refine blk_alloc ?_ _)); refine blk_far ?_ NB345_349.out _; (with_reducible repeat (first | refine blk_drewN ?_ _ | refine blk_drew ?_ | refine blk_alloc ?_ _)); refine blk_far ?_ NB345_349.out _; (with_reducible repeat (first | refine blk_drewN ?_ _ | refine blk_drew ?_ | refine blk_alloc ?_ _)); refine blk_far ?_ NB345_349.out _; (with_reducible repeat (first | refine blk_drewN ?_ _ | refine blk_drew ?_ | refine blk_alloc ?_ _)); refine blk_far ?_ NB345_349.out _; (with_reducible repeat (first | refine blk_drewN ?_ _ | refine blk_drew ?_ | refine blk_alloc ?_ _)); refine blk_far ?_ NB345_349.out _; exact kb BK345) hb); replace BK346 := am (blk_below (g := gb346) (o := .cells #[.int .i8 a2_0, .int .i8 a2_1, .int .i8 a2_2, .int .i8 a2_3, .int .i8 a2_4, .int .i8 a2_5] 48 (0, 0)) (by (with_reducible repeat (first | refine blk_drewN ?_ _ | refine blk_drew ?_ | refine blk_alloc ?_ _)); refine blk_far ?_ NB346_349.out _; (with_reducible repeat (first | refine blk_drewN ?_ _ | refine blk_drew ?_ | refine blk_alloc ?_ _)); refine blk_far ?_ NB346_349.out _; (with_reducible repeat (first | refine blk_drewN ?_ _ | refine blk_drew ?_ | refine blk_alloc ?_ _)); refine blk_far ?_ NB346_349.out _; (with_reducible repeat (first | refine blk_drewN ?_ _ | refine blk_drew ?_ | refine blk_alloc ?_ _)); refine blk_far ?_ NB346_349.out _; (with_reducible repeat (first | refine blk_drewN ?_ _ | refine blk_drew ?_ | refine blk_alloc ?_ _)); refine blk_far ?_ NB346_349.out _; (with_reducible repeat (first | refine blk_drewN ?_ _ | refine blk_drew ?_ | refine blk_alloc ?_ _)); refine blk_far ?_ NB346_349.out _; exact kb BK346) hb); replace BK349 := am (blk_below (g := gb349) (o := .cells #[.int .i8 ((rd_T48 l1 x15_1).f0.f0), .int .i8 ((rd_T48 l1 x15_1).f0.f1), .int .i8 ((rd_T48 l1 x15_1).f1), .int .i8 ((rd_T48 l1 x15_1).f2), .int .i8 ((rd_T48 l1 x15_1).f3), .int .i8 ((rd_T48 l1 x15_1).f4)] 48 (0, 0)) (by (with_reducible repeat (first | refine blk_drewN ?_ _ | refine blk_drew ?_ | refine blk_alloc ?_ _)); refine blk_put (cs := #[.int .i8 ((rd_T48 l1 x15_1).f0.f0), .int .i8 ((rd_T48 l1 x15_1).f0.f1), .int .i8 ((rd_T48 l1 x15_1).f1), .int .i8 ((rd_T48 l1 x15_1).f2), .int .i8 ((rd_T48 l1 x15_1).f3), .int .i8 0]) ?_ 5 _ rfl; (with_reducible repeat (first | refine blk_drewN ?_ _ | refine blk_drew ?_ | refine blk_alloc ?_ _)); refine blk_put (cs := #[.int .i8 ((rd_T48 l1 x15_1).f0.f0), .int .i8 ((rd_T48 l1 x15_1).f0.f1), .int .i8 ((rd_T48 l1 x15_1).f1), .int .i8 ((rd_T48 l1 x15_1).f2), .int .i8 0, .int .i8 0]) ?_ 4 _ rfl; (with_reducible repeat (first | refine blk_drewN ?_ _ | refine blk_drew ?_ | refine blk_alloc ?_ _)); refine blk_put (cs := #[.int .i8 ((rd_T48 l1 x15_1).f0.f0), .int .i8 ((rd_T48 l1 x15_1).f0.f1), .int .i8 ((rd_T48 l1 x15_1).f1), .int .i8 0, .int .i8 0, .int .i8 0]) ?_ 3 _ rfl; (with_reducible repeat (first | refine blk_drewN ?_ _ | refine blk_drew ?_ | refine blk_alloc ?_ _)); refine blk_put (cs := #[.int .i8 ((rd_T48 l1 x15_1).f0.f0), .int .i8 ((rd_T48 l1 x15_1).f0.f1), .int .i8 0, .int .i8 0, .int .i8 0, .int .i8 0]) ?_ 2 _ rfl; (with_reducible repeat (first | refine blk_drewN ?_ _ | refine blk_drew ?_ | refine blk_alloc ?_ _)); refine blk_put (cs := #[.int .i8 ((rd_T48 l1 x15_1).f0.f0), .int .i8 0, .int .i8 0, .int .i8 0, .int .i8 0, .int .i8 0]) ?_ 1 _ rfl; (with_reducible repeat (first | refine blk_drewN ?_ _ | refine blk_drew ?_ | refine blk_alloc ?_ _)); refine blk_put (cs := #[.int .i8 0, .int .i8 0, .int .i8 0, .int .i8 0, .int .i8 0, .int .i8 0]) ?_ 0 _ rfl; exact kb BK349) hb); replace HB := am (below_step (be HB) hb); (try clear hb); (try clear hb2); (try clear hk); (try clear hi)))
        go_roundg k1
        case measure => have := HK1.out; omega
        case rel => exact ⟨(wrap64 (x15_1 + 1)), vv, H', ⟨by have := HK1.out; omega⟩, ⟨kb BK345⟩, ⟨kb BK346⟩, ⟨be HB⟩⟩
      ·rw [if_neg c14] at H
       exact absurd H (by simp)
     ·rw [if_neg c13] at H
      exact absurd H (by simp)
    ·rw [if_neg c12] at H
     have c12b0 : decide (x15_1 < (l1.length : Int)) = false := decide_eq_false c12
     clear c12
     obtain rfl := Option.some.inj H
     go_wp2
     go_ret
     exact ⟨by first | rfl | (simp [errW_none, errW_some] <;> rfl) | (simp [*, errW_none, errW_some] <;> rfl), be HB⟩
 ·replace c5 := Bool.eq_false_iff.mpr c5
  subst c5
  have H1 : (some false) = some r := by rw [if_neg (show ¬ (false = true) by decide)] at H; exact H
  clear H
  have H := H1
  clear H1
  obtain rfl := Option.some.inj H
  go_enter Try.func20, Try.ntmps20
  go_wp2_with (first | ((with_reducible refine gate_dst (N := 3) rfl ?_); refine bxe (N := 3) (cs := (csBay a0_0 a0_1 a0_2)) (t := 32) ?_; intro gb345 hg w33 hbox hb; have BK345 := am (hbox); have GW345 := am (gN hg (below_size (be HB))); have GE345 := am (gN hg (below_size (be HB))); replace HB := am (below_step (be HB) hb); clear hb hbox hg) | ((with_reducible refine gate_dst (N := 5) rfl ?_); refine bxe (N := 5) (cs := #[.int .i8 a2_0, .int .i8 a2_1, .int .i8 a2_2, .int .i8 a2_3, .int .i8 a2_4, .int .i8 a2_5]) (t := 48) ?_; intro gb346 hg w34 hbox hb; have BK346 := am (hbox); have GW346 := am (gN hg (below_size (be HB))); have GE346 := am (gN hg (below_size (be HB))); have NB345_346 := nL BK345 hg; have NB346_345 := nR BK345 hg; replace BK345 := bB BK345 hb; replace HB := am (below_step (be HB) hb); clear hb hbox hg; have hnb35 := NB345_346.out; have hnc35 := NB346_345.out; obtain ⟨hcz36_0, hcz36_1, hwz36, haz36, hyz36, hvz36, hfz36_0, hfz36_1, hfz36_2⟩ := bb32 BK345; obtain ⟨hcz37_0, hcz37_1, hcz37_2, hcz37_3, hcz37_4, hcz37_5, hfz37_0, hfz37_1, hfz37_2, hfz37_3, hfz37_4, hfz37_5⟩ := bx6 BK346) | ((with_reducible refine gate_callee (f := 30) rfl ?_); refine gL (some 11) Try.func30 #[.agg (csBay a0_0 a0_1 a0_2), .agg #[.int .i8 a2_0, .int .i8 a2_1, .int .i8 a2_2, .int .i8 a2_3, .int .i8 a2_4, .int .i8 a2_5]] ?_; (with_reducible refine (impl_safe.calls k a0_0 a0_1 a0_2 a2_0 a2_1 a2_2 a2_3 a2_4 a2_5 false _ A4.out).mono ?_); rintro e w38 ⟨rfl, hb⟩; refine ⟨_, rfl, ?_⟩; replace BK345 := bB BK345 hb; replace BK346 := bB BK346 hb; replace HB := am (below_step (be HB) hb); (try clear hb); (try clear hb2); (try clear hk); (try clear hi)))
  go_ret
  exact ⟨by first | rfl | (simp [errW_none, errW_some] <;> rfl) | (simp [*, errW_none, errW_some] <;> rfl), be HB⟩

end Go.Proofs.Ytigafbmdedjgdaa.PFnExactMostBoats
