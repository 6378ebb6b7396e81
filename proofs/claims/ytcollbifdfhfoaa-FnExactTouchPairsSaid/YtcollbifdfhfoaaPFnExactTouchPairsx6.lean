-- Written by a program out of this seat's translation (functions, and that the code comes to them).
import Derived.Test.YtcollbifdfhfoaaPFnExactTouchPairsx0
import Derived.Test.YtcollbifdfhfoaaPFnExactTouchPairsx5
namespace Go.Proofs.Ytcollbifdfhfoaa.PFnExactTouchPairs
open Go.RowKit Go.Proofs.YtcollbifdfhfoaaW.PrintWords Go.Proofs.YtcollbifdfhfoaaW.PrintLast Go.Proofs.YtcollbifdfhfoaaW.PrintMore
attribute [local go_sem] max2_int min2_int max_two min_two max_three min_three max_four min_four   -- for this text's walks alone
open Go.Proofs.Ytcollbifdfhfoaa.Bay Go.Proofs.Ytcollbifdfhfoaa.Short
attribute [local go_sem ↓] lv26_eq lv28_eq
attribute [local go_sem] lvv_set lvv_drewN lvv_drew lv26_run BayAt26_set BayAt26_drewN BayAt26_drew lv28_run BayAt28_set BayAt28_drewN BayAt28_drew
set_option linter.unusedVariables false
set_option linter.unusedSimpArgs false

/-! ### impl_boatsCode: function 125 -/
def impl_boatsCode.l0 : Nat → List (S38) → List (S38) → Int → Int → Int → Int → (Nat → Int) → Option (Int)
 | 0, _, _, _, _, _, _, _ => none
 | k + 1, x1, x10, x11, x12, x209000, x209001, x209002 => if x12 < x11 then (if 0 ≤ x12 then (if x12 < (x10.length : Int) then ((impl_isBoat.f x209000 x209001 x209002 ((rd_T38 x10 x12).f0.f0) ((rd_T38 x10 x12).f0.f1) ((rd_T38 x10 x12).f1) ((rd_T38 x10 x12).f2) ((rd_T38 x10 x12).f3) ((rd_T38 x10 x12).f4)).bind fun t212 => (if t212 = true then (impl_boatsCode.l0 k x1 x10 x11 (wrap64 (x12 + 1)) x209000 x209001 x209002) else (some 1))) else (none)) else (none)) else (if (x1.length : Int) > 10 then (some 3) else (some 0))
def impl_boatsCode.f (k : Nat) (a0_0 : Int) (a0_1 : Int) (a0_2 : (Nat → Int)) (l1 : List (S38)) : Option (Int) := (impl_ValidBay.f a0_0 a0_1 a0_2).bind fun t209 => (if t209 = true then (impl_boatsCode.l0 k l1 l1 (l1.length : Int) 0 a0_0 a0_1 a0_2) else (some 1))
set_option maxHeartbeats 8000000 in
set_option maxRecDepth 100000 in
theorem impl_boatsCode.calls (k : Nat) (a0_0 : Int) (a0_1 : Int) (a0_2 : (Nat → Int)) (A1 : Option Addr) (c1 : Nat) (l1 : List (S38)) (r : Int) (w : World) (hr1 : Kd.C k38 w A1 l1.length l1) (hc1 : l1.length ≤ c1) (h : impl_boatsCode.f k a0_0 a0_1 a0_2 l1 = some r) :
  Calls Try.prog 125 #[.agg (csBay a0_0 a0_1 a0_2), .slice A1 l1.length c1] w fun e w' => e = .returned (.int .i64 r) ∧ Below w.heap.size w w' := by
 have hu28 := Try.underlying28
 have hu38 := Try.underlying38
 have HR1 := am hr1
 have HC1 := am hc1
 clear hr1 hc1
 have HB := am (Below.refl w.heap.size w)
 have H : ((impl_ValidBay.f a0_0 a0_1 a0_2).bind fun t209 => (if t209 = true then (impl_boatsCode.l0 k l1 l1 (l1.length : Int) 0 a0_0 a0_1 a0_2) else (some 1))) = some r := h
 clear h
 replace H := Option.bind_eq_some_iff.mp H
 obtain ⟨t209, A30, H⟩ := H
 try dsimp only at H
 have A3 := am A30
 clear A30
 by_cases c4 : t209 = true
 ·subst c4
  rw [if_pos rfl] at H
  have H' := am H
  clear H
  go_enter Try.func125, Try.ntmps125
  go_wp2_with (first | ((with_reducible refine gate_dst (N := 2) rfl ?_); refine bxe (N := 2) (cs := (csBay a0_0 a0_1 a0_2)) (t := 28) ?_; intro gb208 hg w5 hbox hb; have BK208 := am (hbox); have GW208 := am (gN hg (below_size (be HB))); have GE208 := am (gN hg (below_size (be HB))); replace HB := am (below_step (be HB) hb); clear hb hbox hg; have hcz6_0 : w5.cell? ⟨gb208, 0, none⟩ = some (.int .i8 a0_0) := (blk_cell BK208.out 0).trans rfl; have hcz6_1 : w5.cell? ⟨gb208, 1, none⟩ = some (.int .i8 a0_1) := (blk_cell BK208.out 1).trans rfl; have hwz6 := lv28_at BK208.out; have haz6 := at_cells BK208.out; have hyz6 := BayAt28_of BK208.out; have hvz6 := lvv_of BK208.out; have hfz6_0 := blk_frozen BK208.out 0; have hfz6_1 := blk_frozen BK208.out 1; have hfz6_2 := blk_frozen BK208.out 2) | ((with_reducible refine gate_callee (f := 27) rfl ?_); refine gL (some 8) Try.func27 #[.agg (csBay a0_0 a0_1 a0_2)] ?_; (with_reducible refine (impl_ValidBay.calls a0_0 a0_1 a0_2 true _ A3.out).mono ?_); rintro e w7 ⟨rfl, hb⟩; refine ⟨_, rfl, ?_⟩; replace BK208 := bB BK208 hb; replace HB := am (below_step (be HB) hb); (try clear hb); (try clear hb2); (try clear hk); (try clear hi)))
  go_loopg [12] k (fun kq v12 w' => ∃ (x12_1 : Int), v12 = .int .i64 x12_1 ∧ Aside0 (impl_boatsCode.l0 kq l1 l1 (l1.length : Int) x12_1 a0_0 a0_1 a0_2 = some r) ∧ Aside0 (kq ≤ k) ∧ Aside0 (w'.heap[gb208]? = some (.cells (csBay a0_0 a0_1 a0_2) 28 (0, 0))) ∧ Aside0 (Below w.heap.size w w'))
  case atStart => exact ⟨(0), vx, H', ⟨Nat.le_refl _⟩, ⟨kb BK208⟩, ⟨be HB⟩⟩
  case round =>
   clear H'
   try clear c1
   try clear c2
   try clear p2
   try clear c4
   try clear hcz6_0
   try clear hcz6_1
   try clear hfz6_0
   try clear hfz6_1
   try clear hfz6_2
   obtain ⟨x12_1, rfl, HA, HK1, BK208, HB⟩ := hrel
   cases gk with
   | zero => exact absurd HA.out (by simp [impl_boatsCode.l0])
   | succ k1 =>
    have H := HA.out
    clear HA
    simp only [impl_boatsCode.l0] at H
    by_cases c8 : x12_1 < (l1.length : Int)
    ·rw [if_pos c8] at H
     have c8b0 : decide (x12_1 < (l1.length : Int)) = true := decide_eq_true c8
     clear c8
     by_cases c9 : 0 ≤ x12_1
     ·rw [if_pos c9] at H
      have c9b0 : decide (0 ≤ x12_1) = true := decide_eq_true c9
      have c9b1 : 0 ≤ x12_1 := c9
      clear c9
      by_cases c10 : x12_1 < (l1.length : Int)
      ·rw [if_pos c10] at H
       have c10b0 : decide (x12_1 < (l1.length : Int)) = true := decide_eq_true c10
       clear c10
       replace H := Option.bind_eq_some_iff.mp H
       obtain ⟨t212, A110, H⟩ := H
       try dsimp only at H
       have A11 := am A110
       clear A110
       by_cases c12 : t212 = true
       ·subst c12
        rw [if_pos rfl] at H
        have H' := am H
        clear H
        have p210 : 0 ≤ (x12_1 : Int) := of_decide_eq_true (by first | (with_reducible assumption) | assumption)
        have q210 : x12_1 < (l1.length : Int) := of_decide_eq_true (by first | (with_reducible assumption) | assumption)
        obtain ⟨ad210, e210, hx210_0, hx210_1, hx210_2, hx210_3, hx210_4, hx210_5⟩ := at_T38 HR1.out x12_1 p210 q210
        cases e210
        replace hx210_0 := (HB.out.cell (World.block_lt_of_cell? w _ hx210_0)).trans hx210_0
        replace hx210_1 := (HB.out.cell (World.block_lt_of_cell? w _ hx210_1)).trans hx210_1
        replace hx210_2 := (HB.out.cell (World.block_lt_of_cell? w _ hx210_2)).trans hx210_2
        replace hx210_3 := (HB.out.cell (World.block_lt_of_cell? w _ hx210_3)).trans hx210_3
        replace hx210_4 := (HB.out.cell (World.block_lt_of_cell? w _ hx210_4)).trans hx210_4
        replace hx210_5 := (HB.out.cell (World.block_lt_of_cell? w _ hx210_5)).trans hx210_5
        replace p210 := eq_true p210
        replace q210 := eq_true q210
        go_wp2_with (first | ((with_reducible refine gate_dst (N := 6) rfl ?_); refine bxe (N := 6) (cs := #[.int .i8 0, .int .i8 0, .int .i8 0, .int .i8 0, .int .i8 0, .int .i8 0]) (t := 38) ?_; intro gb211 hg w13 hbox hb; have BK211 := am (hbox); have GW211 := am (gN hg (below_size (be HB))); have GE211 := am (gN hg (below_size (be HB))); have NB208_211 := nL BK208 hg; have NB211_208 := nR BK208 hg; replace BK208 := bB BK208 hb; replace HB := am (below_step (be HB) hb); clear hb hbox hg; have hnb14 := NB211_208.out; have hnc14 := NB208_211.out; obtain ⟨hcz15_0, hcz15_1, hcz15_2, hcz15_3, hcz15_4, hcz15_5, hfz15_0, hfz15_1, hfz15_2, hfz15_3, hfz15_4, hfz15_5⟩ := bx6 BK211; have hcz16_0 : w13.cell? ⟨gb208, 0, none⟩ = some (.int .i8 a0_0) := (blk_cell BK208.out 0).trans rfl; have hcz16_1 : w13.cell? ⟨gb208, 1, none⟩ = some (.int .i8 a0_1) := (blk_cell BK208.out 1).trans rfl; have hwz16 := lv28_at BK208.out; have haz16 := at_cells BK208.out; have hyz16 := BayAt28_of BK208.out; have hvz16 := lvv_of BK208.out; have hfz16_0 := blk_frozen BK208.out 0; have hfz16_1 := blk_frozen BK208.out 1; have hfz16_2 := blk_frozen BK208.out 2) | ((with_reducible refine gate_callee (f := 107) rfl ?_); refine gL (some 18) Try.func107 #[.agg (csBay a0_0 a0_1 a0_2), .agg #[.int .i8 ((rd_T38 l1 x12_1).f0.f0), .int .i8 ((rd_T38 l1 x12_1).f0.f1), .int .i8 ((rd_T38 l1 x12_1).f1), .int .i8 ((rd_T38 l1 x12_1).f2), .int .i8 ((rd_T38 l1 x12_1).f3), .int .i8 ((rd_T38 l1 x12_1).f4)]] ?_; (with_reducible refine (impl_isBoat.calls a0_0 a0_1 a0_2 ((rd_T38 l1 x12_1).f0.f0) ((rd_T38 l1 x12_1).f0.f1) ((rd_T38 l1 x12_1).f1) ((rd_T38 l1 x12_1).f2) ((rd_T38 l1 x12_1).f3) ((rd_T38 l1 x12_1).f4) true _ A11.out).mono ?_); rintro e w17 ⟨rfl, hb⟩; refine ⟨_, rfl, ?_⟩; replace BK208 := am (blk_below (g := gb208) (o := .cells (csBay a0_0 a0_1 a0_2) 28 (0, 0)) (by (with_reducible repeat (first | refine blk_drewN ?_ _ | refine blk_drew ?_ | refine blk_alloc ?_ _)); refine blk_far ?_ NB208_211.out _; (with_reducible repeat (first | refine blk_drewN ?_ _ | refine blk_drew ?_ | refine blk_alloc ?_ _)); refine blk_far ?_ NB208_211.out _; (with_reducible repeat (first | refine blk_drewN ?_ _ | refine blk_drew ?_ | refine blk_alloc ?_ _)); refine blk_far ?_ NB208_211.out _; (with_reducible repeat (first | refine blk_drewN ?_ _ | refine blk_drew ?_ | refine blk_alloc ?_ _)); refine blk_far ?_ NB208_211.out _; (with_reducible repeat (first | refine blk_drewN ?_ _ | refine blk_drew ?_ | refine blk_alloc ?_ _)); refine blk_far ?_ NB208_211.out _; (with_reducible repeat (first | refine blk_drewN ?_ _ | refine blk_drew ?_ | refine blk_alloc ?_ _)); refine blk_far ?_ NB208_211.out _; exact kb BK208) hb); replace BK211 := am (blk_below (g := gb211) (o := .cells #[.int .i8 ((rd_T38 l1 x12_1).f0.f0), .int .i8 ((rd_T38 l1 x12_1).f0.f1), .int .i8 ((rd_T38 l1 x12_1).f1), .int .i8 ((rd_T38 l1 x12_1).f2), .int .i8 ((rd_T38 l1 x12_1).f3), .int .i8 ((rd_T38 l1 x12_1).f4)] 38 (0, 0)) (by (with_reducible repeat (first | refine blk_drewN ?_ _ | refine blk_drew ?_ | refine blk_alloc ?_ _)); refine blk_put (cs := #[.int .i8 ((rd_T38 l1 x12_1).f0.f0), .int .i8 ((rd_T38 l1 x12_1).f0.f1), .int .i8 ((rd_T38 l1 x12_1).f1), .int .i8 ((rd_T38 l1 x12_1).f2), .int .i8 ((rd_T38 l1 x12_1).f3), .int .i8 0]) ?_ 5 _ rfl; (with_reducible repeat (first | refine blk_drewN ?_ _ | refine blk_drew ?_ | refine blk_alloc ?_ _)); refine blk_put (cs := #[.int .i8 ((rd_T38 l1 x12_1).f0.f0), .int .i8 ((rd_T38 l1 x12_1).f0.f1), .int .i8 ((rd_T38 l1 x12_1).f1), .int .i8 ((rd_T38 l1 x12_1).f2), .int .i8 0, .int .i8 0]) ?_ 4 _ rfl; (with_reducible repeat (first | refine blk_drewN ?_ _ | refine blk_drew ?_ | refine blk_alloc ?_ _)); refine blk_put (cs := #[.int .i8 ((rd_T38 l1 x12_1).f0.f0), .int .i8 ((rd_T38 l1 x12_1).f0.f1), .int .i8 ((rd_T38 l1 x12_1).f1), .int .i8 0, .int .i8 0, .int .i8 0]) ?_ 3 _ rfl; (with_reducible repeat (first | refine blk_drewN ?_ _ | refine blk_drew ?_ | refine blk_alloc ?_ _)); refine blk_put (cs := #[.int .i8 ((rd_T38 l1 x12_1).f0.f0), .int .i8 ((rd_T38 l1 x12_1).f0.f1), .int .i8 0, .int .i8 0, .int .i8 0, .int .i8 0]) ?_ 2 _ rfl; (with_reducible repeat (first | refine blk_drewN ?_ _ | refine blk_drew ?_ | refine blk_alloc ?_ _)); refine blk_put (cs := #[.int .i8 ((rd_T38 l1 x12_1).f0.f0), .int .i8 0, .int .i8 0, .int .i8 0, .int .i8 0, .int .i8 0]) ?_ 1 _ rfl; (with_reducible repeat (first | refine blk_drewN ?_ _ | refine blk_drew ?_ | refine blk_alloc ?_ _)); refine blk_put (cs := #[.int .i8 0, .int .i8 0, .int .i8 0, .int .i8 0, .int .i8 0, .int .i8 0]) ?_ 0 _ rfl; exact kb BK211) hb); replace HB := am (below_step (be HB) hb); (try clear hb); (try clear hb2); (try clear hk); (try clear hi)))
        go_roundg k1
        case measure => have := HK1.out; omega
        case rel => exact ⟨(wrap64 (x12_1 + 1)), vx, H', ⟨by have := HK1.out; omega⟩, ⟨kb BK208⟩, ⟨be HB⟩⟩
       ·replace c12 := Bool.eq_false_iff.mpr c12
        subst c12
        have H1 : (some 1) = some r := by rw [if_neg (show ¬ (false = true) by decide)] at H; exact H
        clear H
        have H := H1
        clear H1
        obtain rfl := Option.some.inj H
        have p210 : 0 ≤ (x12_1 : Int) := of_decide_eq_true (by first | (with_reducible assumption) | assumption)
        have q210 : x12_1 < (l1.length : Int) := of_decide_eq_true (by first | (with_reducible assumption) | assumption)
        obtain ⟨ad210, e210, hx210_0, hx210_1, hx210_2, hx210_3, hx210_4, hx210_5⟩ := at_T38 HR1.out x12_1 p210 q210
        cases e210
        replace hx210_0 := (HB.out.cell (World.block_lt_of_cell? w _ hx210_0)).trans hx210_0
        replace hx210_1 := (HB.out.cell (World.block_lt_of_cell? w _ hx210_1)).trans hx210_1
        replace hx210_2 := (HB.out.cell (World.block_lt_of_cell? w _ hx210_2)).trans hx210_2
        replace hx210_3 := (HB.out.cell (World.block_lt_of_cell? w _ hx210_3)).trans hx210_3
        replace hx210_4 := (HB.out.cell (World.block_lt_of_cell? w _ hx210_4)).trans hx210_4
        replace hx210_5 := (HB.out.cell (World.block_lt_of_cell? w _ hx210_5)).trans hx210_5
        replace p210 := eq_true p210
        replace q210 := eq_true q210
        go_wp2_with (first | ((with_reducible refine gate_dst (N := 6) rfl ?_); refine bxe (N := 6) (cs := #[.int .i8 0, .int .i8 0, .int .i8 0, .int .i8 0, .int .i8 0, .int .i8 0]) (t := 38) ?_; intro gb211 hg w18 hbox hb; have BK211 := am (hbox); have GW211 := am (gN hg (below_size (be HB))); have GE211 := am (gN hg (below_size (be HB))); have NB208_211 := nL BK208 hg; have NB211_208 := nR BK208 hg; replace BK208 := bB BK208 hb; replace HB := am (below_step (be HB) hb); clear hb hbox hg; have hnb19 := NB211_208.out; have hnc19 := NB208_211.out; obtain ⟨hcz20_0, hcz20_1, hcz20_2, hcz20_3, hcz20_4, hcz20_5, hfz20_0, hfz20_1, hfz20_2, hfz20_3, hfz20_4, hfz20_5⟩ := bx6 BK211; have hcz21_0 : w18.cell? ⟨gb208, 0, none⟩ = some (.int .i8 a0_0) := (blk_cell BK208.out 0).trans rfl; have hcz21_1 : w18.cell? ⟨gb208, 1, none⟩ = some (.int .i8 a0_1) := (blk_cell BK208.out 1).trans rfl; have hwz21 := lv28_at BK208.out; have haz21 := at_cells BK208.out; have hyz21 := BayAt28_of BK208.out; have hvz21 := lvv_of BK208.out; have hfz21_0 := blk_frozen BK208.out 0; have hfz21_1 := blk_frozen BK208.out 1; have hfz21_2 := blk_frozen BK208.out 2) | ((with_reducible refine gate_callee (f := 107) rfl ?_); refine gL (some 18) Try.func107 #[.agg (csBay a0_0 a0_1 a0_2), .agg #[.int .i8 ((rd_T38 l1 x12_1).f0.f0), .int .i8 ((rd_T38 l1 x12_1).f0.f1), .int .i8 ((rd_T38 l1 x12_1).f1), .int .i8 ((rd_T38 l1 x12_1).f2), .int .i8 ((rd_T38 l1 x12_1).f3), .int .i8 ((rd_T38 l1 x12_1).f4)]] ?_; (with_reducible refine (impl_isBoat.calls a0_0 a0_1 a0_2 ((rd_T38 l1 x12_1).f0.f0) ((rd_T38 l1 x12_1).f0.f1) ((rd_T38 l1 x12_1).f1) ((rd_T38 l1 x12_1).f2) ((rd_T38 l1 x12_1).f3) ((rd_T38 l1 x12_1).f4) false _ A11.out).mono ?_); rintro e w22 ⟨rfl, hb⟩; refine ⟨_, rfl, ?_⟩; replace BK208 := am (blk_below (g := gb208) (o := .cells (csBay a0_0 a0_1 a0_2) 28 (0, 0)) (by (with_reducible repeat (first | refine blk_drewN ?_ _ | refine blk_drew ?_ | refine blk_alloc ?_ _)); refine blk_far ?_ NB208_211.out _; (with_reducible repeat (first | refine blk_drewN ?_ _ | refine blk_drew ?_ | refine blk_alloc ?_ _)); refine blk_far ?_ NB208_211.out _; (with_reducible repeat (first | refine blk_drewN ?_ _ | refine blk_drew ?_ | refine blk_alloc ?_ _)); refine blk_far ?_ NB208_211.out _; (with_reducible repeat (first | refine blk_drewN ?_ _ | refine blk_drew ?_ | refine blk_alloc ?_ _)); refine blk_far ?_ NB208_211.out _; (with_reducible repeat (first | refine blk_drewN ?_ _ | refine blk_drew ?_ | refine blk_alloc ?_ _)); refine blk_far ?_ NB208_211.out _; (with_reducible repeat (first | refine blk_drewN ?_ _ | refine blk_drew ?_ | refine blk_alloc ?_ _)); refine blk_far ?_ NB208_211.out _; exact kb BK208) hb); replace BK211 := am (blk_below (g := gb211) (o := .cells #[.int .i8 ((rd_T38 l1 x12_1).f0.f0), .int .i8 ((rd_T38 l1 x12_1).f0.f1), .int .i8 ((rd_T38 l1 x12_1).f1), .int .i8 ((rd_T38 l1 x12_1).f2), .int .i8 ((rd_T38 l1 x12_1).f3), .int .i8 ((rd_T38 l1 x12_1).f4)] 38 (0, 0)) (by (with_reducible repeat (first | refine blk_drewN ?_ _ | refine blk_drew ?_ | refine blk_alloc ?_ _)); refine blk_put (cs := #[.int .i8 ((rd_T38 l1 x12_1).f0.f0), .int .i8 ((rd_T38 l1 x12_1).f0.f1), .int .i8 ((rd_T38 l1 x12_1).f1), .int .i8 ((rd_T38 l1 x12_1).f2), .int .i8 ((rd_T38 l1 x12_1).f3), .int .i8 0]) ?_ 5 _ rfl; (with_reducible repeat (first | refine blk_drewN ?_ _ | refine blk_drew ?_ | refine blk_alloc ?_ _)); refine blk_put (cs := #[.int .i8 ((rd_T38 l1 x12_1).f0.f0), .int .i8 ((rd_T38 l1 x12_1).f0.f1), .int .i8 ((rd_T38 l1 x12_1).f1), .int .i8 ((rd_T38 l1 x12_1).f2), .int .i8 0, .int .i8 0]) ?_ 4 _ rfl; (with_reducible repeat (first | refine blk_drewN ?_ _ | refine blk_drew ?_ | refine blk_alloc ?_ _)); refine blk_put (cs := #[.int .i8 ((rd_T38 l1 x12_1).f0.f0), .int .i8 ((rd_T38 l1 x12_1).f0.f1), .int .i8 ((rd_T38 l1 x12_1).f1), .int .i8 0, .int .i8 0, .int .i8 0]) ?_ 3 _ rfl; (with_reducible repeat (first | refine blk_drewN ?_ _ | refine blk_drew ?_ | refine blk_alloc ?_ _)); refine blk_put (cs := #[.int .i8 ((rd_T38 l1 x12_1).f0.f0), .int .i8 ((rd_T38 l1 x12_1).f0.f1), .int .i8 0, .int .i8 0, .int .i8 0, .int .i8 0]) ?_ 2 _ rfl; (with_reducible repeat (first | refine blk_drewN ?_ _ | refine blk_drew ?_ | refine blk_alloc ?_ _)); refine blk_put (cs := #[.int .i8 ((rd_T38 l1 x12_1).f0.f0), .int .i8 0, .int .i8 0, .int .i8 0, .int .i8 0, .int .i8 0]) ?_ 1 _ rfl; (with_reducible repeat (first | refine blk_drewN ?_ _ | refine blk_drew ?_ | refine blk_alloc ?_ _)); refine blk_put (cs := #[.int .i8 0, .int .i8 0, .int .i8 0, .int .i8 0, .int .i8 0, .int .i8 0]) ?_ 0 _ rfl; exact kb BK211) hb); replace HB := am (below_step (be HB) hb); (try clear hb); (try clear hb2); (try clear hk); (try clear hi)))
        go_ret
        exact ⟨by first | rfl | (simp [errW_none, errW_some] <;> rfl) | (simp [*, errW_none, errW_some] <;> rfl), be HB⟩
      ·rw [if_neg c10] at H
       exact absurd H (by simp)
     ·rw [if_neg c9] at H
      exact absurd H (by simp)
    ·rw [if_neg c8] at H
     have c8b0 : decide (x12_1 < (l1.length : Int)) = false := decide_eq_false c8
     clear c8
     by_cases c23 : (l1.length : Int) > 10
     ·rw [if_pos c23] at H
      have c23b0 : decide (10 < (l1.length : Int)) = true := decide_eq_true c23
      have c23b1 : decide (10 < l1.length) = true := decide_eq_true (by omega)
      clear c23
      obtain rfl := Option.some.inj H
      go_wp2
      go_ret
      exact ⟨by first | rfl | (simp [errW_none, errW_some] <;> rfl) | (simp [*, errW_none, errW_some] <;> rfl), be HB⟩
     ·rw [if_neg c23] at H
      have c23b0 : decide (10 < (l1.length : Int)) = false := decide_eq_false c23
      have c23b1 : decide (10 < l1.length) = false := decide_eq_false (by omega)
      clear c23
      obtain rfl := Option.some.inj H
      go_wp2
      go_ret
      exact ⟨by first | rfl | (simp [errW_none, errW_some] <;> rfl) | (simp [*, errW_none, errW_some] <;> rfl), be HB⟩
 ·replace c4 := Bool.eq_false_iff.mpr c4
  subst c4
  have H1 : (some 1) = some r := by rw [if_neg (show ¬ (false = true) by decide)] at H; exact H
  clear H
  have H := H1
  clear H1
  obtain rfl := Option.some.inj H
  go_enter Try.func125, Try.ntmps125
  go_wp2_with (first | ((with_reducible refine gate_dst (N := 2) rfl ?_); refine bxe (N := 2) (cs := (csBay a0_0 a0_1 a0_2)) (t := 28) ?_; intro gb208 hg w24 hbox hb; have BK208 := am (hbox); have GW208 := am (gN hg (below_size (be HB))); have GE208 := am (gN hg (below_size (be HB))); replace HB := am (below_step (be HB) hb); clear hb hbox hg; have hcz25_0 : w24.cell? ⟨gb208, 0, none⟩ = some (.int .i8 a0_0) := (blk_cell BK208.out 0).trans rfl; have hcz25_1 : w24.cell? ⟨gb208, 1, none⟩ = some (.int .i8 a0_1) := (blk_cell BK208.out 1).trans rfl; have hwz25 := lv28_at BK208.out; have haz25 := at_cells BK208.out; have hyz25 := BayAt28_of BK208.out; have hvz25 := lvv_of BK208.out; have hfz25_0 := blk_frozen BK208.out 0; have hfz25_1 := blk_frozen BK208.out 1; have hfz25_2 := blk_frozen BK208.out 2) | ((with_reducible refine gate_callee (f := 27) rfl ?_); refine gL (some 8) Try.func27 #[.agg (csBay a0_0 a0_1 a0_2)] ?_; (with_reducible refine (impl_ValidBay.calls a0_0 a0_1 a0_2 false _ A3.out).mono ?_); rintro e w26 ⟨rfl, hb⟩; refine ⟨_, rfl, ?_⟩; replace BK208 := bB BK208 hb; replace HB := am (below_step (be HB) hb); (try clear hb); (try clear hb2); (try clear hk); (try clear hi)))
  go_ret
  exact ⟨by first | rfl | (simp [errW_none, errW_some] <;> rfl) | (simp [*, errW_none, errW_some] <;> rfl), be HB⟩

/-! ### impl_root: function 169 -/
def impl_root.l0 : Nat → Int → Int → Option (Int)
 | 0, _, _ => none
 | k + 1, x0, x3 => if (wrap64 ((wrap64 (x3 + 1)) * (wrap64 (x3 + 1)))) ≤ x0 then (impl_root.l0 k x0 (wrap64 (x3 + 1))) else (some x3)
def impl_root.f (k : Nat) (a0 : Int) : Option (Int) := impl_root.l0 k a0 0
set_option maxHeartbeats 8000000 in
set_option maxRecDepth 100000 in
theorem impl_root.calls (k : Nat) (a0 : Int) (r : Int) (w : World) (h : impl_root.f k a0 = some r) :
  Calls Try.prog 169 #[.int .i64 a0] w fun e w' => e = .returned (.int .i64 r) ∧ Drawn0 w w' := by
 have H : (impl_root.l0 k a0 0) = some r := h
 clear h
 have H' := am H
 clear H
 go_enter Try.func169, Try.ntmps169
 go_wp2
 go_loopg [3] k (fun kq v3 w' => ∃ (x3_1 : Int), v3 = .int .i64 x3_1 ∧ Aside0 (impl_root.l0 kq a0 x3_1 = some r) ∧ Aside0 (kq ≤ k) ∧ Drawn0 w w')
 case atStart => exact ⟨(0), vx, H', ⟨Nat.le_refl _⟩, by repeat (first | exact Drawn0.refl _ | apply Drawn0.step)⟩
 case round =>
  clear H'
  try clear c1
  obtain ⟨x3_1, rfl, HA, HK1, ⟨m1, rfl⟩⟩ := hrel
  cases gk with
  | zero => exact absurd HA.out (by simp [impl_root.l0])
  | succ k1 =>
   have H := HA.out
   clear HA
   simp only [impl_root.l0] at H
   by_cases c2 : (wrap64 ((wrap64 (x3_1 + 1)) * (wrap64 (x3_1 + 1)))) ≤ a0
   ·rw [if_pos c2] at H
    have c2b0 : decide ((wrap64 ((wrap64 (x3_1 + 1)) * (wrap64 (x3_1 + 1)))) ≤ a0) = true := decide_eq_true c2
    clear c2
    have H' := am H
    clear H
    go_wp2
    go_roundg k1
    case measure => have := HK1.out; omega
    case rel => exact ⟨(wrap64 (x3_1 + 1)), vx, H', ⟨by have := HK1.out; omega⟩, by repeat (first | exact Drawn0.refl _ | apply Drawn0.step)⟩
   ·rw [if_neg c2] at H
    have c2b0 : decide ((wrap64 ((wrap64 (x3_1 + 1)) * (wrap64 (x3_1 + 1)))) ≤ a0) = false := decide_eq_false c2
    clear c2
    obtain rfl := Option.some.inj H
    go_wp2
    go_ret
    exact ⟨by first | rfl | (simp; done) | (simp [*]; done), by repeat (first | exact Drawn0.refl _ | apply Drawn0.step)⟩

/-! ### impl_reachOf: function 116 -/
def impl_reachOf.f (k : Nat) (a0_0 : Int) (a0_1 : Int) (a0_2 : (Nat → Int)) (a1_0 : Int) (a1_1 : Int) (a1_2 : Int) (a1_3 : Int) (a1_4 : Int) (a1_5 : Int) : Option (Int) := (impl_depth.f a0_0 a0_1 a0_2 a1_0 a1_1).bind fun t215 => (if (wrap64 ((wrap64 ((wrap64 (a1_2)) * (wrap64 (a1_2)))) - (wrap64 (t215 * t215)))) < 0 then (some (-1)) else ((impl_root.f k (wrap64 ((wrap64 ((wrap64 (a1_2)) * (wrap64 (a1_2)))) - (wrap64 (t215 * t215))))).bind fun t216 => (some t216)))
set_option maxHeartbeats 8000000 in
set_option maxRecDepth 100000 in
theorem impl_reachOf.calls (k : Nat) (a0_0 : Int) (a0_1 : Int) (a0_2 : (Nat → Int)) (a1_0 : Int) (a1_1 : Int) (a1_2 : Int) (a1_3 : Int) (a1_4 : Int) (a1_5 : Int) (r : Int) (w : World) (h : impl_reachOf.f k a0_0 a0_1 a0_2 a1_0 a1_1 a1_2 a1_3 a1_4 a1_5 = some r) :
  Calls Try.prog 116 #[.agg (csBay a0_0 a0_1 a0_2), .agg #[.int .i8 a1_0, .int .i8 a1_1, .int .i8 a1_2, .int .i8 a1_3, .int .i8 a1_4, .int .i8 a1_5]] w fun e w' => e = .returned (.int .i64 r) ∧ Below w.heap.size w w' := by
 have hu28 := Try.underlying28
 have hu38 := Try.underlying38
 have hu36 := Try.underlying36
 have HB := am (Below.refl w.heap.size w)
 have H : ((impl_depth.f a0_0 a0_1 a0_2 a1_0 a1_1).bind fun t215 => (if (wrap64 ((wrap64 ((wrap64 (a1_2)) * (wrap64 (a1_2)))) - (wrap64 (t215 * t215)))) < 0 then (some (-1)) else ((impl_root.f k (wrap64 ((wrap64 ((wrap64 (a1_2)) * (wrap64 (a1_2)))) - (wrap64 (t215 * t215))))).bind fun t216 => (some t216)))) = some r := h
 clear h
 replace H := Option.bind_eq_some_iff.mp H
 obtain ⟨t215, A30, H⟩ := H
 try dsimp only at H
 have A3 := am A30
 clear A30
 by_cases c4 : (wrap64 ((wrap64 ((wrap64 (a1_2)) * (wrap64 (a1_2)))) - (wrap64 (t215 * t215)))) < 0
 ·rw [if_pos c4] at H
  have c4b0 : decide ((wrap64 ((wrap64 ((wrap64 (a1_2)) * (wrap64 (a1_2)))) - (wrap64 (t215 * t215)))) < 0) = true := decide_eq_true c4
  clear c4
  obtain rfl := Option.some.inj H
  go_enter Try.func116, Try.ntmps116
  go_wp2_with (first | ((with_reducible refine gate_dst (N := 2) rfl ?_); refine bxe (N := 2) (cs := (csBay a0_0 a0_1 a0_2)) (t := 28) ?_; intro gb213 hg w5 hbox hb; have BK213 := am (hbox); have GW213 := am (gN hg (below_size (be HB))); have GE213 := am (gN hg (below_size (be HB))); replace HB := am (below_step (be HB) hb); clear hb hbox hg) | ((with_reducible refine gate_dst (N := 3) rfl ?_); refine bxe (N := 3) (cs := #[.int .i8 a1_0, .int .i8 a1_1, .int .i8 a1_2, .int .i8 a1_3, .int .i8 a1_4, .int .i8 a1_5]) (t := 38) ?_; intro gb214 hg w6 hbox hb; have BK214 := am (hbox); have GW214 := am (gN hg (below_size (be HB))); have GE214 := am (gN hg (below_size (be HB))); have NB213_214 := nL BK213 hg; have NB214_213 := nR BK213 hg; replace BK213 := bB BK213 hb; replace HB := am (below_step (be HB) hb); clear hb hbox hg; have hnb7 := NB213_214.out; have hnc7 := NB214_213.out; have hcz8_0 : w6.cell? ⟨gb213, 0, none⟩ = some (.int .i8 a0_0) := (blk_cell BK213.out 0).trans rfl; have hcz8_1 : w6.cell? ⟨gb213, 1, none⟩ = some (.int .i8 a0_1) := (blk_cell BK213.out 1).trans rfl; have hwz8 := lv28_at BK213.out; have haz8 := at_cells BK213.out; have hyz8 := BayAt28_of BK213.out; have hvz8 := lvv_of BK213.out; have hfz8_0 := blk_frozen BK213.out 0; have hfz8_1 := blk_frozen BK213.out 1; have hfz8_2 := blk_frozen BK213.out 2; obtain ⟨hcz9_0, hcz9_1, hcz9_2, hcz9_3, hcz9_4, hcz9_5, hfz9_0, hfz9_1, hfz9_2, hfz9_3, hfz9_4, hfz9_5⟩ := bx6 BK214) | ((with_reducible refine gate_callee (f := 112) rfl ?_); refine gL (some 10) Try.func112 #[.agg (csBay a0_0 a0_1 a0_2), .agg #[.int .i8 a1_0, .int .i8 a1_1]] ?_; (with_reducible refine (impl_depth.calls a0_0 a0_1 a0_2 a1_0 a1_1 t215 _ A3.out).mono ?_); rintro e w10 ⟨rfl, hb⟩; refine ⟨_, rfl, ?_⟩; replace BK213 := bB BK213 hb; replace BK214 := bB BK214 hb; replace HB := am (below_step (be HB) hb); (try clear hb); (try clear hb2); (try clear hk); (try clear hi); obtain ⟨hcz11_0, hcz11_1, hcz11_2, hcz11_3, hcz11_4, hcz11_5, hfz11_0, hfz11_1, hfz11_2, hfz11_3, hfz11_4, hfz11_5⟩ := bx6 BK214))
  go_ret
  exact ⟨by first | rfl | (simp [errW_none, errW_some] <;> rfl) | (simp [*, errW_none, errW_some] <;> rfl), be HB⟩
 ·rw [if_neg c4] at H
  have c4b0 : decide ((wrap64 ((wrap64 ((wrap64 (a1_2)) * (wrap64 (a1_2)))) - (wrap64 (t215 * t215)))) < 0) = false := decide_eq_false c4
  clear c4
  replace H := Option.bind_eq_some_iff.mp H
  obtain ⟨t216, A120, H⟩ := H
  try dsimp only at H
  have A12 := am A120
  clear A120
  obtain rfl := Option.some.inj H
  go_enter Try.func116, Try.ntmps116
  go_wp2_with (first | ((with_reducible refine gate_dst (N := 2) rfl ?_); refine bxe (N := 2) (cs := (csBay a0_0 a0_1 a0_2)) (t := 28) ?_; intro gb213 hg w13 hbox hb; have BK213 := am (hbox); have GW213 := am (gN hg (below_size (be HB))); have GE213 := am (gN hg (below_size (be HB))); replace HB := am (below_step (be HB) hb); clear hb hbox hg) | ((with_reducible refine gate_dst (N := 3) rfl ?_); refine bxe (N := 3) (cs := #[.int .i8 a1_0, .int .i8 a1_1, .int .i8 a1_2, .int .i8 a1_3, .int .i8 a1_4, .int .i8 a1_5]) (t := 38) ?_; intro gb214 hg w14 hbox hb; have BK214 := am (hbox); have GW214 := am (gN hg (below_size (be HB))); have GE214 := am (gN hg (below_size (be HB))); have NB213_214 := nL BK213 hg; have NB214_213 := nR BK213 hg; replace BK213 := bB BK213 hb; replace HB := am (below_step (be HB) hb); clear hb hbox hg; have hnb15 := NB213_214.out; have hnc15 := NB214_213.out; have hcz16_0 : w14.cell? ⟨gb213, 0, none⟩ = some (.int .i8 a0_0) := (blk_cell BK213.out 0).trans rfl; have hcz16_1 : w14.cell? ⟨gb213, 1, none⟩ = some (.int .i8 a0_1) := (blk_cell BK213.out 1).trans rfl; have hwz16 := lv28_at BK213.out; have haz16 := at_cells BK213.out; have hyz16 := BayAt28_of BK213.out; have hvz16 := lvv_of BK213.out; have hfz16_0 := blk_frozen BK213.out 0; have hfz16_1 := blk_frozen BK213.out 1; have hfz16_2 := blk_frozen BK213.out 2; obtain ⟨hcz17_0, hcz17_1, hcz17_2, hcz17_3, hcz17_4, hcz17_5, hfz17_0, hfz17_1, hfz17_2, hfz17_3, hfz17_4, hfz17_5⟩ := bx6 BK214) | ((with_reducible refine gate_callee (f := 112) rfl ?_); refine gL (some 10) Try.func112 #[.agg (csBay a0_0 a0_1 a0_2), .agg #[.int .i8 a1_0, .int .i8 a1_1]] ?_; (with_reducible refine (impl_depth.calls a0_0 a0_1 a0_2 a1_0 a1_1 t215 _ A3.out).mono ?_); rintro e w18 ⟨rfl, hb⟩; refine ⟨_, rfl, ?_⟩; replace BK213 := bB BK213 hb; replace BK214 := bB BK214 hb; replace HB := am (below_step (be HB) hb); (try clear hb); (try clear hb2); (try clear hk); (try clear hi); obtain ⟨hcz19_0, hcz19_1, hcz19_2, hcz19_3, hcz19_4, hcz19_5, hfz19_0, hfz19_1, hfz19_2, hfz19_3, hfz19_4, hfz19_5⟩ := bx6 BK214) | ((with_reducible refine gate_callee (f := 169) rfl ?_); refine gL (some 25) Try.func169 #[.int .i64 (wrap64 ((wrap64 ((wrap64 (a1_2)) * (wrap64 (a1_2)))) - (wrap64 (t215 * t215))))] ?_; (with_reducible refine (impl_root.calls k (wrap64 ((wrap64 ((wrap64 (a1_2)) * (wrap64 (a1_2)))) - (wrap64 (t215 * t215)))) t216 _ A12.out).mono ?_); rintro e w' ⟨rfl, ⟨nd, rfl⟩⟩; refine ⟨_, rfl, ?_⟩))
  go_ret
  exact ⟨by first | rfl | (simp [errW_none, errW_some] <;> rfl) | (simp [*, errW_none, errW_some] <;> rfl), be HB⟩

/-! ### impl_swingOf: function 115 -/
def impl_swingOf.f (k : Nat) (a0_0 : Int) (a0_1 : Int) (a0_2 : (Nat → Int)) (a1_0 : Int) (a1_1 : Int) (a1_2 : Int) (a1_3 : Int) (a1_4 : Int) (a1_5 : Int) : Option (Int) := (impl_reachOf.f k a0_0 a0_1 a0_2 a1_0 a1_1 a1_2 a1_3 a1_4 a1_5).bind fun t219 => (some (wrap64 (t219 + (wrap64 (a1_3)))))
def impl_swingOf.T1 : Bool × List (List Nat × List Nat) := (true, [([], []), ([], []), ([0, 1], [0, 1]), ([], []), ([3], [3]), ([4], [4]), ([2, 5], [2, 5]), ([6, 2, 0, 1, 2, 3, 4, 5, 6], [6])])
def impl_swingOf.B1 : List Nat := [0, 0, 3, 0, 8, 24, 63, 127]
theorem impl_swingOf.tab1 : rtab .any (opsOf Try.f115 1) = impl_swingOf.T1 := by kernel_rfl
theorem impl_swingOf.bits1 : waitsOk impl_swingOf.T1.2 impl_swingOf.B1 = true := by kernel_rfl
set_option maxHeartbeats 8000000 in
set_option maxRecDepth 100000 in
theorem impl_swingOf.calls (k : Nat) (a0_0 : Int) (a0_1 : Int) (a0_2 : (Nat → Int)) (a1_0 : Int) (a1_1 : Int) (a1_2 : Int) (a1_3 : Int) (a1_4 : Int) (a1_5 : Int) (r : Int) (w : World) (h : impl_swingOf.f k a0_0 a0_1 a0_2 a1_0 a1_1 a1_2 a1_3 a1_4 a1_5 = some r) :
  Calls Try.prog 115 #[.agg (csBay a0_0 a0_1 a0_2), .agg #[.int .i8 a1_0, .int .i8 a1_1, .int .i8 a1_2, .int .i8 a1_3, .int .i8 a1_4, .int .i8 a1_5]] w fun e w' => e = .returned (.int .i64 r) ∧ Below w.heap.size w w' := by
 have hu28 := Try.underlying28
 have hu38 := Try.underlying38
 have HB := am (Below.refl w.heap.size w)
 have H : ((impl_reachOf.f k a0_0 a0_1 a0_2 a1_0 a1_1 a1_2 a1_3 a1_4 a1_5).bind fun t219 => (some (wrap64 (t219 + (wrap64 (a1_3)))))) = some r := h
 clear h
 replace H := Option.bind_eq_some_iff.mp H
 obtain ⟨t219, A30, H⟩ := H
 try dsimp only at H
 have A3 := am A30
 clear A30
 obtain rfl := Option.some.inj H
 go_enter Try.func115, Try.ntmps115
 try go_wp2_with (first | ((with_reducible refine gate_dst (N := 2) rfl ?_); refine bxe (N := 2) (cs := (csBay a0_0 a0_1 a0_2)) (t := 28) ?_; intro gb217 hg w4 hbox hb; have BK217 := am (hbox); have GW217 := am (gN hg (below_size (be HB))); have GE217 := am (gN hg (below_size (be HB))); replace HB := am (below_step (be HB) hb); clear hb hbox hg) | ((with_reducible refine gate_dst (N := 3) rfl ?_); refine bxe (N := 3) (cs := #[.int .i8 a1_0, .int .i8 a1_1, .int .i8 a1_2, .int .i8 a1_3, .int .i8 a1_4, .int .i8 a1_5]) (t := 38) ?_; intro gb218 hg w5 hbox hb; have BK218 := am (hbox); have GW218 := am (gN hg (below_size (be HB))); have GE218 := am (gN hg (below_size (be HB))); have NB217_218 := nL BK217 hg; have NB218_217 := nR BK217 hg; replace BK217 := bB BK217 hb; replace HB := am (below_step (be HB) hb); clear hb hbox hg))
 have n0_ := am (blk_drew BK217.out)
 have n1_ := am (blk_drew BK218.out)
 have n2_ := am (below_drew1 HB.out)
 clear BK217
 clear BK218
 clear HB
 have BK217 := n0_
 have BK218 := n1_
 have HB := n2_
 clear n0_ n1_ n2_
 refine start_ (n := 8) (S := fun w' => w'.cell? ⟨gb217, 0, none⟩ = some (.int .i8 a0_0) ∧ w'.cell? ⟨gb217, 1, none⟩ = some (.int .i8 a0_1) ∧ atCells w' gb217 a0_2 ∧ BayAt28 w' gb217 ∧ lvv w' gb217 = .agg (csBay a0_0 a0_1 a0_2) ∧ w'.cell? ⟨gb218, 0, none⟩ = some (.int .i8 a1_0) ∧ w'.cell? ⟨gb218, 1, none⟩ = some (.int .i8 a1_1) ∧ w'.cell? ⟨gb218, 2, none⟩ = some (.int .i8 a1_2) ∧ w'.cell? ⟨gb218, 3, none⟩ = some (.int .i8 a1_3) ∧ w'.cell? ⟨gb218, 4, none⟩ = some (.int .i8 a1_4) ∧ w'.cell? ⟨gb218, 5, none⟩ = some (.int .i8 a1_5)) (ds := []) #[false, false, false, false, false, false, false, false] (by kernel_rfl) rfl rfl ⟨(blk_cell BK217.out 0).trans rfl, (blk_cell BK217.out 1).trans rfl, at_cells BK217.out, BayAt28_of BK217.out, lvv_of BK217.out, (blk_cell BK218.out 0).trans rfl, (blk_cell BK218.out 1).trans rfl, (blk_cell BK218.out 2).trans rfl, (blk_cell BK218.out 3).trans rfl, (blk_cell BK218.out 4).trans rfl, (blk_cell BK218.out 5).trans rfl⟩ (fun hHeld => ?_); refine with_tabW impl_swingOf.tab1 impl_swingOf.bits1 (fun HT_ HW_ => ?_)
 generalize w5.drew = w6 at BK217 BK218 HB hHeld ⊢
 refine pS (i := 3) (some 8) #[false, false, false, true, false, false, false, false] (any_of HT_.out (by kernel_rfl)) ?_
 refine tS (i := 0) (some 5) #[true, false, false, true, false, false, false, false] (take_ofW HT_.out HW_.out (by kernel_rfl)) hHeld ?_
 refine tS (i := 1) (some 6) #[true, true, false, true, false, false, false, false] (take_ofW HT_.out HW_.out (by kernel_rfl)) hHeld ?_
 refine tS (i := 4) (some 9) #[true, true, false, true, true, false, false, false] (take_ofW HT_.out HW_.out (by kernel_rfl)) hHeld ?_
 refine pS (i := 5) (some 10) #[true, true, false, true, true, true, false, false] (any_of HT_.out (by kernel_rfl)) ?_
 refine one_ (i := 2) (N := some 7) #[true, true, true, true, true, true, false, false] rfl rfl (one_of HT_.out (by kernel_rfl)) (by decide) (fun K hK => ?_)
 refine goes_ Try.func116 (by kernel_rfl) rfl #[.agg (csBay a0_0 a0_1 a0_2), .agg #[.int .i8 a1_0, .int .i8 a1_1, .int .i8 a1_2, .int .i8 a1_3, .int .i8 a1_4, .int .i8 a1_5]] (by rfl) rfl rfl (by (try simp only [List.map_toArray, List.map_cons, List.map_nil]); first | done | rfl | (simp only [List.length_drop, List.length_take]; rfl)) ?_
 with_reducible refine (impl_reachOf.calls k a0_0 a0_1 a0_2 a1_0 a1_1 a1_2 a1_3 a1_4 a1_5 t219 _ A3.out).mono ?_
 rintro e w7 ⟨rfl, hb⟩
 refine ⟨_, rfl, ?_⟩
 have n0_ := bB BK217 hb
 have n1_ := bB BK218 hb
 have n2_ := am (below_step (be HB) hb)
 clear BK217
 clear BK218
 clear HB
 have BK217 := n0_
 have BK218 := n1_
 have HB := n2_
 clear n0_ n1_ n2_
 (try clear hb)
 (try clear hb2)
 (try clear hk)
 (try clear hi)
 refine hK.out _ _ ⟨(blk_cell BK217.out 0).trans rfl, (blk_cell BK217.out 1).trans rfl, at_cells BK217.out, BayAt28_of BK217.out, lvv_of BK217.out, (blk_cell BK218.out 0).trans rfl, (blk_cell BK218.out 1).trans rfl, (blk_cell BK218.out 2).trans rfl, (blk_cell BK218.out 3).trans rfl, (blk_cell BK218.out 4).trans rfl, (blk_cell BK218.out 5).trans rfl⟩ (fun hHeld => ?_)
 clear hK K
 refine norm_ (a' := ?_) ?_ ?_
 rotate_left
 ·show Act.put _ (some 7) _ = _
  simp only [Act.put, List.setIfInBounds_toArray, List.set_cons_zero, List.set_cons_succ, i64_w, i32_w]
  rfl
 refine pS (i := 6) (some 11) #[true, true, true, true, true, true, true, false] (any_of HT_.out (by kernel_rfl)) ?_
 refine pS (i := 7) (some 4) #[true, true, true, true, true, true, true, true] (any_of HT_.out (by kernel_rfl)) ?_
 refine done_ (done_of HT_.out (by kernel_rfl)) ?_
 try go_wp2
 go_ret
 exact ⟨by first | rfl | (simp [errW_none, errW_some] <;> rfl) | (simp [*, errW_none, errW_some] <;> rfl), be HB⟩

/-! ### impl_far: function 171 -/
def impl_far.f (a0_0 : Int) (a0_1 : Int) (a1_0 : Int) (a1_1 : Int) : Option (Int) := some (wrap64 ((wrap64 ((wrap64 ((wrap64 (a0_0)) - (wrap64 (a1_0)))) * (wrap64 ((wrap64 (a0_0)) - (wrap64 (a1_0)))))) + (wrap64 ((wrap64 ((wrap64 (a0_1)) - (wrap64 (a1_1)))) * (wrap64 ((wrap64 (a0_1)) - (wrap64 (a1_1))))))))
set_option maxHeartbeats 8000000 in
set_option maxRecDepth 100000 in
theorem impl_far.calls (a0_0 : Int) (a0_1 : Int) (a1_0 : Int) (a1_1 : Int) (r : Int) (w : World) (h : impl_far.f a0_0 a0_1 a1_0 a1_1 = some r) :
  Calls Try.prog 171 #[.agg #[.int .i8 a0_0, .int .i8 a0_1], .agg #[.int .i8 a1_0, .int .i8 a1_1]] w fun e w' => e = .returned (.int .i64 r) ∧ Below w.heap.size w w' := by
 have hu36 := Try.underlying36
 have HB := am (Below.refl w.heap.size w)
 have H : (some (wrap64 ((wrap64 ((wrap64 ((wrap64 (a0_0)) - (wrap64 (a1_0)))) * (wrap64 ((wrap64 (a0_0)) - (wrap64 (a1_0)))))) + (wrap64 ((wrap64 ((wrap64 (a0_1)) - (wrap64 (a1_1)))) * (wrap64 ((wrap64 (a0_1)) - (wrap64 (a1_1))))))))) = some r := h
 clear h
 obtain rfl := Option.some.inj H
 go_enter Try.func171, Try.ntmps171
 go_wp2_with (first | ((with_reducible refine gate_dst (N := 2) rfl ?_); refine bxe (N := 2) (cs := #[.int .i8 a0_0, .int .i8 a0_1]) (t := 36) ?_; intro gb220 hg w3 hbox hb; have BK220 := am (hbox); have GW220 := am (gN hg (below_size (be HB))); have GE220 := am (gN hg (below_size (be HB))); replace HB := am (below_step (be HB) hb); clear hb hbox hg) | ((with_reducible refine gate_dst (N := 3) rfl ?_); refine bxe (N := 3) (cs := #[.int .i8 a1_0, .int .i8 a1_1]) (t := 36) ?_; intro gb221 hg w4 hbox hb; have BK221 := am (hbox); have GW221 := am (gN hg (below_size (be HB))); have GE221 := am (gN hg (below_size (be HB))); have NB220_221 := nL BK220 hg; have NB221_220 := nR BK220 hg; replace BK220 := bB BK220 hb; replace HB := am (below_step (be HB) hb); clear hb hbox hg; have hnb5 := NB220_221.out; have hnc5 := NB221_220.out; obtain ⟨hcz6_0, hcz6_1, hfz6_0, hfz6_1⟩ := bx2 BK220; obtain ⟨hcz7_0, hcz7_1, hfz7_0, hfz7_1⟩ := bx2 BK221))
 repeat (go_quiet (first | ((with_reducible refine gate_dst (N := 2) rfl ?_); refine bxe (N := 2) (cs := #[.int .i8 a0_0, .int .i8 a0_1]) (t := 36) ?_; intro gb220 hg w3 hbox hb; have BK220 := am (hbox); have GW220 := am (gN hg (below_size (be HB))); have GE220 := am (gN hg (below_size (be HB))); replace HB := am (below_step (be HB) hb); clear hb hbox hg) | ((with_reducible refine gate_dst (N := 3) rfl ?_); refine bxe (N := 3) (cs := #[.int .i8 a1_0, .int .i8 a1_1]) (t := 36) ?_; intro gb221 hg w4 hbox hb; have BK221 := am (hbox); have GW221 := am (gN hg (below_size (be HB))); have GE221 := am (gN hg (below_size (be HB))); have NB220_221 := nL BK220 hg; have NB221_220 := nR BK220 hg; replace BK220 := bB BK220 hb; replace HB := am (below_step (be HB) hb); clear hb hbox hg; have hnb5 := NB220_221.out; have hnc5 := NB221_220.out; obtain ⟨hcz6_0, hcz6_1, hfz6_0, hfz6_1⟩ := bx2 BK220; obtain ⟨hcz7_0, hcz7_1, hfz7_0, hfz7_1⟩ := bx2 BK221)); try go_wp2_with (first | ((with_reducible refine gate_dst (N := 2) rfl ?_); refine bxe (N := 2) (cs := #[.int .i8 a0_0, .int .i8 a0_1]) (t := 36) ?_; intro gb220 hg w3 hbox hb; have BK220 := am (hbox); have GW220 := am (gN hg (below_size (be HB))); have GE220 := am (gN hg (below_size (be HB))); replace HB := am (below_step (be HB) hb); clear hb hbox hg) | ((with_reducible refine gate_dst (N := 3) rfl ?_); refine bxe (N := 3) (cs := #[.int .i8 a1_0, .int .i8 a1_1]) (t := 36) ?_; intro gb221 hg w4 hbox hb; have BK221 := am (hbox); have GW221 := am (gN hg (below_size (be HB))); have GE221 := am (gN hg (below_size (be HB))); have NB220_221 := nL BK220 hg; have NB221_220 := nR BK220 hg; replace BK220 := bB BK220 hb; replace HB := am (below_step (be HB) hb); clear hb hbox hg; have hnb5 := NB220_221.out; have hnc5 := NB221_220.out; obtain ⟨hcz6_0, hcz6_1, hfz6_0, hfz6_1⟩ := bx2 BK220; obtain ⟨hcz7_0, hcz7_1, hfz7_0, hfz7_1⟩ := bx2 BK221)))
 go_ret
 exact ⟨by first | rfl | (simp [errW_none, errW_some] <;> rfl) | (simp [*, errW_none, errW_some] <;> rfl), be HB⟩

end Go.Proofs.Ytcollbifdfhfoaa.PFnExactTouchPairs
