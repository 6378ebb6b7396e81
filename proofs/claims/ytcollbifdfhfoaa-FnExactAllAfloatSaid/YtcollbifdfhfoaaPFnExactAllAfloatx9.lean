-- Written by a program out of this seat's translation (functions, and that the code comes to them).
import Derived.Test.YtcollbifdfhfoaaPFnExactAllAfloatx0
import Derived.Test.YtcollbifdfhfoaaPFnExactAllAfloatx8
namespace Go.Proofs.Ytcollbifdfhfoaa.PFnExactAllAfloat
open Go.RowKit Go.Proofs.YtcollbifdfhfoaaW.PrintWords Go.Proofs.YtcollbifdfhfoaaW.PrintLast Go.Proofs.YtcollbifdfhfoaaW.PrintMore
attribute [local go_sem] max2_int min2_int max_two min_two max_three min_three max_four min_four   -- for this text's walks alone
open Go.Proofs.Ytcollbifdfhfoaa.Bay Go.Proofs.Ytcollbifdfhfoaa.Short
attribute [local go_sem ↓] lv26_eq lv28_eq
attribute [local go_sem] lvv_set lvv_drewN lvv_drew lv26_run BayAt26_set BayAt26_drewN BayAt26_drew lv28_run BayAt28_set BayAt28_drewN BayAt28_drew
set_option linter.unusedVariables false
set_option linter.unusedSimpArgs false

/-! ### impl_boatsCode: function 125 -/
def impl_boatsCode.l0 : Nat → List (S38) → List (S38) → Int → Int → Int → Int → (Nat → Int) → Option (Int)
 | 0, _, _, _, _, _, _, _ => none
 | k + 1, x1, x10, x11, x12, x272000, x272001, x272002 => if x12 < x11 then (if 0 ≤ x12 then (if x12 < (x10.length : Int) then ((impl_isBoat.f x272000 x272001 x272002 ((rd_T38 x10 x12).f0.f0) ((rd_T38 x10 x12).f0.f1) ((rd_T38 x10 x12).f1) ((rd_T38 x10 x12).f2) ((rd_T38 x10 x12).f3) ((rd_T38 x10 x12).f4)).bind fun t275 => (if t275 = true then (impl_boatsCode.l0 k x1 x10 x11 (wrap64 (x12 + 1)) x272000 x272001 x272002) else (some 1))) else (none)) else (none)) else (if (x1.length : Int) > 10 then (some 3) else (some 0))
def impl_boatsCode.f (k : Nat) (a0_0 : Int) (a0_1 : Int) (a0_2 : (Nat → Int)) (l1 : List (S38)) : Option (Int) := (impl_ValidBay.f a0_0 a0_1 a0_2).bind fun t272 => (if t272 = true then (impl_boatsCode.l0 k l1 l1 (l1.length : Int) 0 a0_0 a0_1 a0_2) else (some 1))
set_option maxHeartbeats 8000000 in
set_option maxRecDepth 100000 in
theorem impl_boatsCode.calls (k : Nat) (a0_0 : Int) (a0_1 : Int) (a0_2 : (Nat → Int)) (A1 : Option Addr) (c1 : Nat) (l1 : List (S38)) (r : Int) (w : World) (hr1 : Kd.C k38 w A1 l1.length l1) (hc1 : l1.length ≤ c1) (h : impl_boatsCode.f k a0_0 a0_1 a0_2 l1 = some r) :
  Calls Try.prog 125 #[.agg (csBay a0_0 a0_1 a0_2), .slice A1 l1.length c1] w fun e w' => e = .returned (.int .i64 r) ∧ Below w.heap.size w w' := by
 have hu28 := Try.underlying28
 have hu38 := Try.underlying38
 have HR1 := am hr1
 have HC1 := am hc1
 clear hr1 hc1
 have HB := am (Below.refl w.heap.size w)
 have H : ((impl_ValidBay.f a0_0 a0_1 a0_2).bind fun t272 => (if t272 = true then (impl_boatsCode.l0 k l1 l1 (l1.length : Int) 0 a0_0 a0_1 a0_2) else (some 1))) = some r := h
 clear h
 replace H := Option.bind_eq_some_iff.mp H
 obtain ⟨t272, A30, H⟩ := H
 try dsimp only at H
 have A3 := am A30
 clear A30
 by_cases c4 : t272 = true
 ·subst c4
  rw [if_pos rfl] at H
  have H' := am H
  clear H
  go_enter Try.func125, Try.ntmps125
  go_wp2_with (first | ((with_reducible refine gate_dst (N := 2) rfl ?_); refine bxe (N := 2) (cs := (csBay a0_0 a0_1 a0_2)) (t := 28) ?_; intro gb271 hg w5 hbox hb; have BK271 := am (hbox); have GW271 := am (gN hg (below_size (be HB))); have GE271 := am (gN hg (below_size (be HB))); replace HB := am (below_step (be HB) hb); clear hb hbox hg; obtain ⟨hcz6_0, hcz6_1, hwz6, haz6, hyz6, hvz6, hfz6_0, hfz6_1, hfz6_2⟩ := bb28 BK271) | ((with_reducible refine gate_callee (f := 27) rfl ?_); refine gL (some 8) Try.func27 #[.agg (csBay a0_0 a0_1 a0_2)] ?_; (with_reducible refine (impl_ValidBay.calls a0_0 a0_1 a0_2 true _ A3.out).mono ?_); rintro e w7 ⟨rfl, hb⟩; refine ⟨_, rfl, ?_⟩; replace BK271 := bB BK271 hb; replace HB := am (below_step (be HB) hb); (try clear hb); (try clear hb2); (try clear hk); (try clear hi)))
  go_loopg [12] k (fun kq v12 w' => ∃ (x12_1 : Int), v12 = .int .i64 x12_1 ∧ Aside0 (impl_boatsCode.l0 kq l1 l1 (l1.length : Int) x12_1 a0_0 a0_1 a0_2 = some r) ∧ Aside0 (kq ≤ k) ∧ Aside0 (w'.heap[gb271]? = some (.cells (csBay a0_0 a0_1 a0_2) 28 (0, 0))) ∧ Aside0 (Below w.heap.size w w'))
  case atStart => exact ⟨(0), vx, H', ⟨Nat.le_refl _⟩, ⟨kb BK271⟩, ⟨be HB⟩⟩
  case round =>
   clear H'
   try clear c1
   try clear c2
   try clear p2
   try clear c4
   try clear hcz6_0
   try clear hcz6_1
   try clear hfz6_0
   try clear hfz6_1
   try clear hfz6_2
   obtain ⟨x12_1, rfl, HA, HK1, BK271, HB⟩ := hrel
   cases gk with
   | zero => exact absurd HA.out (by simp [impl_boatsCode.l0])
   | succ k1 =>
    have H := HA.out
    clear HA
    simp only [impl_boatsCode.l0] at H
    by_cases c8 : x12_1 < (l1.length : Int)
    ·rw [if_pos c8] at H
     have c8b0 : decide (x12_1 < (l1.length : Int)) = true := decide_eq_true c8
     clear c8
     by_cases c9 : 0 ≤ x12_1
     ·rw [if_pos c9] at H
      have c9b0 : decide (0 ≤ x12_1) = true := decide_eq_true c9
      have c9b1 : 0 ≤ x12_1 := c9
      clear c9
      by_cases c10 : x12_1 < (l1.length : Int)
      ·rw [if_pos c10] at H
       have c10b0 : decide (x12_1 < (l1.length : Int)) = true := decide_eq_true c10
       clear c10
       replace H := Option.bind_eq_some_iff.mp H
       obtain ⟨t275, A110, H⟩ := H
       try dsimp only at H
       have A11 := am A110
       clear A110
       by_cases c12 : t275 = true
       ·subst c12
        rw [if_pos rfl] at H
        have H' := am H
        clear H
        have p273 : 0 ≤ (x12_1 : Int) := of_decide_eq_true (by first | (with_reducible assumption) | assumption)
        have q273 : x12_1 < (l1.length : Int) := of_decide_eq_true (by first | (with_reducible assumption) | assumption)
        obtain ⟨ad273, e273, hx273_0, hx273_1, hx273_2, hx273_3, hx273_4, hx273_5⟩ := at_T38 HR1.out x12_1 p273 q273
        cases e273
        replace hx273_0 := (HB.out.cell (World.block_lt_of_cell? w _ hx273_0)).trans hx273_0
        replace hx273_1 := (HB.out.cell (World.block_lt_of_cell? w _ hx273_1)).trans hx273_1
        replace hx273_2 := (HB.out.cell (World.block_lt_of_cell? w _ hx273_2)).trans hx273_2
        replace hx273_3 := (HB.out.cell (World.block_lt_of_cell? w _ hx273_3)).trans hx273_3
        replace hx273_4 := (HB.out.cell (World.block_lt_of_cell? w _ hx273_4)).trans hx273_4
        replace hx273_5 := (HB.out.cell (World.block_lt_of_cell? w _ hx273_5)).trans hx273_5
        replace p273 := eq_true p273
        replace q273 := eq_true q273
        go_wp2_with (first | ((with_reducible refine gate_dst (N := 6) rfl ?_); refine bxe (N := 6) (cs := #[.int .i8 0, .int .i8 0, .int .i8 0, .int .i8 0, .int .i8 0, .int .i8 0]) (t := 38) ?_; intro gb274 hg w13 hbox hb; have BK274 := am (hbox); have GW274 := am (gN hg (below_size (be HB))); have GE274 := am (gN hg (below_size (be HB))); have NB271_274 := nL BK271 hg; have NB274_271 := nR BK271 hg; replace BK271 := bB BK271 hb; replace HB := am (below_step (be HB) hb); clear hb hbox hg; have hnb14 := NB274_271.out; have hnc14 := NB271_274.out; obtain ⟨hcz15_0, hcz15_1, hcz15_2, hcz15_3, hcz15_4, hcz15_5, hfz15_0, hfz15_1, hfz15_2, hfz15_3, hfz15_4, hfz15_5⟩ := bx6 BK274; obtain ⟨hcz16_0, hcz16_1, hwz16, haz16, hyz16, hvz16, hfz16_0, hfz16_1, hfz16_2⟩ := bb28 BK271) | ((with_reducible refine gate_callee (f := 107) rfl ?_); refine gL (some 18) Try.func107 #[.agg (csBay a0_0 a0_1 a0_2), .agg #[.int .i8 ((rd_T38 l1 x12_1).f0.f0), .int .i8 ((rd_T38 l1 x12_1).f0.f1), .int .i8 ((rd_T38 l1 x12_1).f1), .int .i8 ((rd_T38 l1 x12_1).f2), .int .i8 ((rd_T38 l1 x12_1).f3), .int .i8 ((rd_T38 l1 x12_1).f4)]] ?_; (with_reducible refine (impl_isBoat.calls a0_0 a0_1 a0_2 ((rd_T38 l1 x12_1).f0.f0) ((rd_T38 l1 x12_1).f0.f1) ((rd_T38 l1 x12_1).f1) ((rd_T38 l1 x12_1).f2) ((rd_T38 l1 x12_1).f3) ((rd_T38 l1 x12_1).f4) true _ A11.out).mono ?_); rintro e w17 ⟨rfl, hb⟩; refine ⟨_, rfl, ?_⟩; replace BK271 := am (blk_below (g := gb271) (o := .cells (csBay a0_0 a0_1 a0_2) 28 (0, 0)) (by (with_reducible repeat (first | refine blk_drewN ?_ _ | refine blk_drew ?_ | refine blk_alloc ?_ _)); refine blk_far ?_ NB271_274.out _; (with_reducible repeat (first | refine blk_drewN ?_ _ | refine blk_drew ?_ | refine blk_alloc ?_ _)); refine blk_far ?_ NB271_274.out _; (with_reducible repeat (first | refine blk_drewN ?_ _ | refine blk_drew ?_ | refine blk_alloc ?_ _)); refine blk_far ?_ NB271_274.out _; (with_reducible repeat (first | refine blk_drewN ?_ _ | refine blk_drew ?_ | refine blk_alloc ?_ _)); refine blk_far ?_ NB271_274.out _; (with_reducible repeat (first | refine blk_drewN ?_ _ | refine blk_drew ?_ | refine blk_alloc ?_ _)); refine blk_far ?_ NB271_274.out _; (with_reducible repeat (first | refine blk_drewN ?_ _ | refine blk_drew ?_ | refine blk_alloc ?_ _)); refine blk_far ?_ NB271_274.out _; exact kb BK271) hb); replace BK274 := am (blk_below (g := gb274) (o := .cells #[.int .i8 ((rd_T38 l1 x12_1).f0.f0), .int .i8 ((rd_T38 l1 x12_1).f0.f1), .int .i8 ((rd_T38 l1 x12_1).f1), .int .i8 ((rd_T38 l1 x12_1).f2), .int .i8 ((rd_T38 l1 x12_1).f3), .int .i8 ((rd_T38 l1 x12_1).f4)] 38 (0, 0)) (by (with_reducible repeat (first | refine blk_drewN ?_ _ | refine blk_drew ?_ | refine blk_alloc ?_ _)); refine blk_put (cs := #[.int .i8 ((rd_T38 l1 x12_1).f0.f0), .int .i8 ((rd_T38 l1 x12_1).f0.f1), .int .i8 ((rd_T38 l1 x12_1).f1), .int .i8 ((rd_T38 l1 x12_1).f2), .int .i8 ((rd_T38 l1 x12_1).f3), .int .i8 0]) ?_ 5 _ rfl; (with_reducible repeat (first | refine blk_drewN ?_ _ | refine blk_drew ?_ | refine blk_alloc ?_ _)); refine blk_put (cs := #[.int .i8 ((rd_T38 l1 x12_1).f0.f0), .int .i8 ((rd_T38 l1 x12_1).f0.f1), .int .i8 ((rd_T38 l1 x12_1).f1), .int .i8 ((rd_T38 l1 x12_1).f2), .int .i8 0, .int .i8 0]) ?_ 4 _ rfl; (with_reducible repeat (first | refine blk_drewN ?_ _ | refine blk_drew ?_ | refine blk_alloc ?_ _)); refine blk_put (cs := #[.int .i8 ((rd_T38 l1 x12_1).f0.f0), .int .i8 ((rd_T38 l1 x12_1).f0.f1), .int .i8 ((rd_T38 l1 x12_1).f1), .int .i8 0, .int .i8 0, .int .i8 0]) ?_ 3 _ rfl; (with_reducible repeat (first | refine blk_drewN ?_ _ | refine blk_drew ?_ | refine blk_alloc ?_ _)); refine blk_put (cs := #[.int .i8 ((rd_T38 l1 x12_1).f0.f0), .int .i8 ((rd_T38 l1 x12_1).f0.f1), .int .i8 0, .int .i8 0, .int .i8 0, .int .i8 0]) ?_ 2 _ rfl; (with_reducible repeat (first | refine blk_drewN ?_ _ | refine blk_drew ?_ | refine blk_alloc ?_ _)); refine blk_put (cs := #[.int .i8 ((rd_T38 l1 x12_1).f0.f0), .int .i8 0, .int .i8 0, .int .i8 0, .int .i8 0, .int .i8 0]) ?_ 1 _ rfl; (with_reducible repeat (first | refine blk_drewN ?_ _ | refine blk_drew ?_ | refine blk_alloc ?_ _)); refine blk_put (cs := #[.int .i8 0, .int .i8 0, .int .i8 0, .int .i8 0, .int .i8 0, .int .i8 0]) ?_ 0 _ rfl; exact kb BK274) hb); replace HB := am (below_step (be HB) hb); (try clear hb); (try clear hb2); (try clear hk); (try clear hi)))
        go_roundg k1
        case measure => have := HK1.out; omega
        case rel => exact ⟨(wrap64 (x12_1 + 1)), vx, H', ⟨by have := HK1.out; omega⟩, ⟨kb BK271⟩, ⟨be HB⟩⟩
       ·replace c12 := Bool.eq_false_iff.mpr c12
        subst c12
        have H1 : (some 1) = some r := by rw [if_neg (show ¬ (false = true) by decide)] at H; exact H
        clear H
        have H := H1
        clear H1
        obtain rfl := Option.some.inj H
        have p273 : 0 ≤ (x12_1 : Int) := of_decide_eq_true (by first | (with_reducible assumption) | assumption)
        have q273 : x12_1 < (l1.length : Int) := of_decide_eq_true (by first | (with_reducible assumption) | assumption)
        obtain ⟨ad273, e273, hx273_0, hx273_1, hx273_2, hx273_3, hx273_4, hx273_5⟩ := at_T38 HR1.out x12_1 p273 q273
        cases e273
        replace hx273_0 := (HB.out.cell (World.block_lt_of_cell? w _ hx273_0)).trans hx273_0
        replace hx273_1 := (HB.out.cell (World.block_lt_of_cell? w _ hx273_1)).trans hx273_1
        replace hx273_2 := (HB.out.cell (World.block_lt_of_cell? w _ hx273_2)).trans hx273_2
        replace hx273_3 := (HB.out.cell (World.block_lt_of_cell? w _ hx273_3)).trans hx273_3
        replace hx273_4 := (HB.out.cell (World.block_lt_of_cell? w _ hx273_4)).trans hx273_4
        replace hx273_5 := (HB.out.cell (World.block_lt_of_cell? w _ hx273_5)).trans hx273_5
        replace p273 := eq_true p273
        replace q273 := eq_true q273
        go_wp2_with (first | ((with_reducible refine gate_dst (N := 6) rfl ?_); refine bxe (N := 6) (cs := #[.int .i8 0, .int .i8 0, .int .i8 0, .int .i8 0, .int .i8 0, .int .i8 0]) (t := 38) ?_; intro gb274 hg w18 hbox hb; have BK274 := am (hbox); have GW274 := am (gN hg (below_size (be HB))); have GE274 := am (gN hg (below_size (be HB))); have NB271_274 := nL BK271 hg; have NB274_271 := nR BK271 hg; replace BK271 := bB BK271 hb; replace HB := am (below_step (be HB) hb); clear hb hbox hg; have hnb19 := NB274_271.out; have hnc19 := NB271_274.out; obtain ⟨hcz20_0, hcz20_1, hcz20_2, hcz20_3, hcz20_4, hcz20_5, hfz20_0, hfz20_1, hfz20_2, hfz20_3, hfz20_4, hfz20_5⟩ := bx6 BK274; obtain ⟨hcz21_0, hcz21_1, hwz21, haz21, hyz21, hvz21, hfz21_0, hfz21_1, hfz21_2⟩ := bb28 BK271) | ((with_reducible refine gate_callee (f := 107) rfl ?_); refine gL (some 18) Try.func107 #[.agg (csBay a0_0 a0_1 a0_2), .agg #[.int .i8 ((rd_T38 l1 x12_1).f0.f0), .int .i8 ((rd_T38 l1 x12_1).f0.f1), .int .i8 ((rd_T38 l1 x12_1).f1), .int .i8 ((rd_T38 l1 x12_1).f2), .int .i8 ((rd_T38 l1 x12_1).f3), .int .i8 ((rd_T38 l1 x12_1).f4)]] ?_; (with_reducible refine (impl_isBoat.calls a0_0 a0_1 a0_2 ((rd_T38 l1 x12_1).f0.f0) ((rd_T38 l1 x12_1).f0.f1) ((rd_T38 l1 x12_1).f1) ((rd_T38 l1 x12_1).f2) ((rd_T38 l1 x12_1).f3) ((rd_T38 l1 x12_1).f4) false _ A11.out).mono ?_); rintro e w22 ⟨rfl, hb⟩; refine ⟨_, rfl, ?_⟩; replace BK271 := am (blk_below (g := gb271) (o := .cells (csBay a0_0 a0_1 a0_2) 28 (0, 0)) (by (with_reducible repeat (first | refine blk_drewN ?_ _ | refine blk_drew ?_ | refine blk_alloc ?_ _)); refine blk_far ?_ NB271_274.out _; (with_reducible repeat (first | refine blk_drewN ?_ _ | refine blk_drew ?_ | refine blk_alloc ?_ _)); refine blk_far ?_ NB271_274.out _; (with_reducible repeat (first | refine blk_drewN ?_ _ | refine blk_drew ?_ | refine blk_alloc ?_ _)); refine blk_far ?_ NB271_274.out _; (with_reducible repeat (first | refine blk_drewN ?_ _ | refine blk_drew ?_ | refine blk_alloc ?_ _)); refine blk_far ?_ NB271_274.out _; (with_reducible repeat (first | refine blk_drewN ?_ _ | refine blk_drew ?_ | refine blk_alloc ?_ _)); refine blk_far ?_ NB271_274.out _; (with_reducible repeat (first | refine blk_drewN ?_ _ | refine blk_drew ?_ | refine blk_alloc ?_ _)); refine blk_far ?_ NB271_274.out _; exact kb BK271) hb); replace BK274 := am (blk_below (g := gb274) (o := .cells #[.int .i8 ((rd_T38 l1 x12_1).f0.f0), .int .i8 ((rd_T38 l1 x12_1).f0.f1), .int .i8 ((rd_T38 l1 x12_1).f1), .int .i8 ((rd_T38 l1 x12_1).f2), .int .i8 ((rd_T38 l1 x12_1).f3), .int .i8 ((rd_T38 l1 x12_1).f4)] 38 (0, 0)) (by (with_reducible repeat (first | refine blk_drewN ?_ _ | refine blk_drew ?_ | refine blk_alloc ?_ _)); refine blk_put (cs := #[.int .i8 ((rd_T38 l1 x12_1).f0.f0), .int .i8 ((rd_T38 l1 x12_1).f0.f1), .int .i8 ((rd_T38 l1 x12_1).f1), .int .i8 ((rd_T38 l1 x12_1).f2), .int .i8 ((rd_T38 l1 x12_1).f3), .int .i8 0]) ?_ 5 _ rfl; (with_reducible repeat (first | refine blk_drewN ?_ _ | refine blk_drew ?_ | refine blk_alloc ?_ _)); refine blk_put (cs := #[.int .i8 ((rd_T38 l1 x12_1).f0.f0), .int .i8 ((rd_T38 l1 x12_1).f0.f1), .int .i8 ((rd_T38 l1 x12_1).f1), .int .i8 ((rd_T38 l1 x12_1).f2), .int .i8 0, .int .i8 0]) ?_ 4 _ rfl; (with_reducible repeat (first | refine blk_drewN ?_ _ | refine blk_drew ?_ | refine blk_alloc ?_ _)); refine blk_put (cs := #[.int .i8 ((rd_T38 l1 x12_1).f0.f0), .int .i8 ((rd_T38 l1 x12_1).f0.f1), .int .i8 ((rd_T38 l1 x12_1).f1), .int .i8 0, .int .i8 0, .int .i8 0]) ?_ 3 _ rfl; (with_reducible repeat (first | refine blk_drewN ?_ _ | refine blk_drew ?_ | refine blk_alloc ?_ _)); refine blk_put (cs := #[.int .i8 ((rd_T38 l1 x12_1).f0.f0), .int .i8 ((rd_T38 l1 x12_1).f0.f1), .int .i8 0, .int .i8 0, .int .i8 0, .int .i8 0]) ?_ 2 _ rfl; (with_reducible repeat (first | refine blk_drewN ?_ _ | refine blk_drew ?_ | refine blk_alloc ?_ _)); refine blk_put (cs := #[.int .i8 ((rd_T38 l1 x12_1).f0.f0), .int .i8 0, .int .i8 0, .int .i8 0, .int .i8 0, .int .i8 0]) ?_ 1 _ rfl; (with_reducible repeat (first | refine blk_drewN ?_ _ | refine blk_drew ?_ | refine blk_alloc ?_ _)); refine blk_put (cs := #[.int .i8 0, .int .i8 0, .int .i8 0, .int .i8 0, .int .i8 0, .int .i8 0]) ?_ 0 _ rfl; exact kb BK274) hb); replace HB := am (below_step (be HB) hb); (try clear hb); (try clear hb2); (try clear hk); (try clear hi)))
        go_ret
        exact ⟨by first | rfl | (simp [errW_none, errW_some] <;> rfl) | (simp [*, errW_none, errW_some] <;> rfl), be HB⟩
      ·rw [if_neg c10] at H
       exact absurd H (by simp)
     ·rw [if_neg c9] at H
      exact absurd H (by simp)
    ·rw [if_neg c8] at H
     have c8b0 : decide (x12_1 < (l1.length : Int)) = false := decide_eq_false c8
     clear c8
     by_cases c23 : (l1.length : Int) > 10
     ·rw [if_pos c23] at H
      have c23b0 : decide (10 < (l1.length : Int)) = true := decide_eq_true c23
      have c23b1 : decide (10 < l1.length) = true := decide_eq_true (by omega)
      clear c23
      obtain rfl := Option.some.inj H
      go_wp2
      go_ret
      exact ⟨by first | rfl | (simp [errW_none, errW_some] <;> rfl) | (simp [*, errW_none, errW_some] <;> rfl), be HB⟩
     ·rw [if_neg c23] at H
      have c23b0 : decide (10 < (l1.length : Int)) = false := decide_eq_false c23
      have c23b1 : decide (10 < l1.length) = false := decide_eq_false (by omega)
      clear c23
      obtain rfl := Option.some.inj H
      go_wp2
      go_ret
      exact ⟨by first | rfl | (simp [errW_none, errW_some] <;> rfl) | (simp [*, errW_none, errW_some] <;> rfl), be HB⟩
 ·replace c4 := Bool.eq_false_iff.mpr c4
  subst c4
  have H1 : (some 1) = some r := by rw [if_neg (show ¬ (false = true) by decide)] at H; exact H
  clear H
  have H := H1
  clear H1
  obtain rfl := Option.some.inj H
  go_enter Try.func125, Try.ntmps125
  go_wp2_with (first | ((with_reducible refine gate_dst (N := 2) rfl ?_); refine bxe (N := 2) (cs := (csBay a0_0 a0_1 a0_2)) (t := 28) ?_; intro gb271 hg w24 hbox hb; have BK271 := am (hbox); have GW271 := am (gN hg (below_size (be HB))); have GE271 := am (gN hg (below_size (be HB))); replace HB := am (below_step (be HB) hb); clear hb hbox hg; obtain ⟨hcz25_0, hcz25_1, hwz25, haz25, hyz25, hvz25, hfz25_0, hfz25_1, hfz25_2⟩ := bb28 BK271) | ((with_reducible refine gate_callee (f := 27) rfl ?_); refine gL (some 8) Try.func27 #[.agg (csBay a0_0 a0_1 a0_2)] ?_; (with_reducible refine (impl_ValidBay.calls a0_0 a0_1 a0_2 false _ A3.out).mono ?_); rintro e w26 ⟨rfl, hb⟩; refine ⟨_, rfl, ?_⟩; replace BK271 := bB BK271 hb; replace HB := am (below_step (be HB) hb); (try clear hb); (try clear hb2); (try clear hk); (try clear hi)))
  go_ret
  exact ⟨by first | rfl | (simp [errW_none, errW_some] <;> rfl) | (simp [*, errW_none, errW_some] <;> rfl), be HB⟩

/-! ### impl_ValidTides: function 148 -/
mutual
def impl_ValidTides.j0 : Nat → List (S103) → Bool → Option (Bool)
 | 0, _, _ => none
 | k + 1, x0, x13 => if x13 = true then (some false) else (impl_ValidTides.l0 k x0 x0 (x0.length : Int) 0)
def impl_ValidTides.l0 : Nat → List (S103) → List (S103) → Int → Int → Option (Bool)
 | 0, _, _, _, _ => none
 | k + 1, x0, x14, x15, x16 => if x16 < x15 then (if 0 ≤ x16 then (if x16 < (x14.length : Int) then (if ((rd_T103 x14 x16).f0) < 0 then (impl_ValidTides.j2 k x0 x16 x14 x15 x16 true ((rd_T103 x14 x16).f0) ((rd_T103 x14 x16).f1)) else (if ((rd_T103 x14 x16).f0) > 3000 then (impl_ValidTides.j2 k x0 x16 x14 x15 x16 true ((rd_T103 x14 x16).f0) ((rd_T103 x14 x16).f1)) else (if ((rd_T103 x14 x16).f1) < 0 then (impl_ValidTides.j2 k x0 x16 x14 x15 x16 true ((rd_T103 x14 x16).f0) ((rd_T103 x14 x16).f1)) else (impl_ValidTides.j2 k x0 x16 x14 x15 x16 (decide (((rd_T103 x14 x16).f1) > 100)) ((rd_T103 x14 x16).f0) ((rd_T103 x14 x16).f1))))) else (none)) else (none)) else (some true)
def impl_ValidTides.j2 : Nat → List (S103) → Int → List (S103) → Int → Int → Bool → Int → Int → Option (Bool)
 | 0, _, _, _, _, _, _, _, _ => none
 | k + 1, x0, x3, x14, x15, x16, x38, x278000, x278001 => if x38 = true then (some false) else (if x3 = 0 then (impl_ValidTides.l0 k x0 x14 x15 (wrap64 (x16 + 1))) else (if 0 ≤ (wrap64 (x3 - 1)) then (if (wrap64 (x3 - 1)) < (x0.length : Int) then (if x278000 < (IntKind.i16.wrap (((rd_T103 x0 (wrap64 (x3 - 1))).f0) + 6)) then (some false) else (if x278001 = ((rd_T103 x0 (wrap64 (x3 - 1))).f1) then (some false) else (if x3 > 1 then (if 0 ≤ (wrap64 (x3 - 2)) then (if (wrap64 (x3 - 2)) < (x0.length : Int) then (if ((decide (x278001 > ((rd_T103 x0 (wrap64 (x3 - 1))).f1))) == (decide (((rd_T103 x0 (wrap64 (x3 - 1))).f1) > ((rd_T103 x0 (wrap64 (x3 - 2))).f1)))) = true then (some false) else (impl_ValidTides.l0 k x0 x14 x15 (wrap64 (x16 + 1)))) else (none)) else (none)) else (impl_ValidTides.l0 k x0 x14 x15 (wrap64 (x16 + 1)))))) else (none)) else (none)))
end
def impl_ValidTides.f (k : Nat) (l0 : List (S103)) : Option (Bool) := if (l0.length : Int) < 2 then (impl_ValidTides.j0 k l0 true) else (impl_ValidTides.j0 k l0 (decide ((l0.length : Int) > 8)))
set_option maxHeartbeats 8000000 in
set_option maxRecDepth 100000 in
theorem impl_ValidTides.calls (k : Nat) (A0 : Option Addr) (c0 : Nat) (l0 : List (S103)) (r : Bool) (w : World) (hr0 : Kd.C k103 w A0 l0.length l0) (hc0 : l0.length ≤ c0) (h : impl_ValidTides.f k l0 = some r) :
  Calls Try.prog 148 #[.slice A0 l0.length c0] w fun e w' => e = .returned (.bool r) ∧ Below w.heap.size w w' := by
 have hu103 := Try.underlying103
 have HR0 := am hr0
 have HC0 := am hc0
 clear hr0 hc0
 have HB := am (Below.refl w.heap.size w)
 have H : (if (l0.length : Int) < 2 then (impl_ValidTides.j0 k l0 true) else (impl_ValidTides.j0 k l0 (decide ((l0.length : Int) > 8)))) = some r := h
 clear h
 have HC2 := am H
 clear H
 go_enter Try.func148, Try.ntmps148
 go_upto_region 1 with (fail)
 repeat (go_quiet (fail); go_upto_region 1 with (fail))
 go_cut [13] (fun v13 wc => ∃ (kq : Nat) (x13_1 : Bool), v13 = .bool x13_1 ∧ Aside0 (impl_ValidTides.j0 kq l0 x13_1 = some r) ∧ Aside0 (kq ≤ k) ∧ Aside0 (Below w.heap.size w wc))
 case first =>
  have H := HC2.out
  clear HC2
  by_cases c3 : (l0.length : Int) < 2
  ·rw [if_pos c3] at H
   have c3b0 : decide ((l0.length : Int) < 2) = true := decide_eq_true c3
   have c3b1 : decide (l0.length < 2) = true := decide_eq_true (by omega)
   clear c3
   (first | rw [c3b0] | (simp only [i64_w, i32_w]; rw [c3b0]) | skip)
   have H' := am H
   clear H
   go_wp2
   repeat (go_quiet (fail); try go_wp2)
   go_meet
   case rel => exact ⟨_, (true), vx, H', ⟨by first | omega | exact Nat.le_refl _⟩, ⟨be HB⟩⟩
  ·rw [if_neg c3] at H
   have c3b0 : decide ((l0.length : Int) < 2) = false := decide_eq_false c3
   have c3b1 : decide (l0.length < 2) = false := decide_eq_false (by omega)
   clear c3
   (first | rw [c3b0] | (simp only [i64_w, i32_w]; rw [c3b0]) | skip)
   have H' := am H
   clear H
   go_wp2
   repeat (go_quiet (fail); try go_wp2)
   go_meet
   case rel => exact ⟨_, (decide ((l0.length : Int) > 8)), vx, H', ⟨by first | omega | exact Nat.le_refl _⟩, ⟨be HB⟩⟩
 case rest =>
  clear HC2
  try clear c1
  try clear p2
  try clear c3
  try clear c3b0
  try clear c3b1
  obtain ⟨kq, x13_1, rfl, HA, HJ1, HB⟩ := hcut
  cases kq with
  | zero => exact absurd HA.out (by simp [impl_ValidTides.j0])
  | succ kj1 =>
   have H := HA.out
   clear HA
   simp only [impl_ValidTides.j0] at H
   by_cases c4 : x13_1 = true
   ·subst c4
    rw [if_pos rfl] at H
    obtain rfl := Option.some.inj H
    go_wp2
    repeat (go_quiet (fail); try go_wp2)
    go_ret
    exact ⟨by first | rfl | (simp [errW_none, errW_some] <;> rfl) | (simp [*, errW_none, errW_some] <;> rfl), be HB⟩
   ·replace c4 := Bool.eq_false_iff.mpr c4
    subst c4
    have H1 : (impl_ValidTides.l0 kj1 l0 l0 (l0.length : Int) 0) = some r := by rw [if_neg (show ¬ (false = true) by decide)] at H; exact H
    clear H
    have H := H1
    clear H1
    have H' := am H
    clear H
    go_wp2
    repeat (go_quiet (fail); try go_wp2)
    go_loopg [16] kj1 (fun kq v16 w' => ∃ (x16_2 : Int), v16 = .int .i64 x16_2 ∧ Aside0 (impl_ValidTides.l0 kq l0 l0 (l0.length : Int) x16_2 = some r) ∧ Aside0 (kq ≤ kj1) ∧ Aside0 (Below w.heap.size w w'))
    case atStart => exact ⟨(0), vx, H', ⟨Nat.le_refl _⟩, ⟨be HB⟩⟩
    case round =>
     clear H'
     try clear c1
     try clear p2
     try clear c3
     try clear c3b0
     try clear c3b1
     try clear c4
     try clear p2
     obtain ⟨x16_2, rfl, HA, HK2, HB⟩ := hrel
     cases gk with
     | zero => exact absurd HA.out (by simp [impl_ValidTides.l0])
     | succ k2 =>
      have H := HA.out
      clear HA
      simp only [impl_ValidTides.l0] at H
      by_cases c5 : x16_2 < (l0.length : Int)
      ·rw [if_pos c5] at H
       have c5b0 : decide (x16_2 < (l0.length : Int)) = true := decide_eq_true c5
       clear c5
       by_cases c6 : 0 ≤ x16_2
       ·rw [if_pos c6] at H
        have c6b0 : decide (0 ≤ x16_2) = true := decide_eq_true c6
        have c6b1 : 0 ≤ x16_2 := c6
        clear c6
        by_cases c7 : x16_2 < (l0.length : Int)
        ·rw [if_pos c7] at H
         have c7b0 : decide (x16_2 < (l0.length : Int)) = true := decide_eq_true c7
         clear c7
         have HC8 := am H
         clear H
         have p276 : 0 ≤ (x16_2 : Int) := of_decide_eq_true (by first | (with_reducible assumption) | assumption)
         have q276 : x16_2 < (l0.length : Int) := of_decide_eq_true (by first | (with_reducible assumption) | assumption)
         obtain ⟨ad276, e276, hx276_0, hx276_1⟩ := at_T103 HR0.out x16_2 p276 q276
         cases e276
         replace hx276_0 := (HB.out.cell (World.block_lt_of_cell? w _ hx276_0)).trans hx276_0
         replace hx276_1 := (HB.out.cell (World.block_lt_of_cell? w _ hx276_1)).trans hx276_1
         replace p276 := eq_true p276
         replace q276 := eq_true q276
         go_upto_region 6 with (first | ((with_reducible refine gate_dst (N := 4) rfl ?_); (try (refine gate_guard (by rfl) ?_; dsimp only)); refine bxe (N := 4) (cs := #[.int .i16 0, .int .i8 0]) (t := 103) ?_; intro gb277 hg w9 hbox hb; have BK277 := am (hbox); have GW277 := am (gN hg (below_size (be HB))); have GE277 := am (gN hg (below_size (be HB))); replace HB := am (below_step (be HB) hb); clear hb hbox hg; obtain ⟨hcz10_0, hcz10_1, hfz10_0, hfz10_1⟩ := bx2 BK277))
         repeat (go_quiet (first | ((with_reducible refine gate_dst (N := 4) rfl ?_); (try (refine gate_guard (by rfl) ?_; dsimp only)); refine bxe (N := 4) (cs := #[.int .i16 0, .int .i8 0]) (t := 103) ?_; intro gb277 hg w9 hbox hb; have BK277 := am (hbox); have GW277 := am (gN hg (below_size (be HB))); have GE277 := am (gN hg (below_size (be HB))); replace HB := am (below_step (be HB) hb); clear hb hbox hg; obtain ⟨hcz10_0, hcz10_1, hfz10_0, hfz10_1⟩ := bx2 BK277)); go_upto_region 6 with (first | ((with_reducible refine gate_dst (N := 4) rfl ?_); (try (refine gate_guard (by rfl) ?_; dsimp only)); refine bxe (N := 4) (cs := #[.int .i16 0, .int .i8 0]) (t := 103) ?_; intro gb277 hg w9 hbox hb; have BK277 := am (hbox); have GW277 := am (gN hg (below_size (be HB))); have GE277 := am (gN hg (below_size (be HB))); replace HB := am (below_step (be HB) hb); clear hb hbox hg; obtain ⟨hcz10_0, hcz10_1, hfz10_0, hfz10_1⟩ := bx2 BK277)))
         (try simp only [Act.put, List.setIfInBounds_toArray, List.set_cons_zero, List.set_cons_succ])
         go_cut [38] (fun v38 wc => ∃ (kq : Nat) (x38_7 : Bool), v38 = .bool x38_7 ∧ Aside0 (impl_ValidTides.j2 kq l0 x16_2 l0 (l0.length : Int) x16_2 x38_7 ((rd_T103 l0 x16_2).f0) ((rd_T103 l0 x16_2).f1) = some r) ∧ Aside0 (kq ≤ k2) ∧ Aside0 (wc.heap[gb277]? = some (.cells #[.int .i16 ((rd_T103 l0 x16_2).f0), .int .i8 ((rd_T103 l0 x16_2).f1)] 103 (0, 0))) ∧ Aside0 (Below w.heap.size w wc))
         case first =>
          have H := HC8.out
          clear HC8
          by_cases c11 : ((rd_T103 l0 x16_2).f0) < 0
          ·rw [if_pos c11] at H
           have c11b0 : decide (((rd_T103 l0 x16_2).f0) < 0) = true := decide_eq_true c11
           clear c11
           (first | rw [c11b0] | (simp only [i64_w, i32_w]; rw [c11b0]) | skip)
           have H' := am H
           clear H
           obtain ⟨hcz12_0, hcz12_1, hfz12_0, hfz12_1⟩ := bx2 BK277
           go_wp2
           repeat (go_quiet (fail); try go_wp2)
           go_meet
           case rel => exact ⟨_, (true), vx, H', ⟨by have := HJ1.out; have := HK2.out; first | omega | exact Nat.le_refl _⟩, ⟨by (with_reducible repeat (first | refine blk_drewN ?_ _ | refine blk_drew ?_ | refine blk_alloc ?_ _)); refine blk_put (cs := #[.int .i16 ((rd_T103 l0 x16_2).f0), .int .i8 0]) ?_ 1 _ rfl; (with_reducible repeat (first | refine blk_drewN ?_ _ | refine blk_drew ?_ | refine blk_alloc ?_ _)); refine blk_put (cs := #[.int .i16 0, .int .i8 0]) ?_ 0 _ rfl; exact kb BK277⟩, ⟨be HB⟩⟩
          ·rw [if_neg c11] at H
           have c11b0 : decide (((rd_T103 l0 x16_2).f0) < 0) = false := decide_eq_false c11
           clear c11
           (first | rw [c11b0] | (simp only [i64_w, i32_w]; rw [c11b0]) | skip)
           by_cases c13 : ((rd_T103 l0 x16_2).f0) > 3000
           ·rw [if_pos c13] at H
            have c13b0 : decide (3000 < ((rd_T103 l0 x16_2).f0)) = true := decide_eq_true c13
            clear c13
            have H' := am H
            clear H
            obtain ⟨hcz14_0, hcz14_1, hfz14_0, hfz14_1⟩ := bx2 BK277
            go_wp2
            repeat (go_quiet (fail); try go_wp2)
            go_meet
            case rel => exact ⟨_, (true), vx, H', ⟨by have := HJ1.out; have := HK2.out; first | omega | exact Nat.le_refl _⟩, ⟨by (with_reducible repeat (first | refine blk_drewN ?_ _ | refine blk_drew ?_ | refine blk_alloc ?_ _)); refine blk_put (cs := #[.int .i16 ((rd_T103 l0 x16_2).f0), .int .i8 0]) ?_ 1 _ rfl; (with_reducible repeat (first | refine blk_drewN ?_ _ | refine blk_drew ?_ | refine blk_alloc ?_ _)); refine blk_put (cs := #[.int .i16 0, .int .i8 0]) ?_ 0 _ rfl; exact kb BK277⟩, ⟨be HB⟩⟩
           ·rw [if_neg c13] at H
            have c13b0 : decide (3000 < ((rd_T103 l0 x16_2).f0)) = false := decide_eq_false c13
            clear c13
            by_cases c15 : ((rd_T103 l0 x16_2).f1) < 0
            ·rw [if_pos c15] at H
             have c15b0 : decide (((rd_T103 l0 x16_2).f1) < 0) = true := decide_eq_true c15
             clear c15
             have H' := am H
             clear H
             obtain ⟨hcz16_0, hcz16_1, hfz16_0, hfz16_1⟩ := bx2 BK277
             go_wp2
             repeat (go_quiet (fail); try go_wp2)
             go_meet
             case rel => exact ⟨_, (true), vx, H', ⟨by have := HJ1.out; have := HK2.out; first | omega | exact Nat.le_refl _⟩, ⟨by (with_reducible repeat (first | refine blk_drewN ?_ _ | refine blk_drew ?_ | refine blk_alloc ?_ _)); refine blk_put (cs := #[.int .i16 ((rd_T103 l0 x16_2).f0), .int .i8 0]) ?_ 1 _ rfl; (with_reducible repeat (first | refine blk_drewN ?_ _ | refine blk_drew ?_ | refine blk_alloc ?_ _)); refine blk_put (cs := #[.int .i16 0, .int .i8 0]) ?_ 0 _ rfl; exact kb BK277⟩, ⟨be HB⟩⟩
            ·rw [if_neg c15] at H
             have c15b0 : decide (((rd_T103 l0 x16_2).f1) < 0) = false := decide_eq_false c15
             clear c15
             have H' := am H
             clear H
             obtain ⟨hcz17_0, hcz17_1, hfz17_0, hfz17_1⟩ := bx2 BK277
             go_wp2
             repeat (go_quiet (fail); try go_wp2)
             go_meet
             case rel => exact ⟨_, (decide (((rd_T103 l0 x16_2).f1) > 100)), vx, H', ⟨by have := HJ1.out; have := HK2.out; first | omega | exact Nat.le_refl _⟩, ⟨by (with_reducible repeat (first | refine blk_drewN ?_ _ | refine blk_drew ?_ | refine blk_alloc ?_ _)); refine blk_put (cs := #[.int .i16 ((rd_T103 l0 x16_2).f0), .int .i8 0]) ?_ 1 _ rfl; (with_reducible repeat (first | refine blk_drewN ?_ _ | refine blk_drew ?_ | refine blk_alloc ?_ _)); refine blk_put (cs := #[.int .i16 0, .int .i8 0]) ?_ 0 _ rfl; exact kb BK277⟩, ⟨be HB⟩⟩
         case rest =>
          clear HC8
          try clear c1
          try clear p2
          try clear q2
          try clear hx2
          try clear c3
          try clear c3b0
          try clear c3b1
          try clear c4
          try clear c5
          try clear c5b0
          try clear c6
          try clear c6b0
          try clear c6b1
          try clear c7
          try clear c7b0
          try clear c11
          try clear c11b0
          try clear c13
          try clear c13b0
          try clear c14
          try clear c15
          try clear c15b0
          try clear hcz10_0
          try clear hcz10_1
          try clear hcz12_0
          try clear hcz12_1
          try clear hcz14_0
          try clear hcz14_1
          try clear hcz16_0
          try clear hcz16_1
          try clear hcz17_0
          try clear hcz17_1
          try clear hfz10_0
          try clear hfz10_1
          try clear hfz12_0
          try clear hfz12_1
          try clear hfz14_0
          try clear hfz14_1
          try clear hfz16_0
          try clear hfz16_1
          try clear hfz17_0
          try clear hfz17_1
          try clear hx276_0
          try clear hx276_1
          try clear p2
          try clear p276
          try clear q276
          obtain ⟨kq, x38_7, rfl, HA, HJ7, BK277, HB⟩ := hcut
          cases kq with
          | zero => exact absurd HA.out (by simp [impl_ValidTides.j2])
          | succ kj7 =>
           have H := HA.out
           clear HA
           simp only [impl_ValidTides.j2] at H
           by_cases c18 : x38_7 = true
           ·subst c18
            rw [if_pos rfl] at H
            obtain rfl := Option.some.inj H
            go_wp2
            repeat (go_quiet (fail); try go_wp2)
            go_ret
            exact ⟨by first | rfl | (simp [errW_none, errW_some] <;> rfl) | (simp [*, errW_none, errW_some] <;> rfl), be HB⟩
           ·replace c18 := Bool.eq_false_iff.mpr c18
            subst c18
            have H1 : (if x16_2 = 0 then (impl_ValidTides.l0 kj7 l0 l0 (l0.length : Int) (wrap64 (x16_2 + 1))) else (if 0 ≤ (wrap64 (x16_2 - 1)) then (if (wrap64 (x16_2 - 1)) < (l0.length : Int) then (if ((rd_T103 l0 x16_2).f0) < (IntKind.i16.wrap (((rd_T103 l0 (wrap64 (x16_2 - 1))).f0) + 6)) then (some false) else (if ((rd_T103 l0 x16_2).f1) = ((rd_T103 l0 (wrap64 (x16_2 - 1))).f1) then (some false) else (if x16_2 > 1 then (if 0 ≤ (wrap64 (x16_2 - 2)) then (if (wrap64 (x16_2 - 2)) < (l0.length : Int) then (if ((decide (((rd_T103 l0 x16_2).f1) > ((rd_T103 l0 (wrap64 (x16_2 - 1))).f1))) == (decide (((rd_T103 l0 (wrap64 (x16_2 - 1))).f1) > ((rd_T103 l0 (wrap64 (x16_2 - 2))).f1)))) = true then (some false) else (impl_ValidTides.l0 kj7 l0 l0 (l0.length : Int) (wrap64 (x16_2 + 1)))) else (none)) else (none)) else (impl_ValidTides.l0 kj7 l0 l0 (l0.length : Int) (wrap64 (x16_2 + 1)))))) else (none)) else (none))) = some r := by rw [if_neg (show ¬ (false = true) by decide)] at H; exact H
            clear H
            have H := H1
            clear H1
            by_cases c19 : x16_2 = 0
            ·rw [if_pos c19] at H
             have c19b0 : (x16_2 == 0) = true := beq_iff_eq.mpr c19
             have c19b1 : (x16_2 != 0) = false := bne_eq_false_iff_eq.mpr c19
             clear c19
             have H' := am H
             clear H
             go_wp2
             repeat (go_quiet (fail); try go_wp2)
             go_roundg kj7
             case measure => have := HJ1.out; have := HK2.out; have := HJ7.out; omega
             case rel => exact ⟨(wrap64 (x16_2 + 1)), vx, H', ⟨by have := HJ1.out; have := HK2.out; have := HJ7.out; omega⟩, ⟨be HB⟩⟩
            ·rw [if_neg c19] at H
             have c19b0 : (x16_2 == 0) = false := beq_eq_false_iff_ne.mpr c19
             have c19b1 : (x16_2 != 0) = true := bne_iff_ne.mpr c19
             obtain ⟨ji20, hji20⟩ : ∃ j_ : Int, (wrap64 (x16_2 - 1)) = j_ := ⟨_, rfl⟩
             replace H : (if 0 ≤ (ji20) then (if (ji20) < (l0.length : Int) then (if ((rd_T103 l0 x16_2).f0) < (IntKind.i16.wrap (((rd_T103 l0 (ji20)).f0) + 6)) then (some false) else (if ((rd_T103 l0 x16_2).f1) = ((rd_T103 l0 (ji20)).f1) then (some false) else (if x16_2 > 1 then (if 0 ≤ (wrap64 (x16_2 - 2)) then (if (wrap64 (x16_2 - 2)) < (l0.length : Int) then (if ((decide (((rd_T103 l0 x16_2).f1) > ((rd_T103 l0 (ji20)).f1))) == (decide (((rd_T103 l0 (ji20)).f1) > ((rd_T103 l0 (wrap64 (x16_2 - 2))).f1)))) = true then (some false) else (impl_ValidTides.l0 kj7 l0 l0 (l0.length : Int) (wrap64 (x16_2 + 1)))) else (none)) else (none)) else (impl_ValidTides.l0 kj7 l0 l0 (l0.length : Int) (wrap64 (x16_2 + 1)))))) else (none)) else (none)) = some r := by first | (rw [hji20] at H; exact H) | (simp only [hji20] at H ⊢; exact H)
             have hji20w : (IntKind.i64.wrap (x16_2 - 1)) = ji20 := (i64_w _).trans hji20
             by_cases c21 : 0 ≤ (ji20)
             ·rw [if_pos c21] at H
              have c21b0 : decide (0 ≤ (ji20)) = true := decide_eq_true c21
              have c21b1 : 0 ≤ (ji20) := c21
              clear c21
              by_cases c22 : (ji20) < (l0.length : Int)
              ·rw [if_pos c22] at H
               have c22b0 : decide ((ji20) < (l0.length : Int)) = true := decide_eq_true c22
               clear c22
               by_cases c23 : ((rd_T103 l0 x16_2).f0) < (IntKind.i16.wrap (((rd_T103 l0 (ji20)).f0) + 6))
               ·rw [if_pos c23] at H
                have c23b0 : decide (((rd_T103 l0 x16_2).f0) < (IntKind.i16.wrap (((rd_T103 l0 (ji20)).f0) + 6))) = true := decide_eq_true c23
                clear c23
                obtain rfl := Option.some.inj H
                have p278 : 0 ≤ ((ji20) : Int) := of_decide_eq_true (by first | (with_reducible assumption) | assumption)
                have q278 : (ji20) < (l0.length : Int) := of_decide_eq_true (by first | (with_reducible assumption) | assumption)
                obtain ⟨ad278, e278, hx278_0, hx278_1⟩ := at_T103 HR0.out (ji20) p278 q278
                obtain rfl : ad276 = ad278 := (by injection e278)
                replace hx278_0 := (HB.out.cell (World.block_lt_of_cell? w _ hx278_0)).trans hx278_0
                replace hx278_1 := (HB.out.cell (World.block_lt_of_cell? w _ hx278_1)).trans hx278_1
                replace p278 := eq_true p278
                replace q278 := eq_true q278
                go_wp2_with (first | ((with_reducible refine gate_dst (N := 5) rfl ?_); (try (refine gate_guard (by rfl) ?_; dsimp only)); refine bxe (N := 5) (cs := #[.int .i16 0, .int .i8 0]) (t := 103) ?_; intro gb279 hg w24 hbox hb; have BK279 := am (hbox); have GW279 := am (gN hg (below_size (be HB))); have GE279 := am (gN hg (below_size (be HB))); have NB277_279 := nL BK277 hg; have NB279_277 := nR BK277 hg; replace BK277 := bB BK277 hb; replace HB := am (below_step (be HB) hb); clear hb hbox hg; have hnb25 := NB279_277.out; have hnc25 := NB277_279.out; obtain ⟨hcz26_0, hcz26_1, hfz26_0, hfz26_1⟩ := bx2 BK279; obtain ⟨hcz27_0, hcz27_1, hfz27_0, hfz27_1⟩ := bx2 BK277))
                repeat (go_quiet (first | ((with_reducible refine gate_dst (N := 5) rfl ?_); (try (refine gate_guard (by rfl) ?_; dsimp only)); refine bxe (N := 5) (cs := #[.int .i16 0, .int .i8 0]) (t := 103) ?_; intro gb279 hg w24 hbox hb; have BK279 := am (hbox); have GW279 := am (gN hg (below_size (be HB))); have GE279 := am (gN hg (below_size (be HB))); have NB277_279 := nL BK277 hg; have NB279_277 := nR BK277 hg; replace BK277 := bB BK277 hb; replace HB := am (below_step (be HB) hb); clear hb hbox hg; have hnb25 := NB279_277.out; have hnc25 := NB277_279.out; obtain ⟨hcz26_0, hcz26_1, hfz26_0, hfz26_1⟩ := bx2 BK279; obtain ⟨hcz27_0, hcz27_1, hfz27_0, hfz27_1⟩ := bx2 BK277)); try go_wp2_with (first | ((with_reducible refine gate_dst (N := 5) rfl ?_); (try (refine gate_guard (by rfl) ?_; dsimp only)); refine bxe (N := 5) (cs := #[.int .i16 0, .int .i8 0]) (t := 103) ?_; intro gb279 hg w24 hbox hb; have BK279 := am (hbox); have GW279 := am (gN hg (below_size (be HB))); have GE279 := am (gN hg (below_size (be HB))); have NB277_279 := nL BK277 hg; have NB279_277 := nR BK277 hg; replace BK277 := bB BK277 hb; replace HB := am (below_step (be HB) hb); clear hb hbox hg; have hnb25 := NB279_277.out; have hnc25 := NB277_279.out; obtain ⟨hcz26_0, hcz26_1, hfz26_0, hfz26_1⟩ := bx2 BK279; obtain ⟨hcz27_0, hcz27_1, hfz27_0, hfz27_1⟩ := bx2 BK277)))
                go_ret
                exact ⟨by first | rfl | (simp [errW_none, errW_some] <;> rfl) | (simp only [← hji20]; first | rfl | (simp [errW_none, errW_some] <;> rfl)) | (simp [*, errW_none, errW_some] <;> rfl), be HB⟩
               ·rw [if_neg c23] at H
                have c23b0 : decide (((rd_T103 l0 x16_2).f0) < (IntKind.i16.wrap (((rd_T103 l0 (ji20)).f0) + 6))) = false := decide_eq_false c23
                clear c23
                by_cases c28 : ((rd_T103 l0 x16_2).f1) = ((rd_T103 l0 (ji20)).f1)
                ·rw [if_pos c28] at H
                 have c28b0 : (((rd_T103 l0 x16_2).f1) == ((rd_T103 l0 (ji20)).f1)) = true := beq_iff_eq.mpr c28
                 have c28b1 : (((rd_T103 l0 x16_2).f1) != ((rd_T103 l0 (ji20)).f1)) = false := bne_eq_false_iff_eq.mpr c28
                 clear c28
                 obtain rfl := Option.some.inj H
                 have p278 : 0 ≤ ((ji20) : Int) := of_decide_eq_true (by first | (with_reducible assumption) | assumption)
                 have q278 : (ji20) < (l0.length : Int) := of_decide_eq_true (by first | (with_reducible assumption) | assumption)
                 obtain ⟨ad278, e278, hx278_0, hx278_1⟩ := at_T103 HR0.out (ji20) p278 q278
                 obtain rfl : ad276 = ad278 := (by injection e278)
                 replace hx278_0 := (HB.out.cell (World.block_lt_of_cell? w _ hx278_0)).trans hx278_0
                 replace hx278_1 := (HB.out.cell (World.block_lt_of_cell? w _ hx278_1)).trans hx278_1
                 replace p278 := eq_true p278
                 replace q278 := eq_true q278
                 go_wp2_with (first | ((with_reducible refine gate_dst (N := 5) rfl ?_); (try (refine gate_guard (by rfl) ?_; dsimp only)); refine bxe (N := 5) (cs := #[.int .i16 0, .int .i8 0]) (t := 103) ?_; intro gb279 hg w29 hbox hb; have BK279 := am (hbox); have GW279 := am (gN hg (below_size (be HB))); have GE279 := am (gN hg (below_size (be HB))); have NB277_279 := nL BK277 hg; have NB279_277 := nR BK277 hg; replace BK277 := bB BK277 hb; replace HB := am (below_step (be HB) hb); clear hb hbox hg; have hnb30 := NB279_277.out; have hnc30 := NB277_279.out; obtain ⟨hcz31_0, hcz31_1, hfz31_0, hfz31_1⟩ := bx2 BK279; obtain ⟨hcz32_0, hcz32_1, hfz32_0, hfz32_1⟩ := bx2 BK277))
                 repeat (go_quiet (first | ((with_reducible refine gate_dst (N := 5) rfl ?_); (try (refine gate_guard (by rfl) ?_; dsimp only)); refine bxe (N := 5) (cs := #[.int .i16 0, .int .i8 0]) (t := 103) ?_; intro gb279 hg w29 hbox hb; have BK279 := am (hbox); have GW279 := am (gN hg (below_size (be HB))); have GE279 := am (gN hg (below_size (be HB))); have NB277_279 := nL BK277 hg; have NB279_277 := nR BK277 hg; replace BK277 := bB BK277 hb; replace HB := am (below_step (be HB) hb); clear hb hbox hg; have hnb30 := NB279_277.out; have hnc30 := NB277_279.out; obtain ⟨hcz31_0, hcz31_1, hfz31_0, hfz31_1⟩ := bx2 BK279; obtain ⟨hcz32_0, hcz32_1, hfz32_0, hfz32_1⟩ := bx2 BK277)); try go_wp2_with (first | ((with_reducible refine gate_dst (N := 5) rfl ?_); (try (refine gate_guard (by rfl) ?_; dsimp only)); refine bxe (N := 5) (cs := #[.int .i16 0, .int .i8 0]) (t := 103) ?_; intro gb279 hg w29 hbox hb; have BK279 := am (hbox); have GW279 := am (gN hg (below_size (be HB))); have GE279 := am (gN hg (below_size (be HB))); have NB277_279 := nL BK277 hg; have NB279_277 := nR BK277 hg; replace BK277 := bB BK277 hb; replace HB := am (below_step (be HB) hb); clear hb hbox hg; have hnb30 := NB279_277.out; have hnc30 := NB277_279.out; obtain ⟨hcz31_0, hcz31_1, hfz31_0, hfz31_1⟩ := bx2 BK279; obtain ⟨hcz32_0, hcz32_1, hfz32_0, hfz32_1⟩ := bx2 BK277)))
                 go_ret
                 exact ⟨by first | rfl | (simp [errW_none, errW_some] <;> rfl) | (simp only [← hji20]; first | rfl | (simp [errW_none, errW_some] <;> rfl)) | (simp [*, errW_none, errW_some] <;> rfl), be HB⟩
                ·rw [if_neg c28] at H
                 have c28b0 : (((rd_T103 l0 x16_2).f1) == ((rd_T103 l0 (ji20)).f1)) = false := beq_eq_false_iff_ne.mpr c28
                 have c28b1 : (((rd_T103 l0 x16_2).f1) != ((rd_T103 l0 (ji20)).f1)) = true := bne_iff_ne.mpr c28
                 by_cases c33 : x16_2 > 1
                 ·rw [if_pos c33] at H
                  have c33b0 : decide (1 < x16_2) = true := decide_eq_true c33
                  clear c33
                  obtain ⟨ji34, hji34⟩ : ∃ j_ : Int, (wrap64 (x16_2 - 2)) = j_ := ⟨_, rfl⟩
                  replace H : (if 0 ≤ (ji34) then (if (ji34) < (l0.length : Int) then (if ((decide (((rd_T103 l0 x16_2).f1) > ((rd_T103 l0 (ji20)).f1))) == (decide (((rd_T103 l0 (ji20)).f1) > ((rd_T103 l0 (ji34)).f1)))) = true then (some false) else (impl_ValidTides.l0 kj7 l0 l0 (l0.length : Int) (wrap64 (x16_2 + 1)))) else (none)) else (none)) = some r := by first | (rw [hji34] at H; exact H) | (simp only [hji34] at H ⊢; exact H)
                  have hji34w : (IntKind.i64.wrap (x16_2 - 2)) = ji34 := (i64_w _).trans hji34
                  by_cases c35 : 0 ≤ (ji34)
                  ·rw [if_pos c35] at H
                   have c35b0 : decide (0 ≤ (ji34)) = true := decide_eq_true c35
                   have c35b1 : 0 ≤ (ji34) := c35
                   clear c35
                   by_cases c36 : (ji34) < (l0.length : Int)
                   ·rw [if_pos c36] at H
                    have c36b0 : decide ((ji34) < (l0.length : Int)) = true := decide_eq_true c36
                    clear c36
                    by_cases c37 : ((decide (((rd_T103 l0 x16_2).f1) > ((rd_T103 l0 (ji20)).f1))) == (decide (((rd_T103 l0 (ji20)).f1) > ((rd_T103 l0 (ji34)).f1)))) = true
                    ·rw [if_pos c37] at H
                     have c37b0 : ((decide (((rd_T103 l0 x16_2).f1) > ((rd_T103 l0 (ji20)).f1))) == (decide (((rd_T103 l0 (ji20)).f1) > ((rd_T103 l0 (ji34)).f1)))) = true := c37
                     (try (have c37b1 : decide ((decide (((rd_T103 l0 x16_2).f1) > ((rd_T103 l0 (ji20)).f1))) = (decide (((rd_T103 l0 (ji20)).f1) > ((rd_T103 l0 (ji34)).f1)))) = true := by simpa using c37))
                     (try (have c37b2 : ((decide (((rd_T103 l0 x16_2).f1) > ((rd_T103 l0 (ji20)).f1))) == (decide (((rd_T103 l0 (ji20)).f1) > ((rd_T103 l0 (ji34)).f1)))) = true := by simpa using c37))
                     clear c37
                     obtain rfl := Option.some.inj H
                     have p278 : 0 ≤ ((ji20) : Int) := of_decide_eq_true (by first | (with_reducible assumption) | assumption)
                     have q278 : (ji20) < (l0.length : Int) := of_decide_eq_true (by first | (with_reducible assumption) | assumption)
                     obtain ⟨ad278, e278, hx278_0, hx278_1⟩ := at_T103 HR0.out (ji20) p278 q278
                     obtain rfl : ad276 = ad278 := (by injection e278)
                     replace hx278_0 := (HB.out.cell (World.block_lt_of_cell? w _ hx278_0)).trans hx278_0
                     replace hx278_1 := (HB.out.cell (World.block_lt_of_cell? w _ hx278_1)).trans hx278_1
                     replace p278 := eq_true p278
                     replace q278 := eq_true q278
                     go_wp2_with (first | ((with_reducible refine gate_dst (N := 5) rfl ?_); (try (refine gate_guard (by rfl) ?_; dsimp only)); refine bxe (N := 5) (cs := #[.int .i16 0, .int .i8 0]) (t := 103) ?_; intro gb279 hg w38 hbox hb; have BK279 := am (hbox); have GW279 := am (gN hg (below_size (be HB))); have GE279 := am (gN hg (below_size (be HB))); have NB277_279 := nL BK277 hg; have NB279_277 := nR BK277 hg; replace BK277 := bB BK277 hb; replace HB := am (below_step (be HB) hb); clear hb hbox hg; have hnb39 := NB279_277.out; have hnc39 := NB277_279.out; obtain ⟨hcz40_0, hcz40_1, hfz40_0, hfz40_1⟩ := bx2 BK279; obtain ⟨hcz41_0, hcz41_1, hfz41_0, hfz41_1⟩ := bx2 BK277; have p280 : 0 ≤ ((ji34) : Int) := of_decide_eq_true (by first | (with_reducible assumption) | assumption); have q280 : (ji34) < (l0.length : Int) := of_decide_eq_true (by first | (with_reducible assumption) | assumption); obtain ⟨ad280, e280, hx280_0, hx280_1⟩ := at_T103 HR0.out (ji34) p280 q280; obtain rfl : ad276 = ad280 := (by injection e280); have hn280_0 : ad276.block ≠ gb279 := Nat.ne_of_lt (Nat.lt_of_lt_of_le (by have := World.block_lt_of_cell? _ _ hx280_0; first | rwa [add_block] at this | exact this) GW279.out); have hn280_1 : ad276.block ≠ gb279 := Nat.ne_of_lt (Nat.lt_of_lt_of_le (by have := World.block_lt_of_cell? _ _ hx280_0; first | rwa [add_block] at this | exact this) GW279.out); replace hx280_0 := (HB.out.cell (World.block_lt_of_cell? w _ hx280_0)).trans hx280_0; replace hx280_1 := (HB.out.cell (World.block_lt_of_cell? w _ hx280_1)).trans hx280_1; replace hx280_0 := (cell_far (p := ⟨gb279, 0, none⟩) (by first | (rw [add_block]; exact hn280_0) | (show (Addr.add _ _).block ≠ _; rw [add_block]; exact hn280_0) | exact hn280_0) (.int .i16 ((rd_T103 l0 (ji20)).f0))).trans hx280_0; replace hx280_1 := (cell_far (p := ⟨gb279, 0, none⟩) (by first | (rw [add_block]; exact hn280_0) | (show (Addr.add _ _).block ≠ _; rw [add_block]; exact hn280_0) | exact hn280_0) (.int .i16 ((rd_T103 l0 (ji20)).f0))).trans hx280_1; replace hx280_0 := (cell_far (p := ⟨gb279, 1, none⟩) (by first | (rw [add_block]; exact hn280_1) | (show (Addr.add _ _).block ≠ _; rw [add_block]; exact hn280_1) | exact hn280_1) (.int .i8 ((rd_T103 l0 (ji20)).f1))).trans hx280_0; replace hx280_1 := (cell_far (p := ⟨gb279, 1, none⟩) (by first | (rw [add_block]; exact hn280_1) | (show (Addr.add _ _).block ≠ _; rw [add_block]; exact hn280_1) | exact hn280_1) (.int .i8 ((rd_T103 l0 (ji20)).f1))).trans hx280_1; (try have hy280_0 := fun (n_ : Nat) => (show ((((w38.drewN n_).setCell ⟨gb279, 0, none⟩ (.int .i16 ((rd_T103 l0 (ji20)).f0))).setCell ⟨gb279, 1, none⟩ (.int .i8 ((rd_T103 l0 (ji20)).f1)))).cell? _ = some _ from hx280_0)); (try have hy280_1 := fun (n_ : Nat) => (show ((((w38.drewN n_).setCell ⟨gb279, 0, none⟩ (.int .i16 ((rd_T103 l0 (ji20)).f0))).setCell ⟨gb279, 1, none⟩ (.int .i8 ((rd_T103 l0 (ji20)).f1)))).cell? _ = some _ from hx280_1)); clear hn280_0; clear hn280_1; replace p280 := eq_true p280; replace q280 := eq_true q280))
                     repeat (go_quiet (first | ((with_reducible refine gate_dst (N := 5) rfl ?_); (try (refine gate_guard (by rfl) ?_; dsimp only)); refine bxe (N := 5) (cs := #[.int .i16 0, .int .i8 0]) (t := 103) ?_; intro gb279 hg w38 hbox hb; have BK279 := am (hbox); have GW279 := am (gN hg (below_size (be HB))); have GE279 := am (gN hg (below_size (be HB))); have NB277_279 := nL BK277 hg; have NB279_277 := nR BK277 hg; replace BK277 := bB BK277 hb; replace HB := am (below_step (be HB) hb); clear hb hbox hg; have hnb39 := NB279_277.out; have hnc39 := NB277_279.out; obtain ⟨hcz40_0, hcz40_1, hfz40_0, hfz40_1⟩ := bx2 BK279; obtain ⟨hcz41_0, hcz41_1, hfz41_0, hfz41_1⟩ := bx2 BK277; have p280 : 0 ≤ ((ji34) : Int) := of_decide_eq_true (by first | (with_reducible assumption) | assumption); have q280 : (ji34) < (l0.length : Int) := of_decide_eq_true (by first | (with_reducible assumption) | assumption); obtain ⟨ad280, e280, hx280_0, hx280_1⟩ := at_T103 HR0.out (ji34) p280 q280; obtain rfl : ad276 = ad280 := (by injection e280); have hn280_0 : ad276.block ≠ gb279 := Nat.ne_of_lt (Nat.lt_of_lt_of_le (by have := World.block_lt_of_cell? _ _ hx280_0; first | rwa [add_block] at this | exact this) GW279.out); have hn280_1 : ad276.block ≠ gb279 := Nat.ne_of_lt (Nat.lt_of_lt_of_le (by have := World.block_lt_of_cell? _ _ hx280_0; first | rwa [add_block] at this | exact this) GW279.out); replace hx280_0 := (HB.out.cell (World.block_lt_of_cell? w _ hx280_0)).trans hx280_0; replace hx280_1 := (HB.out.cell (World.block_lt_of_cell? w _ hx280_1)).trans hx280_1; replace hx280_0 := (cell_far (p := ⟨gb279, 0, none⟩) (by first | (rw [add_block]; exact hn280_0) | (show (Addr.add _ _).block ≠ _; rw [add_block]; exact hn280_0) | exact hn280_0) (.int .i16 ((rd_T103 l0 (ji20)).f0))).trans hx280_0; replace hx280_1 := (cell_far (p := ⟨gb279, 0, none⟩) (by first | (rw [add_block]; exact hn280_0) | (show (Addr.add _ _).block ≠ _; rw [add_block]; exact hn280_0) | exact hn280_0) (.int .i16 ((rd_T103 l0 (ji20)).f0))).trans hx280_1; replace hx280_0 := (cell_far (p := ⟨gb279, 1, none⟩) (by first | (rw [add_block]; exact hn280_1) | (show (Addr.add _ _).block ≠ _; rw [add_block]; exact hn280_1) | exact hn280_1) (.int .i8 ((rd_T103 l0 (ji20)).f1))).trans hx280_0; replace hx280_1 := (cell_far (p := ⟨gb279, 1, none⟩) (by first | (rw [add_block]; exact hn280_1) | (show (Addr.add _ _).block ≠ _; rw [add_block]; exact hn280_1) | exact hn280_1) (.int .i8 ((rd_T103 l0 (ji20)).f1))).trans hx280_1; (try have hy280_0 := fun (n_ : Nat) => (show ((((w38.drewN n_).setCell ⟨gb279, 0, none⟩ (.int .i16 ((rd_T103 l0 (ji20)).f0))).setCell ⟨gb279, 1, none⟩ (.int .i8 ((rd_T103 l0 (ji20)).f1)))).cell? _ = some _ from hx280_0)); (try have hy280_1 := fun (n_ : Nat) => (show ((((w38.drewN n_).setCell ⟨gb279, 0, none⟩ (.int .i16 ((rd_T103 l0 (ji20)).f0))).setCell ⟨gb279, 1, none⟩ (.int .i8 ((rd_T103 l0 (ji20)).f1)))).cell? _ = some _ from hx280_1)); clear hn280_0; clear hn280_1; replace p280 := eq_true p280; replace q280 := eq_true q280)); try go_wp2_with (first | ((with_reducible refine gate_dst (N := 5) rfl ?_); (try (refine gate_guard (by rfl) ?_; dsimp only)); refine bxe (N := 5) (cs := #[.int .i16 0, .int .i8 0]) (t := 103) ?_; intro gb279 hg w38 hbox hb; have BK279 := am (hbox); have GW279 := am (gN hg (below_size (be HB))); have GE279 := am (gN hg (below_size (be HB))); have NB277_279 := nL BK277 hg; have NB279_277 := nR BK277 hg; replace BK277 := bB BK277 hb; replace HB := am (below_step (be HB) hb); clear hb hbox hg; have hnb39 := NB279_277.out; have hnc39 := NB277_279.out; obtain ⟨hcz40_0, hcz40_1, hfz40_0, hfz40_1⟩ := bx2 BK279; obtain ⟨hcz41_0, hcz41_1, hfz41_0, hfz41_1⟩ := bx2 BK277; have p280 : 0 ≤ ((ji34) : Int) := of_decide_eq_true (by first | (with_reducible assumption) | assumption); have q280 : (ji34) < (l0.length : Int) := of_decide_eq_true (by first | (with_reducible assumption) | assumption); obtain ⟨ad280, e280, hx280_0, hx280_1⟩ := at_T103 HR0.out (ji34) p280 q280; obtain rfl : ad276 = ad280 := (by injection e280); have hn280_0 : ad276.block ≠ gb279 := Nat.ne_of_lt (Nat.lt_of_lt_of_le (by have := World.block_lt_of_cell? _ _ hx280_0; first | rwa [add_block] at this | exact this) GW279.out); have hn280_1 : ad276.block ≠ gb279 := Nat.ne_of_lt (Nat.lt_of_lt_of_le (by have := World.block_lt_of_cell? _ _ hx280_0; first | rwa [add_block] at this | exact this) GW279.out); replace hx280_0 := (HB.out.cell (World.block_lt_of_cell? w _ hx280_0)).trans hx280_0; replace hx280_1 := (HB.out.cell (World.block_lt_of_cell? w _ hx280_1)).trans hx280_1; replace hx280_0 := (cell_far (p := ⟨gb279, 0, none⟩) (by first | (rw [add_block]; exact hn280_0) | (show (Addr.add _ _).block ≠ _; rw [add_block]; exact hn280_0) | exact hn280_0) (.int .i16 ((rd_T103 l0 (ji20)).f0))).trans hx280_0; replace hx280_1 := (cell_far (p := ⟨gb279, 0, none⟩) (by first | (rw [add_block]; exact hn280_0) | (show (Addr.add _ _).block ≠ _; rw [add_block]; exact hn280_0) | exact hn280_0) (.int .i16 ((rd_T103 l0 (ji20)).f0))).trans hx280_1; replace hx280_0 := (cell_far (p := ⟨gb279, 1, none⟩) (by first | (rw [add_block]; exact hn280_1) | (show (Addr.add _ _).block ≠ _; rw [add_block]; exact hn280_1) | exact hn280_1) (.int .i8 ((rd_T103 l0 (ji20)).f1))).trans hx280_0; replace hx280_1 := (cell_far (p := ⟨gb279, 1, none⟩) (by first | (rw [add_block]; exact hn280_1) | (show (Addr.add _ _).block ≠ _; rw [add_block]; exact hn280_1) | exact hn280_1) (.int .i8 ((rd_T103 l0 (ji20)).f1))).trans hx280_1; (try have hy280_0 := fun (n_ : Nat) => (show ((((w38.drewN n_).setCell ⟨gb279, 0, none⟩ (.int .i16 ((rd_T103 l0 (ji20)).f0))).setCell ⟨gb279, 1, none⟩ (.int .i8 ((rd_T103 l0 (ji20)).f1)))).cell? _ = some _ from hx280_0)); (try have hy280_1 := fun (n_ : Nat) => (show ((((w38.drewN n_).setCell ⟨gb279, 0, none⟩ (.int .i16 ((rd_T103 l0 (ji20)).f0))).setCell ⟨gb279, 1, none⟩ (.int .i8 ((rd_T103 l0 (ji20)).f1)))).cell? _ = some _ from hx280_1)); clear hn280_0; clear hn280_1; replace p280 := eq_true p280; replace q280 := eq_true q280)))
                     go_ret
                     exact ⟨by first | rfl | (simp [errW_none, errW_some] <;> rfl) | (simp only [← hji20, ← hji34]; first | rfl | (simp [errW_none, errW_some] <;> rfl)) | (simp [*, errW_none, errW_some] <;> rfl), be HB⟩
                    ·rw [if_neg c37] at H
                     have c37b0 : ((decide (((rd_T103 l0 x16_2).f1) > ((rd_T103 l0 (ji20)).f1))) == (decide (((rd_T103 l0 (ji20)).f1) > ((rd_T103 l0 (ji34)).f1)))) = false := by simpa using c37
                     (try (have c37b1 : decide ((decide (((rd_T103 l0 x16_2).f1) > ((rd_T103 l0 (ji20)).f1))) = (decide (((rd_T103 l0 (ji20)).f1) > ((rd_T103 l0 (ji34)).f1)))) = false := by simpa using c37))
                     (try (have c37b2 : ((decide (((rd_T103 l0 x16_2).f1) > ((rd_T103 l0 (ji20)).f1))) == (decide (((rd_T103 l0 (ji20)).f1) > ((rd_T103 l0 (ji34)).f1)))) = false := by simpa using c37))
                     (try (have c37b3 : ¬ ((decide (((rd_T103 l0 x16_2).f1) > ((rd_T103 l0 (ji20)).f1))) = (decide (((rd_T103 l0 (ji20)).f1) > ((rd_T103 l0 (ji34)).f1)))) := by simpa using c37))
                     clear c37
                     have H' := am H
                     clear H
                     have p278 : 0 ≤ ((ji20) : Int) := of_decide_eq_true (by first | (with_reducible assumption) | assumption)
                     have q278 : (ji20) < (l0.length : Int) := of_decide_eq_true (by first | (with_reducible assumption) | assumption)
                     obtain ⟨ad278, e278, hx278_0, hx278_1⟩ := at_T103 HR0.out (ji20) p278 q278
                     obtain rfl : ad276 = ad278 := (by injection e278)
                     replace hx278_0 := (HB.out.cell (World.block_lt_of_cell? w _ hx278_0)).trans hx278_0
                     replace hx278_1 := (HB.out.cell (World.block_lt_of_cell? w _ hx278_1)).trans hx278_1
                     replace p278 := eq_true p278
                     replace q278 := eq_true q278
                     go_wp2_with (first | ((with_reducible refine gate_dst (N := 5) rfl ?_); (try (refine gate_guard (by rfl) ?_; dsimp only)); refine bxe (N := 5) (cs := #[.int .i16 0, .int .i8 0]) (t := 103) ?_; intro gb279 hg w42 hbox hb; have BK279 := am (hbox); have GW279 := am (gN hg (below_size (be HB))); have GE279 := am (gN hg (below_size (be HB))); have NB277_279 := nL BK277 hg; have NB279_277 := nR BK277 hg; replace BK277 := bB BK277 hb; replace HB := am (below_step (be HB) hb); clear hb hbox hg; have hnb43 := NB279_277.out; have hnc43 := NB277_279.out; obtain ⟨hcz44_0, hcz44_1, hfz44_0, hfz44_1⟩ := bx2 BK279; obtain ⟨hcz45_0, hcz45_1, hfz45_0, hfz45_1⟩ := bx2 BK277; have p280 : 0 ≤ ((ji34) : Int) := of_decide_eq_true (by first | (with_reducible assumption) | assumption); have q280 : (ji34) < (l0.length : Int) := of_decide_eq_true (by first | (with_reducible assumption) | assumption); obtain ⟨ad280, e280, hx280_0, hx280_1⟩ := at_T103 HR0.out (ji34) p280 q280; obtain rfl : ad276 = ad280 := (by injection e280); have hn280_0 : ad276.block ≠ gb279 := Nat.ne_of_lt (Nat.lt_of_lt_of_le (by have := World.block_lt_of_cell? _ _ hx280_0; first | rwa [add_block] at this | exact this) GW279.out); have hn280_1 : ad276.block ≠ gb279 := Nat.ne_of_lt (Nat.lt_of_lt_of_le (by have := World.block_lt_of_cell? _ _ hx280_0; first | rwa [add_block] at this | exact this) GW279.out); replace hx280_0 := (HB.out.cell (World.block_lt_of_cell? w _ hx280_0)).trans hx280_0; replace hx280_1 := (HB.out.cell (World.block_lt_of_cell? w _ hx280_1)).trans hx280_1; replace hx280_0 := (cell_far (p := ⟨gb279, 0, none⟩) (by first | (rw [add_block]; exact hn280_0) | (show (Addr.add _ _).block ≠ _; rw [add_block]; exact hn280_0) | exact hn280_0) (.int .i16 ((rd_T103 l0 (ji20)).f0))).trans hx280_0; replace hx280_1 := (cell_far (p := ⟨gb279, 0, none⟩) (by first | (rw [add_block]; exact hn280_0) | (show (Addr.add _ _).block ≠ _; rw [add_block]; exact hn280_0) | exact hn280_0) (.int .i16 ((rd_T103 l0 (ji20)).f0))).trans hx280_1; replace hx280_0 := (cell_far (p := ⟨gb279, 1, none⟩) (by first | (rw [add_block]; exact hn280_1) | (show (Addr.add _ _).block ≠ _; rw [add_block]; exact hn280_1) | exact hn280_1) (.int .i8 ((rd_T103 l0 (ji20)).f1))).trans hx280_0; replace hx280_1 := (cell_far (p := ⟨gb279, 1, none⟩) (by first | (rw [add_block]; exact hn280_1) | (show (Addr.add _ _).block ≠ _; rw [add_block]; exact hn280_1) | exact hn280_1) (.int .i8 ((rd_T103 l0 (ji20)).f1))).trans hx280_1; (try have hy280_0 := fun (n_ : Nat) => (show ((((w42.drewN n_).setCell ⟨gb279, 0, none⟩ (.int .i16 ((rd_T103 l0 (ji20)).f0))).setCell ⟨gb279, 1, none⟩ (.int .i8 ((rd_T103 l0 (ji20)).f1)))).cell? _ = some _ from hx280_0)); (try have hy280_1 := fun (n_ : Nat) => (show ((((w42.drewN n_).setCell ⟨gb279, 0, none⟩ (.int .i16 ((rd_T103 l0 (ji20)).f0))).setCell ⟨gb279, 1, none⟩ (.int .i8 ((rd_T103 l0 (ji20)).f1)))).cell? _ = some _ from hx280_1)); clear hn280_0; clear hn280_1; replace p280 := eq_true p280; replace q280 := eq_true q280))
                     repeat (go_quiet (first | ((with_reducible refine gate_dst (N := 5) rfl ?_); (try (refine gate_guard (by rfl) ?_; dsimp only)); refine bxe (N := 5) (cs := #[.int .i16 0, .int .i8 0]) (t := 103) ?_; intro gb279 hg w42 hbox hb; have BK279 := am (hbox); have GW279 := am (gN hg (below_size (be HB))); have GE279 := am (gN hg (below_size (be HB))); have NB277_279 := nL BK277 hg; have NB279_277 := nR BK277 hg; replace BK277 := bB BK277 hb; replace HB := am (below_step (be HB) hb); clear hb hbox hg; have hnb43 := NB279_277.out; have hnc43 := NB277_279.out; obtain ⟨hcz44_0, hcz44_1, hfz44_0, hfz44_1⟩ := bx2 BK279; obtain ⟨hcz45_0, hcz45_1, hfz45_0, hfz45_1⟩ := bx2 BK277; have p280 : 0 ≤ ((ji34) : Int) := of_decide_eq_true (by first | (with_reducible assumption) | assumption); have q280 : (ji34) < (l0.length : Int) := of_decide_eq_true (by first | (with_reducible assumption) | assumption); obtain ⟨ad280, e280, hx280_0, hx280_1⟩ := at_T103 HR0.out (ji34) p280 q280; obtain rfl : ad276 = ad280 := (by injection e280); have hn280_0 : ad276.block ≠ gb279 := Nat.ne_of_lt (Nat.lt_of_lt_of_le (by have := World.block_lt_of_cell? _ _ hx280_0; first | rwa [add_block] at this | exact this) GW279.out); have hn280_1 : ad276.block ≠ gb279 := Nat.ne_of_lt (Nat.lt_of_lt_of_le (by have := World.block_lt_of_cell? _ _ hx280_0; first | rwa [add_block] at this | exact this) GW279.out); replace hx280_0 := (HB.out.cell (World.block_lt_of_cell? w _ hx280_0)).trans hx280_0; replace hx280_1 := (HB.out.cell (World.block_lt_of_cell? w _ hx280_1)).trans hx280_1; replace hx280_0 := (cell_far (p := ⟨gb279, 0, none⟩) (by first | (rw [add_block]; exact hn280_0) | (show (Addr.add _ _).block ≠ _; rw [add_block]; exact hn280_0) | exact hn280_0) (.int .i16 ((rd_T103 l0 (ji20)).f0))).trans hx280_0; replace hx280_1 := (cell_far (p := ⟨gb279, 0, none⟩) (by first | (rw [add_block]; exact hn280_0) | (show (Addr.add _ _).block ≠ _; rw [add_block]; exact hn280_0) | exact hn280_0) (.int .i16 ((rd_T103 l0 (ji20)).f0))).trans hx280_1; replace hx280_0 := (cell_far (p := ⟨gb279, 1, none⟩) (by first | (rw [add_block]; exact hn280_1) | (show (Addr.add _ _).block ≠ _; rw [add_block]; exact hn280_1) | exact hn280_1) (.int .i8 ((rd_T103 l0 (ji20)).f1))).trans hx280_0; replace hx280_1 := (cell_far (p := ⟨gb279, 1, none⟩) (by first | (rw [add_block]; exact hn280_1) | (show (Addr.add _ _).block ≠ _; rw [add_block]; exact hn280_1) | exact hn280_1) (.int .i8 ((rd_T103 l0 (ji20)).f1))).trans hx280_1; (try have hy280_0 := fun (n_ : Nat) => (show ((((w42.drewN n_).setCell ⟨gb279, 0, none⟩ (.int .i16 ((rd_T103 l0 (ji20)).f0))).setCell ⟨gb279, 1, none⟩ (.int .i8 ((rd_T103 l0 (ji20)).f1)))).cell? _ = some _ from hx280_0)); (try have hy280_1 := fun (n_ : Nat) => (show ((((w42.drewN n_).setCell ⟨gb279, 0, none⟩ (.int .i16 ((rd_T103 l0 (ji20)).f0))).setCell ⟨gb279, 1, none⟩ (.int .i8 ((rd_T103 l0 (ji20)).f1)))).cell? _ = some _ from hx280_1)); clear hn280_0; clear hn280_1; replace p280 := eq_true p280; replace q280 := eq_true q280)); try go_wp2_with (first | ((with_reducible refine gate_dst (N := 5) rfl ?_); (try (refine gate_guard (by rfl) ?_; dsimp only)); refine bxe (N := 5) (cs := #[.int .i16 0, .int .i8 0]) (t := 103) ?_; intro gb279 hg w42 hbox hb; have BK279 := am (hbox); have GW279 := am (gN hg (below_size (be HB))); have GE279 := am (gN hg (below_size (be HB))); have NB277_279 := nL BK277 hg; have NB279_277 := nR BK277 hg; replace BK277 := bB BK277 hb; replace HB := am (below_step (be HB) hb); clear hb hbox hg; have hnb43 := NB279_277.out; have hnc43 := NB277_279.out; obtain ⟨hcz44_0, hcz44_1, hfz44_0, hfz44_1⟩ := bx2 BK279; obtain ⟨hcz45_0, hcz45_1, hfz45_0, hfz45_1⟩ := bx2 BK277; have p280 : 0 ≤ ((ji34) : Int) := of_decide_eq_true (by first | (with_reducible assumption) | assumption); have q280 : (ji34) < (l0.length : Int) := of_decide_eq_true (by first | (with_reducible assumption) | assumption); obtain ⟨ad280, e280, hx280_0, hx280_1⟩ := at_T103 HR0.out (ji34) p280 q280; obtain rfl : ad276 = ad280 := (by injection e280); have hn280_0 : ad276.block ≠ gb279 := Nat.ne_of_lt (Nat.lt_of_lt_of_le (by have := World.block_lt_of_cell? _ _ hx280_0; first | rwa [add_block] at this | exact this) GW279.out); have hn280_1 : ad276.block ≠ gb279 := Nat.ne_of_lt (Nat.lt_of_lt_of_le (by have := World.block_lt_of_cell? _ _ hx280_0; first | rwa [add_block] at this | exact this) GW279.out); replace hx280_0 := (HB.out.cell (World.block_lt_of_cell? w _ hx280_0)).trans hx280_0; replace hx280_1 := (HB.out.cell (World.block_lt_of_cell? w _ hx280_1)).trans hx280_1; replace hx280_0 := (cell_far (p := ⟨gb279, 0, none⟩) (by first | (rw [add_block]; exact hn280_0) | (show (Addr.add _ _).block ≠ _; rw [add_block]; exact hn280_0) | exact hn280_0) (.int .i16 ((rd_T103 l0 (ji20)).f0))).trans hx280_0; replace hx280_1 := (cell_far (p := ⟨gb279, 0, none⟩) (by first | (rw [add_block]; exact hn280_0) | (show (Addr.add _ _).block ≠ _; rw [add_block]; exact hn280_0) | exact hn280_0) (.int .i16 ((rd_T103 l0 (ji20)).f0))).trans hx280_1; replace hx280_0 := (cell_far (p := ⟨gb279, 1, none⟩) (by first | (rw [add_block]; exact hn280_1) | (show (Addr.add _ _).block ≠ _; rw [add_block]; exact hn280_1) | exact hn280_1) (.int .i8 ((rd_T103 l0 (ji20)).f1))).trans hx280_0; replace hx280_1 := (cell_far (p := ⟨gb279, 1, none⟩) (by first | (rw [add_block]; exact hn280_1) | (show (Addr.add _ _).block ≠ _; rw [add_block]; exact hn280_1) | exact hn280_1) (.int .i8 ((rd_T103 l0 (ji20)).f1))).trans hx280_1; (try have hy280_0 := fun (n_ : Nat) => (show ((((w42.drewN n_).setCell ⟨gb279, 0, none⟩ (.int .i16 ((rd_T103 l0 (ji20)).f0))).setCell ⟨gb279, 1, none⟩ (.int .i8 ((rd_T103 l0 (ji20)).f1)))).cell? _ = some _ from hx280_0)); (try have hy280_1 := fun (n_ : Nat) => (show ((((w42.drewN n_).setCell ⟨gb279, 0, none⟩ (.int .i16 ((rd_T103 l0 (ji20)).f0))).setCell ⟨gb279, 1, none⟩ (.int .i8 ((rd_T103 l0 (ji20)).f1)))).cell? _ = some _ from hx280_1)); clear hn280_0; clear hn280_1; replace p280 := eq_true p280; replace q280 := eq_true q280)))
                     go_roundg kj7
                     case measure => have := HJ1.out; have := HK2.out; have := HJ7.out; omega
                     case rel => exact ⟨(wrap64 (x16_2 + 1)), vx, H', ⟨by have := HJ1.out; have := HK2.out; have := HJ7.out; omega⟩, ⟨be HB⟩⟩
                   ·rw [if_neg c36] at H
                    exact absurd H (by simp)
                  ·rw [if_neg c35] at H
                   exact absurd H (by simp)
                 ·rw [if_neg c33] at H
                  have c33b0 : decide (1 < x16_2) = false := decide_eq_false c33
                  clear c33
                  have H' := am H
                  clear H
                  have p278 : 0 ≤ ((ji20) : Int) := of_decide_eq_true (by first | (with_reducible assumption) | assumption)
                  have q278 : (ji20) < (l0.length : Int) := of_decide_eq_true (by first | (with_reducible assumption) | assumption)
                  obtain ⟨ad278, e278, hx278_0, hx278_1⟩ := at_T103 HR0.out (ji20) p278 q278
                  obtain rfl : ad276 = ad278 := (by injection e278)
                  replace hx278_0 := (HB.out.cell (World.block_lt_of_cell? w _ hx278_0)).trans hx278_0
                  replace hx278_1 := (HB.out.cell (World.block_lt_of_cell? w _ hx278_1)).trans hx278_1
                  replace p278 := eq_true p278
                  replace q278 := eq_true q278
                  go_wp2_with (first | ((with_reducible refine gate_dst (N := 5) rfl ?_); (try (refine gate_guard (by rfl) ?_; dsimp only)); refine bxe (N := 5) (cs := #[.int .i16 0, .int .i8 0]) (t := 103) ?_; intro gb279 hg w46 hbox hb; have BK279 := am (hbox); have GW279 := am (gN hg (below_size (be HB))); have GE279 := am (gN hg (below_size (be HB))); have NB277_279 := nL BK277 hg; have NB279_277 := nR BK277 hg; replace BK277 := bB BK277 hb; replace HB := am (below_step (be HB) hb); clear hb hbox hg; have hnb47 := NB279_277.out; have hnc47 := NB277_279.out; obtain ⟨hcz48_0, hcz48_1, hfz48_0, hfz48_1⟩ := bx2 BK279; obtain ⟨hcz49_0, hcz49_1, hfz49_0, hfz49_1⟩ := bx2 BK277))
                  repeat (go_quiet (first | ((with_reducible refine gate_dst (N := 5) rfl ?_); (try (refine gate_guard (by rfl) ?_; dsimp only)); refine bxe (N := 5) (cs := #[.int .i16 0, .int .i8 0]) (t := 103) ?_; intro gb279 hg w46 hbox hb; have BK279 := am (hbox); have GW279 := am (gN hg (below_size (be HB))); have GE279 := am (gN hg (below_size (be HB))); have NB277_279 := nL BK277 hg; have NB279_277 := nR BK277 hg; replace BK277 := bB BK277 hb; replace HB := am (below_step (be HB) hb); clear hb hbox hg; have hnb47 := NB279_277.out; have hnc47 := NB277_279.out; obtain ⟨hcz48_0, hcz48_1, hfz48_0, hfz48_1⟩ := bx2 BK279; obtain ⟨hcz49_0, hcz49_1, hfz49_0, hfz49_1⟩ := bx2 BK277)); try go_wp2_with (first | ((with_reducible refine gate_dst (N := 5) rfl ?_); (try (refine gate_guard (by rfl) ?_; dsimp only)); refine bxe (N := 5) (cs := #[.int .i16 0, .int .i8 0]) (t := 103) ?_; intro gb279 hg w46 hbox hb; have BK279 := am (hbox); have GW279 := am (gN hg (below_size (be HB))); have GE279 := am (gN hg (below_size (be HB))); have NB277_279 := nL BK277 hg; have NB279_277 := nR BK277 hg; replace BK277 := bB BK277 hb; replace HB := am (below_step (be HB) hb); clear hb hbox hg; have hnb47 := NB279_277.out; have hnc47 := NB277_279.out; obtain ⟨hcz48_0, hcz48_1, hfz48_0, hfz48_1⟩ := bx2 BK279; obtain ⟨hcz49_0, hcz49_1, hfz49_0, hfz49_1⟩ := bx2 BK277)))
                  go_roundg kj7
                  case measure => have := HJ1.out; have := HK2.out; have := HJ7.out; omega
                  case rel => exact ⟨(wrap64 (x16_2 + 1)), vx, H', ⟨by have := HJ1.out; have := HK2.out; have := HJ7.out; omega⟩, ⟨be HB⟩⟩
              ·rw [if_neg c22] at H
               exact absurd H (by simp)
             ·rw [if_neg c21] at H
              exact absurd H (by simp)
        ·rw [if_neg c7] at H
         exact absurd H (by simp)
       ·rw [if_neg c6] at H
        exact absurd H (by simp)
      ·rw [if_neg c5] at H
       have c5b0 : decide (x16_2 < (l0.length : Int)) = false := decide_eq_false c5
       clear c5
       obtain rfl := Option.some.inj H
       go_wp2
       repeat (go_quiet (fail); try go_wp2)
       go_ret
       exact ⟨by first | rfl | (simp [errW_none, errW_some] <;> rfl) | (simp [*, errW_none, errW_some] <;> rfl), be HB⟩

/-! ### impl_span: function 149 -/
def impl_span.f (l0 : List (S103)) : Option (Int × Int) := if 0 < (l0.length : Int) then (if 0 ≤ (wrap64 ((l0.length : Int) - 1)) then (if (wrap64 ((l0.length : Int) - 1)) < (l0.length : Int) then (some (wrap64 ((rd_T103 l0 0).f0), wrap64 ((rd_T103 l0 (wrap64 ((l0.length : Int) - 1))).f0))) else (none)) else (none)) else (none)
set_option maxHeartbeats 8000000 in
set_option maxRecDepth 100000 in
theorem impl_span.calls (A0 : Option Addr) (c0 : Nat) (l0 : List (S103)) (r1 : Int) (r2 : Int) (w : World) (hr0 : Kd.C k103 w A0 l0.length l0) (hc0 : l0.length ≤ c0) (h : impl_span.f l0 = some (r1, r2)) :
  Calls Try.prog 149 #[.slice A0 l0.length c0] w fun e w' => e = .returned (.tuple #[.int .i64 r1, .int .i64 r2]) ∧ Drawn0 w w' := by
 have HR0 := am hr0
 have HC0 := am hc0
 clear hr0 hc0
 have H : (if 0 < (l0.length : Int) then (if 0 ≤ (wrap64 ((l0.length : Int) - 1)) then (if (wrap64 ((l0.length : Int) - 1)) < (l0.length : Int) then (some (wrap64 ((rd_T103 l0 0).f0), wrap64 ((rd_T103 l0 (wrap64 ((l0.length : Int) - 1))).f0))) else (none)) else (none)) else (none)) = some (r1, r2) := h
 clear h
 by_cases c2 : 0 < (l0.length : Int)
 ·rw [if_pos c2] at H
  have c2b0 : decide (0 < (l0.length : Int)) = true := decide_eq_true c2
  have c2b1 : decide (0 < l0.length) = true := decide_eq_true (by omega)
  clear c2
  obtain ⟨ji3, hji3⟩ : ∃ j_ : Int, (wrap64 ((l0.length : Int) - 1)) = j_ := ⟨_, rfl⟩
  replace H : (if 0 ≤ (ji3) then (if (ji3) < (l0.length : Int) then (some (wrap64 ((rd_T103 l0 0).f0), wrap64 ((rd_T103 l0 (ji3)).f0))) else (none)) else (none)) = some (r1, r2) := by first | (rw [hji3] at H; exact H) | (simp only [hji3] at H ⊢; exact H)
  have hji3w : (IntKind.i64.wrap ((l0.length : Int) - 1)) = ji3 := (i64_w _).trans hji3
  by_cases c4 : 0 ≤ (ji3)
  ·rw [if_pos c4] at H
   have c4b0 : decide (0 ≤ (ji3)) = true := decide_eq_true c4
   have c4b1 : 0 ≤ (ji3) := c4
   clear c4
   by_cases c5 : (ji3) < (l0.length : Int)
   ·rw [if_pos c5] at H
    have c5b0 : decide ((ji3) < (l0.length : Int)) = true := decide_eq_true c5
    clear c5
    simp only [Option.some.injEq, Prod.mk.injEq] at H
    obtain ⟨rfl, rfl⟩ := H
    have p281 : 0 ≤ (0 : Int) := (by omega)
    have q281 : 0 < (l0.length : Int) := of_decide_eq_true (by first | (with_reducible assumption) | assumption)
    obtain ⟨ad281, e281, hx281_0, hx281_1⟩ := at_T103 HR0.out 0 p281 q281
    cases e281
    have qi281 : (0 < l0.length) = True := eq_true (by omega)
    (try rw [show ((0 : Int)).toNat = 0 from rfl] at hx281_0)
    (try rw [show 0 * 2 = 0 from rfl] at hx281_0)
    (try rw [Addr.add_zero'] at hx281_0)
    (try rw [show ((0 : Int)).toNat = 0 from rfl] at hx281_1)
    (try rw [show 0 * 2 = 0 from rfl] at hx281_1)
    (try rw [Addr.add_zero'] at hx281_1)
    replace p281 := eq_true p281
    replace q281 := eq_true q281
    have p282 : 0 ≤ ((ji3) : Int) := of_decide_eq_true (by first | (with_reducible assumption) | assumption)
    have q282 : (ji3) < (l0.length : Int) := of_decide_eq_true (by first | (with_reducible assumption) | assumption)
    obtain ⟨ad282, e282, hx282_0, hx282_1⟩ := at_T103 HR0.out (ji3) p282 q282
    obtain rfl : ad281 = ad282 := (by injection e282)
    replace p282 := eq_true p282
    replace q282 := eq_true q282
    go_enter Try.func149, Try.ntmps149
    go_wp2
    repeat (go_quiet (fail); try go_wp2)
    go_ret2
    exact ⟨by first | rfl | (simp; done) | (simp only [← hji3] <;> (first | rfl | simp)) | (simp [*]; done), by repeat (first | exact Drawn0.refl _ | apply Drawn0.step)⟩
   ·rw [if_neg c5] at H
    exact absurd H (by simp)
  ·rw [if_neg c4] at H
   exact absurd H (by simp)
 ·rw [if_neg c2] at H
  exact absurd H (by simp)

end Go.Proofs.Ytcollbifdfhfoaa.PFnExactAllAfloat
