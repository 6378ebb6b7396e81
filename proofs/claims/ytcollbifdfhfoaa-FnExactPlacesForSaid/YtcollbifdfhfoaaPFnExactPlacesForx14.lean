-- Written by a program out of this seat's translation (functions, and that the code comes to them).
import Derived.Test.YtcollbifdfhfoaaPFnExactPlacesForx0
import Derived.Test.YtcollbifdfhfoaaPFnExactPlacesForx9
import Derived.Test.YtcollbifdfhfoaaPFnExactPlacesForx11
import Derived.Test.YtcollbifdfhfoaaPFnExactPlacesForx12
import Derived.Test.YtcollbifdfhfoaaPFnExactPlacesForx13
namespace Go.Proofs.Ytcollbifdfhfoaa.PFnExactPlacesFor
open Go.RowKit Go.Proofs.YtcollbifdfhfoaaW.PrintWords Go.Proofs.YtcollbifdfhfoaaW.PrintLast Go.Proofs.YtcollbifdfhfoaaW.PrintMore
attribute [local go_sem] max2_int min2_int max_two min_two max_three min_three max_four min_four   -- for this text's walks alone
open Go.Proofs.Ytcollbifdfhfoaa.Bay Go.Proofs.Ytcollbifdfhfoaa.Short
attribute [local go_sem ↓] lv26_eq lv28_eq
attribute [local go_sem] lvv_set lvv_drewN lvv_drew lv26_run BayAt26_set BayAt26_drewN BayAt26_drew lv28_run BayAt28_set BayAt28_drewN BayAt28_drew
set_option linter.unusedVariables false
set_option linter.unusedSimpArgs false

/-! ### impl_comes: function 132 -/
def impl_comes.l0 : Nat → List (S38) → Int → Int → Int → Int → (Nat → Int) → Int → Int → Int → Int → Int → Int → Option (Bool)
 | 0, _, _, _, _, _, _, _, _, _, _, _, _ => none
 | k + 1, x13, x14, x15, x406000, x406001, x406002, x407000, x407001, x407002, x407003, x407004, x407005 => if x15 < x14 then (if 0 ≤ x15 then (if x15 < (x13.length : Int) then ((impl_touch.f k x406000 x406001 x406002 ((rd_T38 x13 x15).f0.f0) ((rd_T38 x13 x15).f0.f1) ((rd_T38 x13 x15).f1) ((rd_T38 x13 x15).f2) ((rd_T38 x13 x15).f3) ((rd_T38 x13 x15).f4) x407000 x407001 x407002 x407003 x407004 x407005).bind fun t410 => (if t410 = true then (some false) else (impl_comes.l0 k x13 x14 (wrap64 (x15 + 1)) x406000 x406001 x406002 x407000 x407001 x407002 x407003 x407004 x407005))) else (none)) else (none)) else (some true)
def impl_comes.f (k : Nat) (a0_0 : Int) (a0_1 : Int) (a0_2 : (Nat → Int)) (l1 : List (S38)) (a2_0 : Int) (a2_1 : Int) (a2_2 : Int) (a2_3 : Int) (a2_4 : Int) (a2_5 : Int) : Option (Bool) := (impl_safe.f k a0_0 a0_1 a0_2 a2_0 a2_1 a2_2 a2_3 a2_4 a2_5).bind fun t407 => (if t407 = true then (impl_comes.l0 k l1 (l1.length : Int) 0 a0_0 a0_1 a0_2 a2_0 a2_1 a2_2 a2_3 a2_4 a2_5) else (some false))
set_option maxHeartbeats 8000000 in
set_option maxRecDepth 100000 in
theorem impl_comes.calls (k : Nat) (a0_0 : Int) (a0_1 : Int) (a0_2 : (Nat → Int)) (A1 : Option Addr) (c1 : Nat) (l1 : List (S38)) (a2_0 : Int) (a2_1 : Int) (a2_2 : Int) (a2_3 : Int) (a2_4 : Int) (a2_5 : Int) (r : Bool) (w : World) (hr1 : Kd.C k38 w A1 l1.length l1) (hc1 : l1.length ≤ c1) (h : impl_comes.f k a0_0 a0_1 a0_2 l1 a2_0 a2_1 a2_2 a2_3 a2_4 a2_5 = some r) :
  Calls Try.prog 132 #[.agg (csBay a0_0 a0_1 a0_2), .slice A1 l1.length c1, .agg #[.int .i8 a2_0, .int .i8 a2_1, .int .i8 a2_2, .int .i8 a2_3, .int .i8 a2_4, .int .i8 a2_5]] w fun e w' => e = .returned (.bool r) ∧ Below w.heap.size w w' := by
 have hu28 := Try.underlying28
 have hu38 := Try.underlying38
 have HR1 := am hr1
 have HC1 := am hc1
 clear hr1 hc1
 have HB := am (Below.refl w.heap.size w)
 have H : ((impl_safe.f k a0_0 a0_1 a0_2 a2_0 a2_1 a2_2 a2_3 a2_4 a2_5).bind fun t407 => (if t407 = true then (impl_comes.l0 k l1 (l1.length : Int) 0 a0_0 a0_1 a0_2 a2_0 a2_1 a2_2 a2_3 a2_4 a2_5) else (some false))) = some r := h
 clear h
 replace H := Option.bind_eq_some_iff.mp H
 obtain ⟨t407, A40, H⟩ := H
 try dsimp only at H
 have A4 := am A40
 clear A40
 by_cases c5 : t407 = true
 ·subst c5
  rw [if_pos rfl] at H
  have H' := am H
  clear H
  go_enter Try.func132, Try.ntmps132
  go_wp2_with (first | ((with_reducible refine gate_dst (N := 3) rfl ?_); refine bxe (N := 3) (cs := (csBay a0_0 a0_1 a0_2)) (t := 28) ?_; intro gb405 hg w6 hbox hb; have BK405 := am (hbox); have GW405 := am (gN hg (below_size (be HB))); have GE405 := am (gN hg (below_size (be HB))); replace HB := am (below_step (be HB) hb); clear hb hbox hg) | ((with_reducible refine gate_dst (N := 5) rfl ?_); refine bxe (N := 5) (cs := #[.int .i8 a2_0, .int .i8 a2_1, .int .i8 a2_2, .int .i8 a2_3, .int .i8 a2_4, .int .i8 a2_5]) (t := 38) ?_; intro gb406 hg w7 hbox hb; have BK406 := am (hbox); have GW406 := am (gN hg (below_size (be HB))); have GE406 := am (gN hg (below_size (be HB))); have NB405_406 := nL BK405 hg; have NB406_405 := nR BK405 hg; replace BK405 := bB BK405 hb; replace HB := am (below_step (be HB) hb); clear hb hbox hg; have hnb8 := NB405_406.out; have hnc8 := NB406_405.out; obtain ⟨hcz9_0, hcz9_1, hwz9, haz9, hyz9, hvz9, hfz9_0, hfz9_1, hfz9_2⟩ := bb28 BK405; obtain ⟨hcz10_0, hcz10_1, hcz10_2, hcz10_3, hcz10_4, hcz10_5, hfz10_0, hfz10_1, hfz10_2, hfz10_3, hfz10_4, hfz10_5⟩ := bx6 BK406) | ((with_reducible refine gate_callee (f := 121) rfl ?_); refine gL (some 11) Try.func121 #[.agg (csBay a0_0 a0_1 a0_2), .agg #[.int .i8 a2_0, .int .i8 a2_1, .int .i8 a2_2, .int .i8 a2_3, .int .i8 a2_4, .int .i8 a2_5]] ?_; (with_reducible refine (impl_safe.calls k a0_0 a0_1 a0_2 a2_0 a2_1 a2_2 a2_3 a2_4 a2_5 true _ A4.out).mono ?_); rintro e w11 ⟨rfl, hb⟩; refine ⟨_, rfl, ?_⟩; replace BK405 := bB BK405 hb; replace BK406 := bB BK406 hb; replace HB := am (below_step (be HB) hb); (try clear hb); (try clear hb2); (try clear hk); (try clear hi)))
  go_loopg [15] k (fun kq v15 w' => ∃ (x15_1 : Int), v15 = .int .i64 x15_1 ∧ Aside0 (impl_comes.l0 kq l1 (l1.length : Int) x15_1 a0_0 a0_1 a0_2 a2_0 a2_1 a2_2 a2_3 a2_4 a2_5 = some r) ∧ Aside0 (kq ≤ k) ∧ Aside0 (w'.heap[gb405]? = some (.cells (csBay a0_0 a0_1 a0_2) 28 (0, 0))) ∧ Aside0 (w'.heap[gb406]? = some (.cells #[.int .i8 a2_0, .int .i8 a2_1, .int .i8 a2_2, .int .i8 a2_3, .int .i8 a2_4, .int .i8 a2_5] 38 (0, 0))) ∧ Aside0 (Below w.heap.size w w'))
  case atStart => exact ⟨(0), vv, H', ⟨Nat.le_refl _⟩, ⟨kb BK405⟩, ⟨kb BK406⟩, ⟨be HB⟩⟩
  case round =>
   clear H'
   try clear c1
   try clear p2
   try clear c5
   try clear c8
   try clear hcz10_0
   try clear hcz10_1
   try clear hcz10_2
   try clear hcz10_3
   try clear hcz10_4
   try clear hcz10_5
   try clear hcz9_0
   try clear hcz9_1
   try clear hfz10_0
   try clear hfz10_1
   try clear hfz10_2
   try clear hfz10_3
   try clear hfz10_4
   try clear hfz10_5
   try clear hfz9_0
   try clear hfz9_1
   try clear hfz9_2
   obtain ⟨x15_1, rfl, HA, HK1, BK405, BK406, HB⟩ := hrel
   cases gk with
   | zero => exact absurd HA.out (by simp [impl_comes.l0])
   | succ k1 =>
    have H := HA.out
    clear HA
    simp only [impl_comes.l0] at H
    by_cases c12 : x15_1 < (l1.length : Int)
    ·rw [if_pos c12] at H
     have c12b0 : decide (x15_1 < (l1.length : Int)) = true := decide_eq_true c12
     clear c12
     by_cases c13 : 0 ≤ x15_1
     ·rw [if_pos c13] at H
      have c13b0 : decide (0 ≤ x15_1) = true := decide_eq_true c13
      have c13b1 : 0 ≤ x15_1 := c13
      clear c13
      by_cases c14 : x15_1 < (l1.length : Int)
      ·rw [if_pos c14] at H
       have c14b0 : decide (x15_1 < (l1.length : Int)) = true := decide_eq_true c14
       clear c14
       replace H := Option.bind_eq_some_iff.mp H
       obtain ⟨t410, A150, H⟩ := H
       try dsimp only at H
       have A15 := am A150
       clear A150
       by_cases c16 : t410 = true
       ·subst c16
        rw [if_pos rfl] at H
        obtain rfl := Option.some.inj H
        have p408 : 0 ≤ (x15_1 : Int) := of_decide_eq_true (by first | (with_reducible assumption) | assumption)
        have q408 : x15_1 < (l1.length : Int) := of_decide_eq_true (by first | (with_reducible assumption) | assumption)
        obtain ⟨ad408, e408, hx408_0, hx408_1, hx408_2, hx408_3, hx408_4, hx408_5⟩ := at_T38 HR1.out x15_1 p408 q408
        cases e408
        replace hx408_0 := (HB.out.cell (World.block_lt_of_cell? w _ hx408_0)).trans hx408_0
        replace hx408_1 := (HB.out.cell (World.block_lt_of_cell? w _ hx408_1)).trans hx408_1
        replace hx408_2 := (HB.out.cell (World.block_lt_of_cell? w _ hx408_2)).trans hx408_2
        replace hx408_3 := (HB.out.cell (World.block_lt_of_cell? w _ hx408_3)).trans hx408_3
        replace hx408_4 := (HB.out.cell (World.block_lt_of_cell? w _ hx408_4)).trans hx408_4
        replace hx408_5 := (HB.out.cell (World.block_lt_of_cell? w _ hx408_5)).trans hx408_5
        replace p408 := eq_true p408
        replace q408 := eq_true q408
        go_wp2_with (first | ((with_reducible refine gate_dst (N := 8) rfl ?_); refine bxe (N := 8) (cs := #[.int .i8 0, .int .i8 0, .int .i8 0, .int .i8 0, .int .i8 0, .int .i8 0]) (t := 38) ?_; intro gb409 hg w17 hbox hb; have BK409 := am (hbox); have GW409 := am (gN hg (below_size (be HB))); have GE409 := am (gN hg (below_size (be HB))); have NB405_409 := nL BK405 hg; have NB409_405 := nR BK405 hg; have NB406_409 := nL BK406 hg; have NB409_406 := nR BK406 hg; replace BK405 := bB BK405 hb; replace BK406 := bB BK406 hb; replace HB := am (below_step (be HB) hb); clear hb hbox hg; have hnb18 := NB409_405.out; have hnc18 := NB405_409.out; have hnb19 := NB409_406.out; have hnc19 := NB406_409.out; obtain ⟨hcz20_0, hcz20_1, hcz20_2, hcz20_3, hcz20_4, hcz20_5, hfz20_0, hfz20_1, hfz20_2, hfz20_3, hfz20_4, hfz20_5⟩ := bx6 BK409; have hnb21 := NB405_406.out; have hnc21 := NB406_405.out; obtain ⟨hcz22_0, hcz22_1, hwz22, haz22, hyz22, hvz22, hfz22_0, hfz22_1, hfz22_2⟩ := bb28 BK405; obtain ⟨hcz23_0, hcz23_1, hcz23_2, hcz23_3, hcz23_4, hcz23_5, hfz23_0, hfz23_1, hfz23_2, hfz23_3, hfz23_4, hfz23_5⟩ := bx6 BK406) | ((with_reducible refine gate_callee (f := 119) rfl ?_); refine gL (some 22) Try.func119 #[.agg (csBay a0_0 a0_1 a0_2), .agg #[.int .i8 ((rd_T38 l1 x15_1).f0.f0), .int .i8 ((rd_T38 l1 x15_1).f0.f1), .int .i8 ((rd_T38 l1 x15_1).f1), .int .i8 ((rd_T38 l1 x15_1).f2), .int .i8 ((rd_T38 l1 x15_1).f3), .int .i8 ((rd_T38 l1 x15_1).f4)], .agg #[.int .i8 a2_0, .int .i8 a2_1, .int .i8 a2_2, .int .i8 a2_3, .int .i8 a2_4, .int .i8 a2_5]] ?_; (with_reducible refine (impl_touch.calls k1 a0_0 a0_1 a0_2 ((rd_T38 l1 x15_1).f0.f0) ((rd_T38 l1 x15_1).f0.f1) ((rd_T38 l1 x15_1).f1) ((rd_T38 l1 x15_1).f2) ((rd_T38 l1 x15_1).f3) ((rd_T38 l1 x15_1).f4) a2_0 a2_1 a2_2 a2_3 a2_4 a2_5 true _ A15.out).mono ?_); rintro e w24 ⟨rfl, hb⟩; refine ⟨_, rfl, ?_⟩; replace BK405 := am (blk_below (g := gb405) (o := .cells (csBay a0_0 a0_1 a0_2) 28 (0, 0)) (by (with_reducible repeat (first | refine blk_drewN ?_ _ | refine blk_drew ?_ | refine blk_alloc ?_ _)); refine blk_far ?_ NB405_409.out _; (with_reducible repeat (first | refine blk_drewN ?_ _ | refine blk_drew ?_ | refine blk_alloc ?_ _)); refine blk_far ?_ NB405_409.out _; (with_reducible repeat (first | refine blk_drewN ?_ _ | refine blk_drew ?_ | refine blk_alloc ?_ _)); refine blk_far ?_ NB405_409.out _; (with_reducible repeat (first | refine blk_drewN ?_ _ | refine blk_drew ?_ | refine blk_alloc ?_ _)); refine blk_far ?_ NB405_409.out _; (with_reducible repeat (first | refine blk_drewN ?_ _ | refine blk_drew ?_ | refine blk_alloc ?_ _)); refine blk_far ?_ NB405_409.out _; (with_reducible repeat (first | refine blk_drewN ?_ _ | refine blk_drew ?_ | refine blk_alloc ?_ _)); refine blk_far ?_ NB405_409.out _; exact kb BK405) hb); replace BK406 := am (blk_below (g := gb406) (o := .cells #[.int .i8 a2_0, .int .i8 a2_1, .int .i8 a2_2, .int .i8 a2_3, .int .i8 a2_4, .int .i8 a2_5] 38 (0, 0)) (by (with_reducible repeat (first | refine blk_drewN ?_ _ | refine blk_drew ?_ | refine blk_alloc ?_ _)); refine blk_far ?_ NB406_409.out _; (with_reducible repeat (first | refine blk_drewN ?_ _ | refine blk_drew ?_ | refine blk_alloc ?_ _)); refine blk_far ?_ NB406_409.out _; (with_reducible repeat (first | refine blk_drewN ?_ _ | refine blk_drew ?_ | refine blk_alloc ?_ _)); refine blk_far ?_ NB406_409.out _; (with_reducible repeat (first | refine blk_drewN ?_ _ | refine blk_drew ?_ | refine blk_alloc ?_ _)); refine blk_far ?_ NB406_409.out _; (with_reducible repeat (first | refine blk_drewN ?_ _ | refine blk_drew ?_ | refine blk_alloc ?_ _)); refine blk_far ?_ NB406_409.out _; (with_reducible repeat (first | refine blk_drewN ?_ _ | refine blk_drew ?_ | refine blk_alloc ?_ _)); refine blk_far ?_ NB406_409.out _; exact kb BK406) hb); replace BK409 := am (blk_below (g := gb409) (o := .cells #[.int .i8 ((rd_T38 l1 x15_1).f0.f0), .int .i8 ((rd_T38 l1 x15_1).f0.f1), .int .i8 ((rd_T38 l1 x15_1).f1), .int .i8 ((rd_T38 l1 x15_1).f2), .int .i8 ((rd_T38 l1 x15_1).f3), .int .i8 ((rd_T38 l1 x15_1).f4)] 38 (0, 0)) (by (with_reducible repeat (first | refine blk_drewN ?_ _ | refine blk_drew ?_ | refine blk_alloc ?_ _)); refine blk_put (cs := #[.int .i8 ((rd_T38 l1 x15_1).f0.f0), .int .i8 ((rd_T38 l1 x15_1).f0.f1), .int .i8 ((rd_T38 l1 x15_1).f1), .int .i8 ((rd_T38 l1 x15_1).f2), .int .i8 ((rd_T38 l1 x15_1).f3), .int .i8 0]) ?_ 5 _ rfl; (with_reducible repeat (first | refine blk_drewN ?_ _ | refine blk_drew ?_ | refine blk_alloc ?_ _)); refine blk_put (cs := #[.int .i8 ((rd_T38 l1 x15_1).f0.f0), .int .i8 ((rd_T38 l1 x15_1).f0.f1), .int .i8 ((rd_T38 l1 x15_1).f1), .int .i8 ((rd_T38 l1 x15_1).f2), .int .i8 0, .int .i8 0]) ?_ 4 _ rfl; (with_reducible repeat (first | refine blk_drewN ?_ _ | refine blk_drew ?_ | refine blk_alloc ?_ _)); refine blk_put (cs := #[.int .i8 ((rd_T38 l1 x15_1).f0.f0), .int .i8 ((rd_T38 l1 x15_1).f0.f1), .int .i8 ((rd_T38 l1 x15_1).f1), .int .i8 0, .int .i8 0, .int .i8 0]) ?_ 3 _ rfl; (with_reducible repeat (first | refine blk_drewN ?_ _ | refine blk_drew ?_ | refine blk_alloc ?_ _)); refine blk_put (cs := #[.int .i8 ((rd_T38 l1 x15_1).f0.f0), .int .i8 ((rd_T38 l1 x15_1).f0.f1), .int .i8 0, .int .i8 0, .int .i8 0, .int .i8 0]) ?_ 2 _ rfl; (with_reducible repeat (first | refine blk_drewN ?_ _ | refine blk_drew ?_ | refine blk_alloc ?_ _)); refine blk_put (cs := #[.int .i8 ((rd_T38 l1 x15_1).f0.f0), .int .i8 0, .int .i8 0, .int .i8 0, .int .i8 0, .int .i8 0]) ?_ 1 _ rfl; (with_reducible repeat (first | refine blk_drewN ?_ _ | refine blk_drew ?_ | refine blk_alloc ?_ _)); refine blk_put (cs := #[.int .i8 0, .int .i8 0, .int .i8 0, .int .i8 0, .int .i8 0, .int .i8 0]) ?_ 0 _ rfl; exact kb BK409) hb); replace HB := am (below_step (be HB) hb); (try clear hb); (try clear hb2); (try clear hk); (try clear hi)))
        go_ret
        exact ⟨by first | rfl | (simp [errW_none, errW_some] <;> rfl) | (simp [*, errW_none, errW_some] <;> rfl), be HB⟩
       ·replace c16 := Bool.eq_false_iff.mpr c16
        subst c16
        have H1 : (impl_comes.l0 k1 l1 (l1.length : Int) (wrap64 (x15_1 + 1)) a0_0 a0_1 a0_2 a2_0 a2_1 a2_2 a2_3 a2_4 a2_5) = some r := by rw [if_neg (show ¬ (false = true) by decide)] at H; exact H
        clear H
        have H := H1
        clear H1
        have H' := am H
        clear H
        have p408 : 0 ≤ (x15_1 : Int) := of_decide_eq_true (by first | (with_reducible assumption) | assumption)
        have q408 : x15_1 < (l1.length : Int) := of_decide_eq_true (by first | (with_reducible assumption) | assumption)
        obtain ⟨ad408, e408, hx408_0, hx408_1, hx408_2, hx408_3, hx408_4, hx408_5⟩ := at_T38 HR1.out x15_1 p408 q408
        cases e408
        replace hx408_0 := (HB.out.cell (World.block_lt_of_cell? w _ hx408_0)).trans hx408_0
        replace hx408_1 := (HB.out.cell (World.block_lt_of_cell? w _ hx408_1)).trans hx408_1
        replace hx408_2 := (HB.out.cell (World.block_lt_of_cell? w _ hx408_2)).trans hx408_2
        replace hx408_3 := (HB.out.cell (World.block_lt_of_cell? w _ hx408_3)).trans hx408_3
        replace hx408_4 := (HB.out.cell (World.block_lt_of_cell? w _ hx408_4)).trans hx408_4
        replace hx408_5 := (HB.out.cell (World.block_lt_of_cell? w _ hx408_5)).trans hx408_5
        replace p408 := eq_true p408
        replace q408 := eq_true q408
        go_wp2_with (first | ((with_reducible refine gate_dst (N := 8) rfl ?_); refine bxe (N := 8) (cs := #[.int .i8 0, .int .i8 0, .int .i8 0, .int .i8 0, .int .i8 0, .int .i8 0]) (t := 38) ?_; intro gb409 hg w25 hbox hb; have BK409 := am (hbox); have GW409 := am (gN hg (below_size (be HB))); have GE409 := am (gN hg (below_size (be HB))); have NB405_409 := nL BK405 hg; have NB409_405 := nR BK405 hg; have NB406_409 := nL BK406 hg; have NB409_406 := nR BK406 hg; replace BK405 := bB BK405 hb; replace BK406 := bB BK406 hb; replace HB := am (below_step (be HB) hb); clear hb hbox hg; have hnb26 := NB409_405.out; have hnc26 := NB405_409.out; have hnb27 := NB409_406.out; have hnc27 := NB406_409.out; obtain ⟨hcz28_0, hcz28_1, hcz28_2, hcz28_3, hcz28_4, hcz28_5, hfz28_0, hfz28_1, hfz28_2, hfz28_3, hfz28_4, hfz28_5⟩ := bx6 BK409; have hnb29 := NB405_406.out; have hnc29 := NB406_405.out; obtain ⟨hcz30_0, hcz30_1, hwz30, haz30, hyz30, hvz30, hfz30_0, hfz30_1, hfz30_2⟩ := bb28 BK405; obtain ⟨hcz31_0, hcz31_1, hcz31_2, hcz31_3, hcz31_4, hcz31_5, hfz31_0, hfz31_1, hfz31_2, hfz31_3, hfz31_4, hfz31_5⟩ := bx6 BK406) | ((with_reducible refine gate_callee (f := 119) rfl ?_); refine gL (some 22) Try.func119 #[.agg (csBay a0_0 a0_1 a0_2), .agg #[.int .i8 ((rd_T38 l1 x15_1).f0.f0), .int .i8 ((rd_T38 l1 x15_1).f0.f1), .int .i8 ((rd_T38 l1 x15_1).f1), .int .i8 ((rd_T38 l1 x15_1).f2), .int .i8 ((rd_T38 l1 x15_1).f3), .int .i8 ((rd_T38 l1 x15_1).f4)], .agg #[.int .i8 a2_0, .int .i8 a2_1, .int .i8 a2_2, .int .i8 a2_3, .int .i8 a2_4, .int .i8 a2_5]] ?_; (with_reducible refine (impl_touch.calls k1 a0_0 a0_1 a0_2 ((rd_T38 l1 x15_1).f0.f0) ((rd_T38 l1 x15_1).f0.f1) ((rd_T38 l1 x15_1).f1) ((rd_T38 l1 x15_1).f2) ((rd_T38 l1 x15_1).f3) ((rd_T38 l1 x15_1).f4) a2_0 a2_1 a2_2 a2_3 a2_4 a2_5 false _ A15.out).mono ?_); rintro e w32 ⟨rfl, hb⟩; refine ⟨_, rfl, ?_⟩; replace BK405 := am (blk_below (g := gb405) (o := .cells (csBay a0_0 a0_1 a0_2) 28 (0, 0)) (by (with_reducible repeat (first | refine blk_drewN ?_ _ | refine blk_drew ?_ | refine blk_alloc ?_ _)); refine blk_far ?_ NB405_409.out _; (with_reducible repeat (first | refine blk_drewN ?_ _ | refine blk_drew ?_ | refine blk_alloc ?_ _)); refine blk_far ?_ NB405_409.out _; (with_reducible repeat (first | refine blk_drewN ?_ _ | refine blk_drew ?_ | refine blk_alloc ?_ _)); refine blk_far ?_ NB405_409.out _; (with_reducible repeat (first | refine blk_drewN ?_ _ | refine blk_drew ?_ | refine blk_alloc ?_ _)); refine blk_far ?_ NB405_409.out _; (with_reducible repeat (first | refine blk_drewN ?_ _ | refine blk_drew ?_ | refine blk_alloc ?_ _)); refine blk_far ?_ NB405_409.out _; (with_reducible repeat (first | refine blk_drewN ?_ _ | refine blk_drew ?_ | refine blk_alloc ?_ _)); refine blk_far ?_ NB405_409.out _; exact kb BK405) hb); replace BK406 := am (blk_below (g := gb406) (o := .cells #[.int .i8 a2_0, .int .i8 a2_1, .int .i8 a2_2, .int .i8 a2_3, .int .i8 a2_4, .int .i8 a2_5] 38 (0, 0)) (by (with_reducible repeat (first | refine blk_drewN ?_ _ | refine blk_drew ?_ | refine blk_alloc ?_ _)); refine blk_far ?_ NB406_409.out _; (with_reducible repeat (first | refine blk_drewN ?_ _ | refine blk_drew ?_ | refine blk_alloc ?_ _)); refine blk_far ?_ NB406_409.out _; (with_reducible repeat (first | refine blk_drewN ?_ _ | refine blk_drew ?_ | refine blk_alloc ?_ _)); refine blk_far ?_ NB406_409.out _; (with_reducible repeat (first | refine blk_drewN ?_ _ | refine blk_drew ?_ | refine blk_alloc ?_ _)); refine blk_far ?_ NB406_409.out _; (with_reducible repeat (first | refine blk_drewN ?_ _ | refine blk_drew ?_ | refine blk_alloc ?_ _)); refine blk_far ?_ NB406_409.out _; (with_reducible repeat (first | refine blk_drewN ?_ _ | refine blk_drew ?_ | refine blk_alloc ?_ _)); refine blk_far ?_ NB406_409.out _; exact kb BK406) hb); replace BK409 := am (blk_below (g := gb409) (o := .cells #[.int .i8 ((rd_T38 l1 x15_1).f0.f0), .int .i8 ((rd_T38 l1 x15_1).f0.f1), .int .i8 ((rd_T38 l1 x15_1).f1), .int .i8 ((rd_T38 l1 x15_1).f2), .int .i8 ((rd_T38 l1 x15_1).f3), .int .i8 ((rd_T38 l1 x15_1).f4)] 38 (0, 0)) (by (with_reducible repeat (first | refine blk_drewN ?_ _ | refine blk_drew ?_ | refine blk_alloc ?_ _)); refine blk_put (cs := #[.int .i8 ((rd_T38 l1 x15_1).f0.f0), .int .i8 ((rd_T38 l1 x15_1).f0.f1), .int .i8 ((rd_T38 l1 x15_1).f1), .int .i8 ((rd_T38 l1 x15_1).f2), .int .i8 ((rd_T38 l1 x15_1).f3), .int .i8 0]) ?_ 5 _ rfl; (with_reducible repeat (first | refine blk_drewN ?_ _ | refine blk_drew ?_ | refine blk_alloc ?_ _)); refine blk_put (cs := #[.int .i8 ((rd_T38 l1 x15_1).f0.f0), .int .i8 ((rd_T38 l1 x15_1).f0.f1), .int .i8 ((rd_T38 l1 x15_1).f1), .int .i8 ((rd_T38 l1 x15_1).f2), .int .i8 0, .int .i8 0]) ?_ 4 _ rfl; (with_reducible repeat (first | refine blk_drewN ?_ _ | refine blk_drew ?_ | refine blk_alloc ?_ _)); refine blk_put (cs := #[.int .i8 ((rd_T38 l1 x15_1).f0.f0), .int .i8 ((rd_T38 l1 x15_1).f0.f1), .int .i8 ((rd_T38 l1 x15_1).f1), .int .i8 0, .int .i8 0, .int .i8 0]) ?_ 3 _ rfl; (with_reducible repeat (first | refine blk_drewN ?_ _ | refine blk_drew ?_ | refine blk_alloc ?_ _)); refine blk_put (cs := #[.int .i8 ((rd_T38 l1 x15_1).f0.f0), .int .i8 ((rd_T38 l1 x15_1).f0.f1), .int .i8 0, .int .i8 0, .int .i8 0, .int .i8 0]) ?_ 2 _ rfl; (with_reducible repeat (first | refine blk_drewN ?_ _ | refine blk_drew ?_ | refine blk_alloc ?_ _)); refine blk_put (cs := #[.int .i8 ((rd_T38 l1 x15_1).f0.f0), .int .i8 0, .int .i8 0, .int .i8 0, .int .i8 0, .int .i8 0]) ?_ 1 _ rfl; (with_reducible repeat (first | refine blk_drewN ?_ _ | refine blk_drew ?_ | refine blk_alloc ?_ _)); refine blk_put (cs := #[.int .i8 0, .int .i8 0, .int .i8 0, .int .i8 0, .int .i8 0, .int .i8 0]) ?_ 0 _ rfl; exact kb BK409) hb); replace HB := am (below_step (be HB) hb); (try clear hb); (try clear hb2); (try clear hk); (try clear hi)))
        go_roundg k1
        case measure => have := HK1.out; omega
        case rel => exact ⟨(wrap64 (x15_1 + 1)), vv, H', ⟨by have := HK1.out; omega⟩, ⟨kb BK405⟩, ⟨kb BK406⟩, ⟨be HB⟩⟩
      ·rw [if_neg c14] at H
       exact absurd H (by simp)
     ·rw [if_neg c13] at H
      exact absurd H (by simp)
    ·rw [if_neg c12] at H
     have c12b0 : decide (x15_1 < (l1.length : Int)) = false := decide_eq_false c12
     clear c12
     obtain rfl := Option.some.inj H
     go_wp2
     go_ret
     exact ⟨by first | rfl | (simp [errW_none, errW_some] <;> rfl) | (simp [*, errW_none, errW_some] <;> rfl), be HB⟩
 ·replace c5 := Bool.eq_false_iff.mpr c5
  subst c5
  have H1 : (some false) = some r := by rw [if_neg (show ¬ (false = true) by decide)] at H; exact H
  clear H
  have H := H1
  clear H1
  obtain rfl := Option.some.inj H
  go_enter Try.func132, Try.ntmps132
  go_wp2_with (first | ((with_reducible refine gate_dst (N := 3) rfl ?_); refine bxe (N := 3) (cs := (csBay a0_0 a0_1 a0_2)) (t := 28) ?_; intro gb405 hg w33 hbox hb; have BK405 := am (hbox); have GW405 := am (gN hg (below_size (be HB))); have GE405 := am (gN hg (below_size (be HB))); replace HB := am (below_step (be HB) hb); clear hb hbox hg) | ((with_reducible refine gate_dst (N := 5) rfl ?_); refine bxe (N := 5) (cs := #[.int .i8 a2_0, .int .i8 a2_1, .int .i8 a2_2, .int .i8 a2_3, .int .i8 a2_4, .int .i8 a2_5]) (t := 38) ?_; intro gb406 hg w34 hbox hb; have BK406 := am (hbox); have GW406 := am (gN hg (below_size (be HB))); have GE406 := am (gN hg (below_size (be HB))); have NB405_406 := nL BK405 hg; have NB406_405 := nR BK405 hg; replace BK405 := bB BK405 hb; replace HB := am (below_step (be HB) hb); clear hb hbox hg; have hnb35 := NB405_406.out; have hnc35 := NB406_405.out; obtain ⟨hcz36_0, hcz36_1, hwz36, haz36, hyz36, hvz36, hfz36_0, hfz36_1, hfz36_2⟩ := bb28 BK405; obtain ⟨hcz37_0, hcz37_1, hcz37_2, hcz37_3, hcz37_4, hcz37_5, hfz37_0, hfz37_1, hfz37_2, hfz37_3, hfz37_4, hfz37_5⟩ := bx6 BK406) | ((with_reducible refine gate_callee (f := 121) rfl ?_); refine gL (some 11) Try.func121 #[.agg (csBay a0_0 a0_1 a0_2), .agg #[.int .i8 a2_0, .int .i8 a2_1, .int .i8 a2_2, .int .i8 a2_3, .int .i8 a2_4, .int .i8 a2_5]] ?_; (with_reducible refine (impl_safe.calls k a0_0 a0_1 a0_2 a2_0 a2_1 a2_2 a2_3 a2_4 a2_5 false _ A4.out).mono ?_); rintro e w38 ⟨rfl, hb⟩; refine ⟨_, rfl, ?_⟩; replace BK405 := bB BK405 hb; replace BK406 := bB BK406 hb; replace HB := am (below_step (be HB) hb); (try clear hb); (try clear hb2); (try clear hk); (try clear hi)))
  go_ret
  exact ⟨by first | rfl | (simp [errW_none, errW_some] <;> rfl) | (simp [*, errW_none, errW_some] <;> rfl), be HB⟩

/-! ### impl_PlacesFor: function 72 -/
def impl_PlacesFor.l0 : Nat → List (S38) → List (S36) → List (S36) → Int → Int → Int → Int → (Nat → Int) → Int → Int → Int → Int → Int → Int → Option ((List (S36)) × Int)
 | 0, _, _, _, _, _, _, _, _, _, _, _, _, _, _ => none
 | k + 1, x1, x9, x21, x22, x23, x412000, x412001, x412002, x413000, x413001, x413002, x413003, x413004, x413005 => if x23 < x22 then (if 0 ≤ x23 then (if x23 < (x21.length : Int) then ((impl_isBoat.f x412000 x412001 x412002 ((rd_T36 x21 x23).f0) ((rd_T36 x21 x23).f1) x413002 x413003 x413004 x413005).bind fun t422 => (if t422 = true then ((impl_comes.f k x412000 x412001 x412002 x1 ((rd_T36 x21 x23).f0) ((rd_T36 x21 x23).f1) x413002 x413003 x413004 x413005).bind fun t423 => (if t423 = true then (if x9.length < 70368744177664 then (impl_PlacesFor.l0 k x1 (x9 ++ [(⟨(rd_T36 x21 x23).f0, (rd_T36 x21 x23).f1⟩ : S36)]) x21 x22 (wrap64 (x23 + 1)) x412000 x412001 x412002 ((rd_T36 x21 x23).f0) ((rd_T36 x21 x23).f1) x413002 x413003 x413004 x413005) else (none)) else (impl_PlacesFor.l0 k x1 x9 x21 x22 (wrap64 (x23 + 1)) x412000 x412001 x412002 ((rd_T36 x21 x23).f0) ((rd_T36 x21 x23).f1) x413002 x413003 x413004 x413005))) else (impl_PlacesFor.l0 k x1 x9 x21 x22 (wrap64 (x23 + 1)) x412000 x412001 x412002 ((rd_T36 x21 x23).f0) ((rd_T36 x21 x23).f1) x413002 x413003 x413004 x413005))) else (none)) else (none)) else (some (x9, 0))
def impl_PlacesFor.f (k : Nat) (a0_0 : Int) (a0_1 : Int) (a0_2 : (Nat → Int)) (l1 : List (S38)) (a2_0 : Int) (a2_1 : Int) (a2_2 : Int) (a2_3 : Int) (a2_4 : Int) (a2_5 : Int) : Option ((List (S36)) × Int) := (impl_withCode.f k a0_0 a0_1 a0_2 l1 a2_0 a2_1 a2_2 a2_3 a2_4 a2_5).bind fun t413 => (if t413 = 0 then ((impl_allPlaces.f k a0_0 a0_1 a0_2).bind fun t417 => (impl_PlacesFor.l0 k l1 (([] : List (S36))) t417 (t417.length : Int) 0 a0_0 a0_1 a0_2 a2_0 a2_1 a2_2 a2_3 a2_4 a2_5)) else (some (([] : List (S36)), t413)))
set_option maxHeartbeats 8000000 in
set_option maxRecDepth 100000 in
theorem impl_PlacesFor.calls (k : Nat) (a0_0 : Int) (a0_1 : Int) (a0_2 : (Nat → Int)) (A1 : Option Addr) (c1 : Nat) (l1 : List (S38)) (a2_0 : Int) (a2_1 : Int) (a2_2 : Int) (a2_3 : Int) (a2_4 : Int) (a2_5 : Int) (r1 : List (S36)) (r2 : Int) (w : World) (hr1 : Kd.C k38 w A1 l1.length l1) (hc1 : l1.length ≤ c1) (h : impl_PlacesFor.f k a0_0 a0_1 a0_2 l1 a2_0 a2_1 a2_2 a2_3 a2_4 a2_5 = some (r1, r2)) :
  Calls Try.prog 72 #[.agg (csBay a0_0 a0_1 a0_2), .slice A1 l1.length c1, .agg #[.int .i8 a2_0, .int .i8 a2_1, .int .i8 a2_2, .int .i8 a2_3, .int .i8 a2_4, .int .i8 a2_5]] w fun e w' => ∃ v0_ : Value, e = .returned (.tuple #[v0_, .int .i64 r2]) ∧ Kd.R k36 36 w' w.heap.size (fun _ => True) v0_ r1 ∧ Below w.heap.size w w' := by
 have hu28 := Try.underlying28
 have hu38 := Try.underlying38
 have hu36 := Try.underlying36
 have HR1 := am hr1
 have HC1 := am hc1
 clear hr1 hc1
 have HB := am (Below.refl w.heap.size w)
 have H : ((impl_withCode.f k a0_0 a0_1 a0_2 l1 a2_0 a2_1 a2_2 a2_3 a2_4 a2_5).bind fun t413 => (if t413 = 0 then ((impl_allPlaces.f k a0_0 a0_1 a0_2).bind fun t417 => (impl_PlacesFor.l0 k l1 (([] : List (S36))) t417 (t417.length : Int) 0 a0_0 a0_1 a0_2 a2_0 a2_1 a2_2 a2_3 a2_4 a2_5)) else (some (([] : List (S36)), t413)))) = some (r1, r2) := h
 clear h
 replace H := Option.bind_eq_some_iff.mp H
 obtain ⟨t413, A40, H⟩ := H
 try dsimp only at H
 have A4 := am A40
 clear A40
 by_cases c5 : t413 = 0
 ·rw [if_pos c5] at H
  have c5b0 : (t413 == 0) = true := beq_iff_eq.mpr c5
  have c5b1 : (t413 != 0) = false := bne_eq_false_iff_eq.mpr c5
  clear c5
  obtain ⟨y414, hy414⟩ : ∃ y_ : List (S36), y_ = (([] : List (S36))) := ⟨_, rfl⟩
  replace H : ((impl_allPlaces.f k a0_0 a0_1 a0_2).bind fun t417 => (impl_PlacesFor.l0 k l1 y414 t417 (t417.length : Int) 0 a0_0 a0_1 a0_2 a2_0 a2_1 a2_2 a2_3 a2_4 a2_5)) = some (r1, r2) := by first | (rw [hy414]; with_reducible exact H) | (have H2_ := (Option.bind_some _ _).symm.trans H; rw [hy414]; with_reducible exact H2_) | (have H2_ := (Option.bind_some _ _).symm.trans H; with_reducible exact H2_) | with_reducible exact H | (rw [hy414]; exact H) | exact H
  have Ny414 := am hy414
  clear hy414
  replace H := Option.bind_eq_some_iff.mp H
  obtain ⟨t417, A60, H⟩ := H
  try dsimp only at H
  have A6 := am A60
  clear A60
  have H' := am H
  clear H
  go_enter Try.func72, Try.ntmps72
  go_wp2_with (first | ((with_reducible refine gate_dst (N := 3) rfl ?_); refine bxe (N := 3) (cs := (csBay a0_0 a0_1 a0_2)) (t := 28) ?_; intro gb411 hg w7 hbox hb; have BK411 := am (hbox); have GW411 := am (gN hg (below_size (be HB))); have GE411 := am (gN hg (below_size (be HB))); replace HB := am (below_step (be HB) hb); clear hb hbox hg) | ((with_reducible refine gate_dst (N := 5) rfl ?_); refine bxe (N := 5) (cs := #[.int .i8 a2_0, .int .i8 a2_1, .int .i8 a2_2, .int .i8 a2_3, .int .i8 a2_4, .int .i8 a2_5]) (t := 38) ?_; intro gb412 hg w8 hbox hb; have BK412 := am (hbox); have GW412 := am (gN hg (below_size (be HB))); have GE412 := am (gN hg (below_size (be HB))); have NB411_412 := nL BK411 hg; have NB412_411 := nR BK411 hg; replace BK411 := bB BK411 hb; replace HB := am (below_step (be HB) hb); clear hb hbox hg; have hnb9 := NB411_412.out; have hnc9 := NB412_411.out; obtain ⟨hcz10_0, hcz10_1, hwz10, haz10, hyz10, hvz10, hfz10_0, hfz10_1, hfz10_2⟩ := bb28 BK411; obtain ⟨hcz11_0, hcz11_1, hcz11_2, hcz11_3, hcz11_4, hcz11_5, hfz11_0, hfz11_1, hfz11_2, hfz11_3, hfz11_4, hfz11_5⟩ := bx6 BK412) | ((with_reducible refine gate_callee (f := 131) rfl ?_); refine gL (some 15) Try.func131 #[.agg (csBay a0_0 a0_1 a0_2), .slice A1 l1.length c1, .agg #[.int .i8 a2_0, .int .i8 a2_1, .int .i8 a2_2, .int .i8 a2_3, .int .i8 a2_4, .int .i8 a2_5]] ?_; (with_reducible refine (impl_withCode.calls k a0_0 a0_1 a0_2 _ _ l1 a2_0 a2_1 a2_2 a2_3 a2_4 a2_5 t413 _ ?side1 ?side2 A4.out).mono ?_); (case side1 => repeat (first | exact (Kd.C_below HR1.out HB.out) | (with_reducible refine Kd.C_alloc ?_ _) | (with_reducible refine Kd.C_drewN ?_ _) | (with_reducible refine Kd.C_drew ?_))); (case side2 => exact HC1.out); rintro e w12 ⟨rfl, hb⟩; refine ⟨_, rfl, ?_⟩; replace BK411 := bB BK411 hb; replace BK412 := bB BK412 hb; replace HB := am (below_step (be HB) hb); (try clear hb); (try clear hb2); (try clear hk); (try clear hi)) | ((with_reducible refine gate_dst (N := 19) rfl ?_); refine Kd.R_lit k36 _ 36 ?hg (N := 19) ?hd (xs := ([] : List (S36))) (inner := []) (ok := fun _ => True) (okp := fun _ => True) ?hr ?hp (fun _ hk => hk) trivial (Below.refl _ _) (Nat.le_refl _) (by simp) ?_; (case hd => rfl); (case hg => rfl); (case hr => first | (go_simp; done) | (go_simp; rfl)); (case hp => exact (Reps.none _ _)); intro v415 w13 ho14 hb hg_ hnew_; clear hg_ hnew_; (first | rw [← Ny414.out] at ho14 | (simp only [Int.reduceToNat] at ho14; rw [← Ny414.out] at ho14)); have HO416 := am (Kd.R_lower ho14 (below_size (be HB))); replace BK411 := bB BK411 hb; replace BK412 := bB BK412 hb; replace HB := am (below_step (be HB) hb); clear hb ho14; obtain ⟨hcz15_0, hcz15_1, hwz15, haz15, hyz15, hvz15, hfz15_0, hfz15_1, hfz15_2⟩ := bb28 BK411) | ((with_reducible refine gate_callee (f := 111) rfl ?_); refine gL (some 21) Try.func111 #[.agg (csBay a0_0 a0_1 a0_2)] ?_; (with_reducible refine (impl_allPlaces.calls k a0_0 a0_1 a0_2 t417 _ A6.out).mono ?_); rintro e w16 ⟨v418, rfl, ho0, hb⟩; refine ⟨_, rfl, ?_⟩; have HO419 := am (Kd.R_lower (Kd.R_new' ho0 (Kd.R_lt (kr HO416))) (below_size (be HB))); replace HO416 := am (Kd.R_elder' (kr HO416) (Kd.R_base ho0) hb); replace BK411 := bB BK411 hb; replace BK412 := bB BK412 hb; replace HB := am (below_step (be HB) hb); (try clear hb); (try clear hb2); (try clear hk); (try clear hi); (try clear ho0); obtain ⟨Ao17, co17, eo17⟩ := Kd.R_slice HO419.out; subst eo17))
  go_loopg [9, 23] k (fun kq v9 v23 w' => ∃ (x9_1 : List (S36)) (x23_1 : Int) (x413000_1 : Int) (x413001_1 : Int), v23 = .int .i64 x23_1 ∧ Aside0 (impl_PlacesFor.l0 kq l1 x9_1 t417 (t417.length : Int) x23_1 a0_0 a0_1 a0_2 x413000_1 x413001_1 a2_2 a2_3 a2_4 a2_5 = some (r1, r2)) ∧ Aside0 (kq ≤ k) ∧ Aside0 (Kd.R k36 36 w' w.heap.size (fun k_ => some k_ ≠ ((.slice Ao17 t417.length co17) : Value).ownBlock) v9 x9_1) ∧ Aside0 (Kd.R k36 36 w' w.heap.size (fun k_ => some k_ ≠ (v9 : Value).ownBlock) (.slice Ao17 t417.length co17) t417) ∧ Aside0 (w'.heap[gb411]? = some (.cells (csBay a0_0 a0_1 a0_2) 28 (0, 0))) ∧ Aside0 (w'.heap[gb412]? = some (.cells #[.int .i8 x413000_1, .int .i8 x413001_1, .int .i8 a2_2, .int .i8 a2_3, .int .i8 a2_4, .int .i8 a2_5] 38 (0, 0))) ∧ Aside0 (Below w.heap.size w w'))
  case atStart => exact ⟨(y414), (0), (a2_0), (a2_1), vv, H', ⟨Nat.le_refl _⟩, ⟨by (with_reducible repeat (first | apply Kd.R_alloc | apply Kd.R_drewN | apply Kd.R_drew)); exact Kd.R_mono HO416.out (fun _ hk => hk.2)⟩, ⟨by (with_reducible repeat (first | apply Kd.R_alloc | apply Kd.R_drewN | apply Kd.R_drew)); exact Kd.R_mono HO419.out (fun _ hk => hk.2)⟩, ⟨kb BK411⟩, ⟨kb BK412⟩, ⟨be HB⟩⟩
  case round =>
   clear H'
   try clear c1
   try clear p2
   try clear c5
   try clear c5b0
   try clear c5b1
   try clear c7
   try clear c9
   try clear c11
   try clear c13
   try clear hcz10_0
   try clear hcz10_1
   try clear hcz11_0
   try clear hcz11_1
   try clear hcz11_2
   try clear hcz11_3
   try clear hcz11_4
   try clear hcz11_5
   try clear hcz15_0
   try clear hcz15_1
   try clear hfz10_0
   try clear hfz10_1
   try clear hfz10_2
   try clear hfz11_0
   try clear hfz11_1
   try clear hfz11_2
   try clear hfz11_3
   try clear hfz11_4
   try clear hfz11_5
   try clear hfz15_0
   try clear hfz15_1
   try clear hfz15_2
   obtain ⟨x9_1, x23_1, x413000_1, x413001_1, rfl, HA, HK1, HO_9, HO_21, BK411, BK412, HB⟩ := hrel
   cases gk with
   | zero => exact absurd HA.out (by simp [impl_PlacesFor.l0])
   | succ k1 =>
    have H := HA.out
    clear HA
    simp only [impl_PlacesFor.l0] at H
    by_cases c18 : x23_1 < (t417.length : Int)
    ·rw [if_pos c18] at H
     have c18b0 : decide (x23_1 < (t417.length : Int)) = true := decide_eq_true c18
     clear c18
     by_cases c19 : 0 ≤ x23_1
     ·rw [if_pos c19] at H
      have c19b0 : decide (0 ≤ x23_1) = true := decide_eq_true c19
      have c19b1 : 0 ≤ x23_1 := c19
      clear c19
      by_cases c20 : x23_1 < (t417.length : Int)
      ·rw [if_pos c20] at H
       have c20b0 : decide (x23_1 < (t417.length : Int)) = true := decide_eq_true c20
       clear c20
       replace H := Option.bind_eq_some_iff.mp H
       obtain ⟨t422, A210, H⟩ := H
       try dsimp only at H
       have A21 := am A210
       clear A210
       by_cases c22 : t422 = true
       ·subst c22
        rw [if_pos rfl] at H
        replace H := Option.bind_eq_some_iff.mp H
        obtain ⟨t423, A230, H⟩ := H
        try dsimp only at H
        have A23 := am A230
        clear A230
        by_cases c24 : t423 = true
        ·subst c24
         rw [if_pos rfl] at H
         by_cases c25 : x9_1.length < 70368744177664
         ·rw [if_pos c25] at H
          have LMc25 := am c25
          clear c25
          obtain ⟨y424, hy424⟩ : ∃ y_ : List (S36), y_ = (x9_1 ++ [(⟨(rd_T36 t417 x23_1).f0, (rd_T36 t417 x23_1).f1⟩ : S36)]) := ⟨_, rfl⟩
          replace H : (impl_PlacesFor.l0 k1 l1 y424 t417 (t417.length : Int) (wrap64 (x23_1 + 1)) a0_0 a0_1 a0_2 ((rd_T36 t417 x23_1).f0) ((rd_T36 t417 x23_1).f1) a2_2 a2_3 a2_4 a2_5) = some (r1, r2) := by first | (rw [hy424]; with_reducible exact H) | (have H2_ := (Option.bind_some _ _).symm.trans H; rw [hy424]; with_reducible exact H2_) | (have H2_ := (Option.bind_some _ _).symm.trans H; with_reducible exact H2_) | with_reducible exact H | (rw [hy424]; exact H) | exact H
          have Ny424 := am hy424
          clear hy424
          have H' := am H
          clear H
          have p420 : 0 ≤ (x23_1 : Int) := of_decide_eq_true (by first | (with_reducible assumption) | assumption)
          have q420 : x23_1 < (t417.length : Int) := of_decide_eq_true (by first | (with_reducible assumption) | assumption)
          obtain ⟨ad420, e420, hx420_0, hx420_1⟩ := at_T36 (Kd.R_reads' HO_21.out).2.2 x23_1 p420 q420
          cases e420
          replace p420 := eq_true p420
          replace q420 := eq_true q420
          go_wp2_with (first | ((with_reducible refine gate_dst (N := 11) rfl ?_); refine bxe (N := 11) (cs := #[.int .i8 0, .int .i8 0]) (t := 36) ?_; intro gb421 hg w26 hbox hb; have BK421 := am (hbox); have GW421 := am (gN hg (below_size (be HB))); have GE421 := am (gN hg (below_size (be HB))); have NB411_421 := nL BK411 hg; have NB421_411 := nR BK411 hg; have NB412_421 := nL BK412 hg; have NB421_412 := nR BK412 hg; replace HO_9 := am (Kd.R_below (Kd.R_elderB (kr HO_9) gb421 (Nat.le_of_eq hg.symm)) hb); replace HO_21 := am (Kd.R_below (Kd.R_elderB (kr HO_21) gb421 (Nat.le_of_eq hg.symm)) hb); replace BK411 := bB BK411 hb; replace BK412 := bB BK412 hb; replace HB := am (below_step (be HB) hb); clear hb hbox hg; have hnb27 := NB421_411.out; have hnc27 := NB411_421.out; have hnb28 := NB421_412.out; have hnc28 := NB412_421.out; obtain ⟨hcz29_0, hcz29_1, hfz29_0, hfz29_1⟩ := bx2 BK421; have hnb30 := NB412_411.out; have hnc30 := NB411_412.out; obtain ⟨hcz31_0, hcz31_1, hcz31_2, hcz31_3, hcz31_4, hcz31_5, hfz31_0, hfz31_1, hfz31_2, hfz31_3, hfz31_4, hfz31_5⟩ := bx6 BK412; obtain ⟨hcz32_0, hcz32_1, hwz32, haz32, hyz32, hvz32, hfz32_0, hfz32_1, hfz32_2⟩ := bb28 BK411) | ((with_reducible refine gate_callee (f := 107) rfl ?_); refine gL (some 31) Try.func107 #[.agg (csBay a0_0 a0_1 a0_2), .agg #[.int .i8 ((rd_T36 t417 x23_1).f0), .int .i8 ((rd_T36 t417 x23_1).f1), .int .i8 a2_2, .int .i8 a2_3, .int .i8 a2_4, .int .i8 a2_5]] ?_; (with_reducible refine (impl_isBoat.calls a0_0 a0_1 a0_2 ((rd_T36 t417 x23_1).f0) ((rd_T36 t417 x23_1).f1) a2_2 a2_3 a2_4 a2_5 true _ A21.out).mono ?_); rintro e w33 ⟨rfl, hb⟩; refine ⟨_, rfl, ?_⟩; replace HO_9 := am (Kd.R_below (by (with_reducible repeat (first | apply Kd.R_alloc | apply Kd.R_drewN | apply Kd.R_drew)); exact (Kd.R_mono (Kd.R_mono (Kd.R_far (p := ⟨gb412, 1, none⟩) (Kd.R_far (p := ⟨gb412, 0, none⟩) (Kd.R_far (p := ⟨gb421, 1, none⟩) (Kd.R_far (p := ⟨gb421, 0, none⟩) (Kd.R_types (Kd.R_mono HO_9.out (fun k_ hk => (⟨hk, hk.2⟩ : _ ∧ k_ ≠ gb421))) BK412.out (by decide)) (fun _ hk => hk.1.2) (.int .i8 ((rd_T36 t417 x23_1).f0))) (fun _ hk => hk.1.2) (.int .i8 ((rd_T36 t417 x23_1).f1))) (fun _ hk => hk.2) (.int .i8 ((rd_T36 t417 x23_1).f0))) (fun _ hk => hk.2) (.int .i8 ((rd_T36 t417 x23_1).f1))) (fun _ h_ => h_.1)) (fun _ h_ => h_.1))) hb); replace HO_21 := am (Kd.R_below (by (with_reducible repeat (first | apply Kd.R_alloc | apply Kd.R_drewN | apply Kd.R_drew)); exact (Kd.R_mono (Kd.R_mono (Kd.R_far (p := ⟨gb412, 1, none⟩) (Kd.R_far (p := ⟨gb412, 0, none⟩) (Kd.R_far (p := ⟨gb421, 1, none⟩) (Kd.R_far (p := ⟨gb421, 0, none⟩) (Kd.R_types (Kd.R_mono HO_21.out (fun k_ hk => (⟨hk, hk.2⟩ : _ ∧ k_ ≠ gb421))) BK412.out (by decide)) (fun _ hk => hk.1.2) (.int .i8 ((rd_T36 t417 x23_1).f0))) (fun _ hk => hk.1.2) (.int .i8 ((rd_T36 t417 x23_1).f1))) (fun _ hk => hk.2) (.int .i8 ((rd_T36 t417 x23_1).f0))) (fun _ hk => hk.2) (.int .i8 ((rd_T36 t417 x23_1).f1))) (fun _ h_ => h_.1)) (fun _ h_ => h_.1))) hb); replace BK411 := am (blk_below (g := gb411) (o := .cells (csBay a0_0 a0_1 a0_2) 28 (0, 0)) (by (with_reducible repeat (first | refine blk_drewN ?_ _ | refine blk_drew ?_ | refine blk_alloc ?_ _)); refine blk_far ?_ NB411_412.out _; (with_reducible repeat (first | refine blk_drewN ?_ _ | refine blk_drew ?_ | refine blk_alloc ?_ _)); refine blk_far ?_ NB411_412.out _; (with_reducible repeat (first | refine blk_drewN ?_ _ | refine blk_drew ?_ | refine blk_alloc ?_ _)); refine blk_far ?_ NB411_421.out _; (with_reducible repeat (first | refine blk_drewN ?_ _ | refine blk_drew ?_ | refine blk_alloc ?_ _)); refine blk_far ?_ NB411_421.out _; exact kb BK411) hb); replace BK412 := am (blk_below (g := gb412) (o := .cells #[.int .i8 ((rd_T36 t417 x23_1).f0), .int .i8 ((rd_T36 t417 x23_1).f1), .int .i8 a2_2, .int .i8 a2_3, .int .i8 a2_4, .int .i8 a2_5] 38 (0, 0)) (by (with_reducible repeat (first | refine blk_drewN ?_ _ | refine blk_drew ?_ | refine blk_alloc ?_ _)); refine blk_put (cs := #[.int .i8 ((rd_T36 t417 x23_1).f0), .int .i8 x413001_1, .int .i8 a2_2, .int .i8 a2_3, .int .i8 a2_4, .int .i8 a2_5]) ?_ 1 _ rfl; (with_reducible repeat (first | refine blk_drewN ?_ _ | refine blk_drew ?_ | refine blk_alloc ?_ _)); refine blk_put (cs := #[.int .i8 x413000_1, .int .i8 x413001_1, .int .i8 a2_2, .int .i8 a2_3, .int .i8 a2_4, .int .i8 a2_5]) ?_ 0 _ rfl; (with_reducible repeat (first | refine blk_drewN ?_ _ | refine blk_drew ?_ | refine blk_alloc ?_ _)); refine blk_far ?_ NB412_421.out _; (with_reducible repeat (first | refine blk_drewN ?_ _ | refine blk_drew ?_ | refine blk_alloc ?_ _)); refine blk_far ?_ NB412_421.out _; exact kb BK412) hb); replace BK421 := am (blk_below (g := gb421) (o := .cells #[.int .i8 ((rd_T36 t417 x23_1).f0), .int .i8 ((rd_T36 t417 x23_1).f1)] 36 (0, 0)) (by (with_reducible repeat (first | refine blk_drewN ?_ _ | refine blk_drew ?_ | refine blk_alloc ?_ _)); refine blk_far ?_ NB421_412.out _; (with_reducible repeat (first | refine blk_drewN ?_ _ | refine blk_drew ?_ | refine blk_alloc ?_ _)); refine blk_far ?_ NB421_412.out _; (with_reducible repeat (first | refine blk_drewN ?_ _ | refine blk_drew ?_ | refine blk_alloc ?_ _)); refine blk_put (cs := #[.int .i8 ((rd_T36 t417 x23_1).f0), .int .i8 0]) ?_ 1 _ rfl; (with_reducible repeat (first | refine blk_drewN ?_ _ | refine blk_drew ?_ | refine blk_alloc ?_ _)); refine blk_put (cs := #[.int .i8 0, .int .i8 0]) ?_ 0 _ rfl; exact kb BK421) hb); replace HB := am (below_step (be HB) hb); (try clear hb); (try clear hb2); (try clear hk); (try clear hi); obtain ⟨hcz34_0, hcz34_1, hwz34, haz34, hyz34, hvz34, hfz34_0, hfz34_1, hfz34_2⟩ := bb28 BK411; obtain ⟨hcz35_0, hcz35_1, hcz35_2, hcz35_3, hcz35_4, hcz35_5, hfz35_0, hfz35_1, hfz35_2, hfz35_3, hfz35_4, hfz35_5⟩ := bx6 BK412) | (go_at_call 132; (with_reducible refine (impl_comes.calls k1 a0_0 a0_1 a0_2 _ _ l1 ((rd_T36 t417 x23_1).f0) ((rd_T36 t417 x23_1).f1) a2_2 a2_3 a2_4 a2_5 true _ ?side1 ?side2 A23.out).mono ?_); (case side1 => repeat (first | exact (Kd.C_below HR1.out HB.out) | (with_reducible refine Kd.C_alloc ?_ _) | (with_reducible refine Kd.C_drewN ?_ _) | (with_reducible refine Kd.C_drew ?_))); (case side2 => exact HC1.out); rintro e w36 ⟨rfl, hb⟩; replace HO_9 := am (Kd.R_below (kr HO_9) hb); replace HO_21 := am (Kd.R_below (kr HO_21) hb); replace BK411 := bB BK411 hb; replace BK412 := bB BK412 hb; replace BK421 := bB BK421 hb; replace HB := am (below_step (be HB) hb); (try clear hb); (try clear hb2); (try clear hk); (try clear hi); obtain ⟨hcz37_0, hcz37_1, hfz37_0, hfz37_1⟩ := bx2 BK421) | ((with_reducible refine gate_builtin (b := .append) (xs := #[.tmp 38, .tmp 40]) rfl ?_); at_builtin; refine Kd.R_append k36 (w0 := w) w.heap.size rfl (.tmp 38) (.tmp 40) 56 36 (.agg #[(.int .i8 0), (.int .i8 0)]) 2 rfl Try.underlying56 info36 rfl (by decide) (by omega) u9 x9_1 (⟨(rd_T36 t417 x23_1).f0, (rd_T36 t417 x23_1).f1⟩ : S36) [.int .i8 ((rd_T36 t417 x23_1).f0), .int .i8 ((rd_T36 t417 x23_1).f1)] (fun k_ => some k_ ≠ (.slice (some ad420) t417.length co17 : Value).ownBlock ∧ k_ ≠ gb421) (fun _ => False) rfl rfl ?aP (fun _ hk => hk.elim) ?aF ?aO ?aB ?aS ?aL ?_; (case aP => exact k36_mkM _ _ _ (⟨(rd_T36 t417 x23_1).f0, (rd_T36 t417 x23_1).f1⟩ : S36)); (case aB => exact (be HB)); (case aF => exact (fun k_ hk => ⟨Kd.fresh' (Kd.R_lt (kr HO_21)) k_ hk, Kd.freshB (g := gb421) (o := .cells #[.int .i8 ((rd_T36 t417 x23_1).f0), .int .i8 ((rd_T36 t417 x23_1).f1)] 36 (0, 0)) (kb BK421) k_ hk⟩)); (case aO => exact (kr HO_9)); (case aS => exact (below_size (be HB))); (case aL => have := LMc25.out; omega); intro v425 w38 ho hb hg hat; rw [← Ny424.out] at ho; have HO426 := am (ho); replace HO_21 := am (Kd.R_after (ok := (fun k_ => k_ ≠ gb421)) (by (with_reducible repeat (first | apply Kd.R_alloc | apply Kd.R_drewN | apply Kd.R_drew)); exact Kd.R_mono HO_21.out (fun _ hk => ⟨hk.2, hk.1⟩)) hg hat); replace BK411 := am (blk_grown (g := gb411) (o := .cells (csBay a0_0 a0_1 a0_2) 28 (0, 0)) (kb BK411) hg (Kd.R_ne HO_9.out BK411.out (by decide))); replace BK412 := am (blk_grown (g := gb412) (o := .cells #[.int .i8 ((rd_T36 t417 x23_1).f0), .int .i8 ((rd_T36 t417 x23_1).f1), .int .i8 a2_2, .int .i8 a2_3, .int .i8 a2_4, .int .i8 a2_5] 38 (0, 0)) (kb BK412) hg (Kd.R_ne HO_9.out BK412.out (by decide))); replace BK421 := am (blk_grown (g := gb421) (o := .cells #[.int .i8 ((rd_T36 t417 x23_1).f0), .int .i8 ((rd_T36 t417 x23_1).f1)] 36 (0, 0)) (kb BK421) hg (Kd.R_away HO_9.out (fun _ hk => hk.2))); replace HB := am (hb); clear HO_9; clear ho hb hg hat))
          go_roundg k1
          case measure => have := HK1.out; omega
          case rel => exact ⟨(y424), (wrap64 (x23_1 + 1)), ((rd_T36 t417 x23_1).f0), ((rd_T36 t417 x23_1).f1), vv, H', ⟨by have := HK1.out; omega⟩, ⟨by (with_reducible repeat (first | apply Kd.R_alloc | apply Kd.R_drewN | apply Kd.R_drew)); exact Kd.R_mono HO426.out (fun _ hk => hk.1)⟩, ⟨by (with_reducible repeat (first | apply Kd.R_alloc | apply Kd.R_drewN | apply Kd.R_drew)); exact Kd.R_mono HO_21.out (fun _ hk => hk.2)⟩, ⟨kb BK411⟩, ⟨kb BK412⟩, ⟨be HB⟩⟩
         ·rw [if_neg c25] at H
          exact absurd H (by simp)
        ·replace c24 := Bool.eq_false_iff.mpr c24
         subst c24
         have H1 : (impl_PlacesFor.l0 k1 l1 x9_1 t417 (t417.length : Int) (wrap64 (x23_1 + 1)) a0_0 a0_1 a0_2 ((rd_T36 t417 x23_1).f0) ((rd_T36 t417 x23_1).f1) a2_2 a2_3 a2_4 a2_5) = some (r1, r2) := by rw [if_neg (show ¬ (false = true) by decide)] at H; exact H
         clear H
         have H := H1
         clear H1
         have H' := am H
         clear H
         have p420 : 0 ≤ (x23_1 : Int) := of_decide_eq_true (by first | (with_reducible assumption) | assumption)
         have q420 : x23_1 < (t417.length : Int) := of_decide_eq_true (by first | (with_reducible assumption) | assumption)
         obtain ⟨ad420, e420, hx420_0, hx420_1⟩ := at_T36 (Kd.R_reads' HO_21.out).2.2 x23_1 p420 q420
         cases e420
         replace p420 := eq_true p420
         replace q420 := eq_true q420
         go_wp2_with (first | ((with_reducible refine gate_dst (N := 11) rfl ?_); refine bxe (N := 11) (cs := #[.int .i8 0, .int .i8 0]) (t := 36) ?_; intro gb421 hg w39 hbox hb; have BK421 := am (hbox); have GW421 := am (gN hg (below_size (be HB))); have GE421 := am (gN hg (below_size (be HB))); have NB411_421 := nL BK411 hg; have NB421_411 := nR BK411 hg; have NB412_421 := nL BK412 hg; have NB421_412 := nR BK412 hg; replace HO_9 := am (Kd.R_below (Kd.R_elderB (kr HO_9) gb421 (Nat.le_of_eq hg.symm)) hb); replace HO_21 := am (Kd.R_below (Kd.R_elderB (kr HO_21) gb421 (Nat.le_of_eq hg.symm)) hb); replace BK411 := bB BK411 hb; replace BK412 := bB BK412 hb; replace HB := am (below_step (be HB) hb); clear hb hbox hg; have hnb40 := NB421_411.out; have hnc40 := NB411_421.out; have hnb41 := NB421_412.out; have hnc41 := NB412_421.out; obtain ⟨hcz42_0, hcz42_1, hfz42_0, hfz42_1⟩ := bx2 BK421; have hnb43 := NB412_411.out; have hnc43 := NB411_412.out; obtain ⟨hcz44_0, hcz44_1, hcz44_2, hcz44_3, hcz44_4, hcz44_5, hfz44_0, hfz44_1, hfz44_2, hfz44_3, hfz44_4, hfz44_5⟩ := bx6 BK412; obtain ⟨hcz45_0, hcz45_1, hwz45, haz45, hyz45, hvz45, hfz45_0, hfz45_1, hfz45_2⟩ := bb28 BK411) | ((with_reducible refine gate_callee (f := 107) rfl ?_); refine gL (some 31) Try.func107 #[.agg (csBay a0_0 a0_1 a0_2), .agg #[.int .i8 ((rd_T36 t417 x23_1).f0), .int .i8 ((rd_T36 t417 x23_1).f1), .int .i8 a2_2, .int .i8 a2_3, .int .i8 a2_4, .int .i8 a2_5]] ?_; (with_reducible refine (impl_isBoat.calls a0_0 a0_1 a0_2 ((rd_T36 t417 x23_1).f0) ((rd_T36 t417 x23_1).f1) a2_2 a2_3 a2_4 a2_5 true _ A21.out).mono ?_); rintro e w46 ⟨rfl, hb⟩; refine ⟨_, rfl, ?_⟩; replace HO_9 := am (Kd.R_below (by (with_reducible repeat (first | apply Kd.R_alloc | apply Kd.R_drewN | apply Kd.R_drew)); exact (Kd.R_mono (Kd.R_mono (Kd.R_far (p := ⟨gb412, 1, none⟩) (Kd.R_far (p := ⟨gb412, 0, none⟩) (Kd.R_far (p := ⟨gb421, 1, none⟩) (Kd.R_far (p := ⟨gb421, 0, none⟩) (Kd.R_types (Kd.R_mono HO_9.out (fun k_ hk => (⟨hk, hk.2⟩ : _ ∧ k_ ≠ gb421))) BK412.out (by decide)) (fun _ hk => hk.1.2) (.int .i8 ((rd_T36 t417 x23_1).f0))) (fun _ hk => hk.1.2) (.int .i8 ((rd_T36 t417 x23_1).f1))) (fun _ hk => hk.2) (.int .i8 ((rd_T36 t417 x23_1).f0))) (fun _ hk => hk.2) (.int .i8 ((rd_T36 t417 x23_1).f1))) (fun _ h_ => h_.1)) (fun _ h_ => h_.1))) hb); replace HO_21 := am (Kd.R_below (by (with_reducible repeat (first | apply Kd.R_alloc | apply Kd.R_drewN | apply Kd.R_drew)); exact (Kd.R_mono (Kd.R_mono (Kd.R_far (p := ⟨gb412, 1, none⟩) (Kd.R_far (p := ⟨gb412, 0, none⟩) (Kd.R_far (p := ⟨gb421, 1, none⟩) (Kd.R_far (p := ⟨gb421, 0, none⟩) (Kd.R_types (Kd.R_mono HO_21.out (fun k_ hk => (⟨hk, hk.2⟩ : _ ∧ k_ ≠ gb421))) BK412.out (by decide)) (fun _ hk => hk.1.2) (.int .i8 ((rd_T36 t417 x23_1).f0))) (fun _ hk => hk.1.2) (.int .i8 ((rd_T36 t417 x23_1).f1))) (fun _ hk => hk.2) (.int .i8 ((rd_T36 t417 x23_1).f0))) (fun _ hk => hk.2) (.int .i8 ((rd_T36 t417 x23_1).f1))) (fun _ h_ => h_.1)) (fun _ h_ => h_.1))) hb); replace BK411 := am (blk_below (g := gb411) (o := .cells (csBay a0_0 a0_1 a0_2) 28 (0, 0)) (by (with_reducible repeat (first | refine blk_drewN ?_ _ | refine blk_drew ?_ | refine blk_alloc ?_ _)); refine blk_far ?_ NB411_412.out _; (with_reducible repeat (first | refine blk_drewN ?_ _ | refine blk_drew ?_ | refine blk_alloc ?_ _)); refine blk_far ?_ NB411_412.out _; (with_reducible repeat (first | refine blk_drewN ?_ _ | refine blk_drew ?_ | refine blk_alloc ?_ _)); refine blk_far ?_ NB411_421.out _; (with_reducible repeat (first | refine blk_drewN ?_ _ | refine blk_drew ?_ | refine blk_alloc ?_ _)); refine blk_far ?_ NB411_421.out _; exact kb BK411) hb); replace BK412 := am (blk_below (g := gb412) (o := .cells #[.int .i8 ((rd_T36 t417 x23_1).f0), .int .i8 ((rd_T36 t417 x23_1).f1), .int .i8 a2_2, .int .i8 a2_3, .int .i8 a2_4, .int .i8 a2_5] 38 (0, 0)) (by (with_reducible repeat (first | refine blk_drewN ?_ _ | refine blk_drew ?_ | refine blk_alloc ?_ _)); refine blk_put (cs := #[.int .i8 ((rd_T36 t417 x23_1).f0), .int .i8 x413001_1, .int .i8 a2_2, .int .i8 a2_3, .int .i8 a2_4, .int .i8 a2_5]) ?_ 1 _ rfl; (with_reducible repeat (first | refine blk_drewN ?_ _ | refine blk_drew ?_ | refine blk_alloc ?_ _)); refine blk_put (cs := #[.int .i8 x413000_1, .int .i8 x413001_1, .int .i8 a2_2, .int .i8 a2_3, .int .i8 a2_4, .int .i8 a2_5]) ?_ 0 _ rfl; (with_reducible repeat (first | refine blk_drewN ?_ _ | refine blk_drew ?_ | refine blk_alloc ?_ _)); refine blk_far ?_ NB412_421.out _; (with_reducible repeat (first | refine blk_drewN ?_ _ | refine blk_drew ?_ | refine blk_alloc ?_ _)); refine blk_far ?_ NB412_421.out _; exact kb BK412) hb); replace BK421 := am (blk_below (g := gb421) (o := .cells #[.int .i8 ((rd_T36 t417 x23_1).f0), .int .i8 ((rd_T36 t417 x23_1).f1)] 36 (0, 0)) (by (with_reducible repeat (first | refine blk_drewN ?_ _ | refine blk_drew ?_ | refine blk_alloc ?_ _)); refine blk_far ?_ NB421_412.out _; (with_reducible repeat (first | refine blk_drewN ?_ _ | refine blk_drew ?_ | refine blk_alloc ?_ _)); refine blk_far ?_ NB421_412.out _; (with_reducible repeat (first | refine blk_drewN ?_ _ | refine blk_drew ?_ | refine blk_alloc ?_ _)); refine blk_put (cs := #[.int .i8 ((rd_T36 t417 x23_1).f0), .int .i8 0]) ?_ 1 _ rfl; (with_reducible repeat (first | refine blk_drewN ?_ _ | refine blk_drew ?_ | refine blk_alloc ?_ _)); refine blk_put (cs := #[.int .i8 0, .int .i8 0]) ?_ 0 _ rfl; exact kb BK421) hb); replace HB := am (below_step (be HB) hb); (try clear hb); (try clear hb2); (try clear hk); (try clear hi); obtain ⟨hcz47_0, hcz47_1, hwz47, haz47, hyz47, hvz47, hfz47_0, hfz47_1, hfz47_2⟩ := bb28 BK411; obtain ⟨hcz48_0, hcz48_1, hcz48_2, hcz48_3, hcz48_4, hcz48_5, hfz48_0, hfz48_1, hfz48_2, hfz48_3, hfz48_4, hfz48_5⟩ := bx6 BK412) | (go_at_call 132; (with_reducible refine (impl_comes.calls k1 a0_0 a0_1 a0_2 _ _ l1 ((rd_T36 t417 x23_1).f0) ((rd_T36 t417 x23_1).f1) a2_2 a2_3 a2_4 a2_5 false _ ?side1 ?side2 A23.out).mono ?_); (case side1 => repeat (first | exact (Kd.C_below HR1.out HB.out) | (with_reducible refine Kd.C_alloc ?_ _) | (with_reducible refine Kd.C_drewN ?_ _) | (with_reducible refine Kd.C_drew ?_))); (case side2 => exact HC1.out); rintro e w49 ⟨rfl, hb⟩; replace HO_9 := am (Kd.R_below (kr HO_9) hb); replace HO_21 := am (Kd.R_below (kr HO_21) hb); replace BK411 := bB BK411 hb; replace BK412 := bB BK412 hb; replace BK421 := bB BK421 hb; replace HB := am (below_step (be HB) hb); (try clear hb); (try clear hb2); (try clear hk); (try clear hi)))
         go_roundg k1
         case measure => have := HK1.out; omega
         case rel => exact ⟨(x9_1), (wrap64 (x23_1 + 1)), ((rd_T36 t417 x23_1).f0), ((rd_T36 t417 x23_1).f1), vv, H', ⟨by have := HK1.out; omega⟩, ⟨by (with_reducible repeat (first | apply Kd.R_alloc | apply Kd.R_drewN | apply Kd.R_drew)); exact Kd.R_mono HO_9.out (fun _ hk => hk.1)⟩, ⟨by (with_reducible repeat (first | apply Kd.R_alloc | apply Kd.R_drewN | apply Kd.R_drew)); exact Kd.R_mono HO_21.out (fun _ hk => hk.1)⟩, ⟨kb BK411⟩, ⟨kb BK412⟩, ⟨be HB⟩⟩
       ·replace c22 := Bool.eq_false_iff.mpr c22
        subst c22
        have H1 : (impl_PlacesFor.l0 k1 l1 x9_1 t417 (t417.length : Int) (wrap64 (x23_1 + 1)) a0_0 a0_1 a0_2 ((rd_T36 t417 x23_1).f0) ((rd_T36 t417 x23_1).f1) a2_2 a2_3 a2_4 a2_5) = some (r1, r2) := by rw [if_neg (show ¬ (false = true) by decide)] at H; exact H
        clear H
        have H := H1
        clear H1
        have H' := am H
        clear H
        have p420 : 0 ≤ (x23_1 : Int) := of_decide_eq_true (by first | (with_reducible assumption) | assumption)
        have q420 : x23_1 < (t417.length : Int) := of_decide_eq_true (by first | (with_reducible assumption) | assumption)
        obtain ⟨ad420, e420, hx420_0, hx420_1⟩ := at_T36 (Kd.R_reads' HO_21.out).2.2 x23_1 p420 q420
        cases e420
        replace p420 := eq_true p420
        replace q420 := eq_true q420
        go_wp2_with (first | ((with_reducible refine gate_dst (N := 11) rfl ?_); refine bxe (N := 11) (cs := #[.int .i8 0, .int .i8 0]) (t := 36) ?_; intro gb421 hg w50 hbox hb; have BK421 := am (hbox); have GW421 := am (gN hg (below_size (be HB))); have GE421 := am (gN hg (below_size (be HB))); have NB411_421 := nL BK411 hg; have NB421_411 := nR BK411 hg; have NB412_421 := nL BK412 hg; have NB421_412 := nR BK412 hg; replace HO_9 := am (Kd.R_below (Kd.R_elderB (kr HO_9) gb421 (Nat.le_of_eq hg.symm)) hb); replace HO_21 := am (Kd.R_below (Kd.R_elderB (kr HO_21) gb421 (Nat.le_of_eq hg.symm)) hb); replace BK411 := bB BK411 hb; replace BK412 := bB BK412 hb; replace HB := am (below_step (be HB) hb); clear hb hbox hg; have hnb51 := NB421_411.out; have hnc51 := NB411_421.out; have hnb52 := NB421_412.out; have hnc52 := NB412_421.out; obtain ⟨hcz53_0, hcz53_1, hfz53_0, hfz53_1⟩ := bx2 BK421; have hnb54 := NB412_411.out; have hnc54 := NB411_412.out; obtain ⟨hcz55_0, hcz55_1, hcz55_2, hcz55_3, hcz55_4, hcz55_5, hfz55_0, hfz55_1, hfz55_2, hfz55_3, hfz55_4, hfz55_5⟩ := bx6 BK412; obtain ⟨hcz56_0, hcz56_1, hwz56, haz56, hyz56, hvz56, hfz56_0, hfz56_1, hfz56_2⟩ := bb28 BK411) | ((with_reducible refine gate_callee (f := 107) rfl ?_); refine gL (some 31) Try.func107 #[.agg (csBay a0_0 a0_1 a0_2), .agg #[.int .i8 ((rd_T36 t417 x23_1).f0), .int .i8 ((rd_T36 t417 x23_1).f1), .int .i8 a2_2, .int .i8 a2_3, .int .i8 a2_4, .int .i8 a2_5]] ?_; (with_reducible refine (impl_isBoat.calls a0_0 a0_1 a0_2 ((rd_T36 t417 x23_1).f0) ((rd_T36 t417 x23_1).f1) a2_2 a2_3 a2_4 a2_5 false _ A21.out).mono ?_); rintro e w57 ⟨rfl, hb⟩; refine ⟨_, rfl, ?_⟩; replace HO_9 := am (Kd.R_below (by (with_reducible repeat (first | apply Kd.R_alloc | apply Kd.R_drewN | apply Kd.R_drew)); exact (Kd.R_mono (Kd.R_mono (Kd.R_far (p := ⟨gb412, 1, none⟩) (Kd.R_far (p := ⟨gb412, 0, none⟩) (Kd.R_far (p := ⟨gb421, 1, none⟩) (Kd.R_far (p := ⟨gb421, 0, none⟩) (Kd.R_types (Kd.R_mono HO_9.out (fun k_ hk => (⟨hk, hk.2⟩ : _ ∧ k_ ≠ gb421))) BK412.out (by decide)) (fun _ hk => hk.1.2) (.int .i8 ((rd_T36 t417 x23_1).f0))) (fun _ hk => hk.1.2) (.int .i8 ((rd_T36 t417 x23_1).f1))) (fun _ hk => hk.2) (.int .i8 ((rd_T36 t417 x23_1).f0))) (fun _ hk => hk.2) (.int .i8 ((rd_T36 t417 x23_1).f1))) (fun _ h_ => h_.1)) (fun _ h_ => h_.1))) hb); replace HO_21 := am (Kd.R_below (by (with_reducible repeat (first | apply Kd.R_alloc | apply Kd.R_drewN | apply Kd.R_drew)); exact (Kd.R_mono (Kd.R_mono (Kd.R_far (p := ⟨gb412, 1, none⟩) (Kd.R_far (p := ⟨gb412, 0, none⟩) (Kd.R_far (p := ⟨gb421, 1, none⟩) (Kd.R_far (p := ⟨gb421, 0, none⟩) (Kd.R_types (Kd.R_mono HO_21.out (fun k_ hk => (⟨hk, hk.2⟩ : _ ∧ k_ ≠ gb421))) BK412.out (by decide)) (fun _ hk => hk.1.2) (.int .i8 ((rd_T36 t417 x23_1).f0))) (fun _ hk => hk.1.2) (.int .i8 ((rd_T36 t417 x23_1).f1))) (fun _ hk => hk.2) (.int .i8 ((rd_T36 t417 x23_1).f0))) (fun _ hk => hk.2) (.int .i8 ((rd_T36 t417 x23_1).f1))) (fun _ h_ => h_.1)) (fun _ h_ => h_.1))) hb); replace BK411 := am (blk_below (g := gb411) (o := .cells (csBay a0_0 a0_1 a0_2) 28 (0, 0)) (by (with_reducible repeat (first | refine blk_drewN ?_ _ | refine blk_drew ?_ | refine blk_alloc ?_ _)); refine blk_far ?_ NB411_412.out _; (with_reducible repeat (first | refine blk_drewN ?_ _ | refine blk_drew ?_ | refine blk_alloc ?_ _)); refine blk_far ?_ NB411_412.out _; (with_reducible repeat (first | refine blk_drewN ?_ _ | refine blk_drew ?_ | refine blk_alloc ?_ _)); refine blk_far ?_ NB411_421.out _; (with_reducible repeat (first | refine blk_drewN ?_ _ | refine blk_drew ?_ | refine blk_alloc ?_ _)); refine blk_far ?_ NB411_421.out _; exact kb BK411) hb); replace BK412 := am (blk_below (g := gb412) (o := .cells #[.int .i8 ((rd_T36 t417 x23_1).f0), .int .i8 ((rd_T36 t417 x23_1).f1), .int .i8 a2_2, .int .i8 a2_3, .int .i8 a2_4, .int .i8 a2_5] 38 (0, 0)) (by (with_reducible repeat (first | refine blk_drewN ?_ _ | refine blk_drew ?_ | refine blk_alloc ?_ _)); refine blk_put (cs := #[.int .i8 ((rd_T36 t417 x23_1).f0), .int .i8 x413001_1, .int .i8 a2_2, .int .i8 a2_3, .int .i8 a2_4, .int .i8 a2_5]) ?_ 1 _ rfl; (with_reducible repeat (first | refine blk_drewN ?_ _ | refine blk_drew ?_ | refine blk_alloc ?_ _)); refine blk_put (cs := #[.int .i8 x413000_1, .int .i8 x413001_1, .int .i8 a2_2, .int .i8 a2_3, .int .i8 a2_4, .int .i8 a2_5]) ?_ 0 _ rfl; (with_reducible repeat (first | refine blk_drewN ?_ _ | refine blk_drew ?_ | refine blk_alloc ?_ _)); refine blk_far ?_ NB412_421.out _; (with_reducible repeat (first | refine blk_drewN ?_ _ | refine blk_drew ?_ | refine blk_alloc ?_ _)); refine blk_far ?_ NB412_421.out _; exact kb BK412) hb); replace BK421 := am (blk_below (g := gb421) (o := .cells #[.int .i8 ((rd_T36 t417 x23_1).f0), .int .i8 ((rd_T36 t417 x23_1).f1)] 36 (0, 0)) (by (with_reducible repeat (first | refine blk_drewN ?_ _ | refine blk_drew ?_ | refine blk_alloc ?_ _)); refine blk_far ?_ NB421_412.out _; (with_reducible repeat (first | refine blk_drewN ?_ _ | refine blk_drew ?_ | refine blk_alloc ?_ _)); refine blk_far ?_ NB421_412.out _; (with_reducible repeat (first | refine blk_drewN ?_ _ | refine blk_drew ?_ | refine blk_alloc ?_ _)); refine blk_put (cs := #[.int .i8 ((rd_T36 t417 x23_1).f0), .int .i8 0]) ?_ 1 _ rfl; (with_reducible repeat (first | refine blk_drewN ?_ _ | refine blk_drew ?_ | refine blk_alloc ?_ _)); refine blk_put (cs := #[.int .i8 0, .int .i8 0]) ?_ 0 _ rfl; exact kb BK421) hb); replace HB := am (below_step (be HB) hb); (try clear hb); (try clear hb2); (try clear hk); (try clear hi)))
        go_roundg k1
        case measure => have := HK1.out; omega
        case rel => exact ⟨(x9_1), (wrap64 (x23_1 + 1)), ((rd_T36 t417 x23_1).f0), ((rd_T36 t417 x23_1).f1), vv, H', ⟨by have := HK1.out; omega⟩, ⟨by (with_reducible repeat (first | apply Kd.R_alloc | apply Kd.R_drewN | apply Kd.R_drew)); exact Kd.R_mono HO_9.out (fun _ hk => hk.1)⟩, ⟨by (with_reducible repeat (first | apply Kd.R_alloc | apply Kd.R_drewN | apply Kd.R_drew)); exact Kd.R_mono HO_21.out (fun _ hk => hk.1)⟩, ⟨kb BK411⟩, ⟨kb BK412⟩, ⟨be HB⟩⟩
      ·rw [if_neg c20] at H
       exact absurd H (by simp)
     ·rw [if_neg c19] at H
      exact absurd H (by simp)
    ·rw [if_neg c18] at H
     have c18b0 : decide (x23_1 < (t417.length : Int)) = false := decide_eq_false c18
     clear c18
     simp only [Option.some.injEq, Prod.mk.injEq] at H
     obtain ⟨rfl, rfl⟩ := H
     go_wp2
     go_ret2
     exact ⟨_, by first | rfl | (simp [errW_none, errW_some] <;> rfl) | (simp [*, errW_none, errW_some] <;> rfl), by (with_reducible repeat (first | apply Kd.R_alloc | apply Kd.R_drewN | apply Kd.R_drew)); exact Kd.R_mono HO_9.out (fun _ hk => trivial), be HB⟩
 ·rw [if_neg c5] at H
  have c5b0 : (t413 == 0) = false := beq_eq_false_iff_ne.mpr c5
  have c5b1 : (t413 != 0) = true := bne_iff_ne.mpr c5
  simp only [Option.some.injEq, Prod.mk.injEq] at H
  obtain ⟨rfl, rfl⟩ := H
  go_enter Try.func72, Try.ntmps72
  go_wp2_with (first | ((with_reducible refine gate_dst (N := 3) rfl ?_); refine bxe (N := 3) (cs := (csBay a0_0 a0_1 a0_2)) (t := 28) ?_; intro gb411 hg w58 hbox hb; have BK411 := am (hbox); have GW411 := am (gN hg (below_size (be HB))); have GE411 := am (gN hg (below_size (be HB))); replace HB := am (below_step (be HB) hb); clear hb hbox hg) | ((with_reducible refine gate_dst (N := 5) rfl ?_); refine bxe (N := 5) (cs := #[.int .i8 a2_0, .int .i8 a2_1, .int .i8 a2_2, .int .i8 a2_3, .int .i8 a2_4, .int .i8 a2_5]) (t := 38) ?_; intro gb412 hg w59 hbox hb; have BK412 := am (hbox); have GW412 := am (gN hg (below_size (be HB))); have GE412 := am (gN hg (below_size (be HB))); have NB411_412 := nL BK411 hg; have NB412_411 := nR BK411 hg; replace BK411 := bB BK411 hb; replace HB := am (below_step (be HB) hb); clear hb hbox hg; have hnb60 := NB411_412.out; have hnc60 := NB412_411.out; obtain ⟨hcz61_0, hcz61_1, hwz61, haz61, hyz61, hvz61, hfz61_0, hfz61_1, hfz61_2⟩ := bb28 BK411; obtain ⟨hcz62_0, hcz62_1, hcz62_2, hcz62_3, hcz62_4, hcz62_5, hfz62_0, hfz62_1, hfz62_2, hfz62_3, hfz62_4, hfz62_5⟩ := bx6 BK412) | ((with_reducible refine gate_callee (f := 131) rfl ?_); refine gL (some 15) Try.func131 #[.agg (csBay a0_0 a0_1 a0_2), .slice A1 l1.length c1, .agg #[.int .i8 a2_0, .int .i8 a2_1, .int .i8 a2_2, .int .i8 a2_3, .int .i8 a2_4, .int .i8 a2_5]] ?_; (with_reducible refine (impl_withCode.calls k a0_0 a0_1 a0_2 _ _ l1 a2_0 a2_1 a2_2 a2_3 a2_4 a2_5 t413 _ ?side1 ?side2 A4.out).mono ?_); (case side1 => repeat (first | exact (Kd.C_below HR1.out HB.out) | (with_reducible refine Kd.C_alloc ?_ _) | (with_reducible refine Kd.C_drewN ?_ _) | (with_reducible refine Kd.C_drew ?_))); (case side2 => exact HC1.out); rintro e w63 ⟨rfl, hb⟩; refine ⟨_, rfl, ?_⟩; replace BK411 := bB BK411 hb; replace BK412 := bB BK412 hb; replace HB := am (below_step (be HB) hb); (try clear hb); (try clear hb2); (try clear hk); (try clear hi)))
  go_ret2
  exact ⟨_, by first | rfl | (simp [errW_none, errW_some] <;> rfl) | (simp [*, errW_none, errW_some] <;> rfl), by first | exact Kd.R_nil _ _ _ _ _ | exact Kd.N_nil _ _ _ _ _ | exact Kd.V_nil _ _ _ _ _ | exact Kd.Q_nil _ _ _ _ _ | exact Kd.S_nil _ _ _ _ _, be HB⟩

end Go.Proofs.Ytcollbifdfhfoaa.PFnExactPlacesFor
