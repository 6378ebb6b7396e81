-- Written by a program out of this seat's translation (functions, and that the code comes to them).
import Derived.Test.YtcollbifdfhfoaaPFnExactPlacesForx0
import Derived.Test.YtcollbifdfhfoaaPFnExactPlacesForx9
import Derived.Test.YtcollbifdfhfoaaPFnExactPlacesForx11
import Derived.Test.YtcollbifdfhfoaaPFnExactPlacesForx12
namespace Go.Proofs.Ytcollbifdfhfoaa.PFnExactPlacesFor
open Go.RowKit Go.Proofs.YtcollbifdfhfoaaW.PrintWords Go.Proofs.YtcollbifdfhfoaaW.PrintLast Go.Proofs.YtcollbifdfhfoaaW.PrintMore
attribute [local go_sem] max2_int min2_int max_two min_two max_three min_three max_four min_four   -- for this text's walks alone
open Go.Proofs.Ytcollbifdfhfoaa.Bay Go.Proofs.Ytcollbifdfhfoaa.Short
attribute [local go_sem ↓] lv26_eq lv28_eq
attribute [local go_sem] lvv_set lvv_drewN lvv_drew lv26_run BayAt26_set BayAt26_drewN BayAt26_drew lv28_run BayAt28_set BayAt28_drewN BayAt28_drew
set_option linter.unusedVariables false
set_option linter.unusedSimpArgs false

/-! ### impl_pairs: function 126 -/
mutual
def impl_pairs.l0 : Nat → List (S38) → List (S82) → List (S38) → Int → Int → Int → Int → (Nat → Int) → Option ((List (S82)))
 | 0, _, _, _, _, _, _, _, _ => none
 | k + 1, x1, x5, x10, x11, x12, x383000, x383001, x383002 => if x12 < x11 then (if 0 ≤ x12 then (if x12 < (x10.length : Int) then (impl_pairs.l1 k x1 x5 x12 (wrap64 (x12 + 1)) x10 x11 x12 x383000 x383001 x383002 ((rd_T38 x10 x12).f0.f0) ((rd_T38 x10 x12).f0.f1) ((rd_T38 x10 x12).f1) ((rd_T38 x10 x12).f2) ((rd_T38 x10 x12).f3) ((rd_T38 x10 x12).f4)) else (none)) else (none)) else (some x5)
def impl_pairs.l1 : Nat → List (S38) → List (S82) → Int → Int → List (S38) → Int → Int → Int → Int → (Nat → Int) → Int → Int → Int → Int → Int → Int → Option ((List (S82)))
 | 0, _, _, _, _, _, _, _, _, _, _, _, _, _, _, _, _ => none
 | k + 1, x1, x5, x6, x8, x10, x11, x12, x383000, x383001, x383002, x388000, x388001, x388002, x388003, x388004, x388005 => if x8 < (x1.length : Int) then (if 0 ≤ x8 then ((impl_touch.f k x383000 x383001 x383002 x388000 x388001 x388002 x388003 x388004 x388005 ((rd_T38 x1 x8).f0.f0) ((rd_T38 x1 x8).f0.f1) ((rd_T38 x1 x8).f1) ((rd_T38 x1 x8).f2) ((rd_T38 x1 x8).f3) ((rd_T38 x1 x8).f4)).bind fun t389 => (if t389 = true then (if x5.length < 8796093022208 then (impl_pairs.l1 k x1 (x5 ++ [(⟨x6, x8⟩ : S82)]) x6 (wrap64 (x8 + 1)) x10 x11 x12 x383000 x383001 x383002 x388000 x388001 x388002 x388003 x388004 x388005) else (none)) else (impl_pairs.l1 k x1 x5 x6 (wrap64 (x8 + 1)) x10 x11 x12 x383000 x383001 x383002 x388000 x388001 x388002 x388003 x388004 x388005))) else (none)) else (impl_pairs.l0 k x1 x5 x10 x11 (wrap64 (x12 + 1)) x383000 x383001 x383002)
end
def impl_pairs.f (k : Nat) (a0_0 : Int) (a0_1 : Int) (a0_2 : (Nat → Int)) (l1 : List (S38)) : Option ((List (S82))) := impl_pairs.l0 k l1 (([] : List (S82))) l1 (l1.length : Int) 0 a0_0 a0_1 a0_2
set_option maxHeartbeats 8000000 in
set_option maxRecDepth 100000 in
theorem impl_pairs.calls (k : Nat) (a0_0 : Int) (a0_1 : Int) (a0_2 : (Nat → Int)) (A1 : Option Addr) (c1 : Nat) (l1 : List (S38)) (r : List (S82)) (w : World) (hr1 : Kd.C k38 w A1 l1.length l1) (hc1 : l1.length ≤ c1) (h : impl_pairs.f k a0_0 a0_1 a0_2 l1 = some r) :
  Calls Try.prog 126 #[.agg (csBay a0_0 a0_1 a0_2), .slice A1 l1.length c1] w fun e w' => ∃ v0_ : Value, e = .returned (v0_) ∧ Kd.R k82 82 w' w.heap.size (fun _ => True) v0_ r ∧ Below w.heap.size w w' := by
 have hu28 := Try.underlying28
 have hu38 := Try.underlying38
 have hu82 := Try.underlying82
 have HR1 := am hr1
 have HC1 := am hc1
 clear hr1 hc1
 have HB := am (Below.refl w.heap.size w)
 have H : (impl_pairs.l0 k l1 (([] : List (S82))) l1 (l1.length : Int) 0 a0_0 a0_1 a0_2) = some r := h
 clear h
 obtain ⟨y383, hy383⟩ : ∃ y_ : List (S82), y_ = (([] : List (S82))) := ⟨_, rfl⟩
 replace H : (impl_pairs.l0 k l1 y383 l1 (l1.length : Int) 0 a0_0 a0_1 a0_2) = some r := by first | (rw [hy383]; with_reducible exact H) | (have H2_ := (Option.bind_some _ _).symm.trans H; rw [hy383]; with_reducible exact H2_) | (have H2_ := (Option.bind_some _ _).symm.trans H; with_reducible exact H2_) | with_reducible exact H | (rw [hy383]; exact H) | exact H
 have Ny383 := am hy383
 clear hy383
 have H' := am H
 clear H
 go_enter Try.func126, Try.ntmps126
 go_wp2_with (first | ((with_reducible refine gate_dst (N := 2) rfl ?_); refine bxe (N := 2) (cs := (csBay a0_0 a0_1 a0_2)) (t := 28) ?_; intro gb382 hg w3 hbox hb; have BK382 := am (hbox); have GW382 := am (gN hg (below_size (be HB))); have GE382 := am (gN hg (below_size (be HB))); replace HB := am (below_step (be HB) hb); clear hb hbox hg) | ((with_reducible refine gate_dst (N := 9) rfl ?_); refine Kd.R_lit k82 _ 82 ?hg (N := 9) ?hd (xs := ([] : List (S82))) (inner := []) (ok := fun _ => True) (okp := fun _ => True) ?hr ?hp (fun _ hk => hk) trivial (Below.refl _ _) (Nat.le_refl _) (by simp) ?_; (case hd => rfl); (case hg => rfl); (case hr => first | (go_simp; done) | (go_simp; rfl)); (case hp => exact (Reps.none _ _)); intro v384 w4 ho5 hb hg_ hnew_; clear hg_ hnew_; (first | rw [← Ny383.out] at ho5 | (simp only [Int.reduceToNat] at ho5; rw [← Ny383.out] at ho5)); have HO385 := am (Kd.R_lower ho5 (below_size (be HB))); replace BK382 := bB BK382 hb; replace HB := am (below_step (be HB) hb); clear hb ho5))
 go_loopg [5, 12] k (fun kq v5 v12 w' => ∃ (x5_1 : List (S82)) (x12_1 : Int), v12 = .int .i64 x12_1 ∧ Aside0 (impl_pairs.l0 kq l1 x5_1 l1 (l1.length : Int) x12_1 a0_0 a0_1 a0_2 = some r) ∧ Aside0 (kq ≤ k) ∧ Aside0 (Kd.R k82 82 w' w.heap.size (fun _ => True) v5 x5_1) ∧ Aside0 (w'.heap[gb382]? = some (.cells (csBay a0_0 a0_1 a0_2) 28 (0, 0))) ∧ Aside0 (Below w.heap.size w w'))
 case atStart => exact ⟨(y383), (0), vv, H', ⟨Nat.le_refl _⟩, ⟨kr HO385⟩, ⟨kb BK382⟩, ⟨be HB⟩⟩
 case round =>
  clear H'
  try clear c1
  try clear p2
  obtain ⟨x5_1, x12_1, rfl, HA, HK1, HO_5, BK382, HB⟩ := hrel
  cases gk with
  | zero => exact absurd HA.out (by simp [impl_pairs.l0])
  | succ k1 =>
   have H := HA.out
   clear HA
   simp only [impl_pairs.l0] at H
   by_cases c6 : x12_1 < (l1.length : Int)
   ·rw [if_pos c6] at H
    have c6b0 : decide (x12_1 < (l1.length : Int)) = true := decide_eq_true c6
    clear c6
    by_cases c7 : 0 ≤ x12_1
    ·rw [if_pos c7] at H
     have c7b0 : decide (0 ≤ x12_1) = true := decide_eq_true c7
     have c7b1 : 0 ≤ x12_1 := c7
     clear c7
     by_cases c8 : x12_1 < (l1.length : Int)
     ·rw [if_pos c8] at H
      have c8b0 : decide (x12_1 < (l1.length : Int)) = true := decide_eq_true c8
      clear c8
      have H' := am H
      clear H
      have p386 : 0 ≤ (x12_1 : Int) := of_decide_eq_true (by first | (with_reducible assumption) | assumption)
      have q386 : x12_1 < (l1.length : Int) := of_decide_eq_true (by first | (with_reducible assumption) | assumption)
      obtain ⟨ad386, e386, hx386_0, hx386_1, hx386_2, hx386_3, hx386_4, hx386_5⟩ := at_T38 HR1.out x12_1 p386 q386
      cases e386
      replace hx386_0 := (HB.out.cell (World.block_lt_of_cell? w _ hx386_0)).trans hx386_0
      replace hx386_1 := (HB.out.cell (World.block_lt_of_cell? w _ hx386_1)).trans hx386_1
      replace hx386_2 := (HB.out.cell (World.block_lt_of_cell? w _ hx386_2)).trans hx386_2
      replace hx386_3 := (HB.out.cell (World.block_lt_of_cell? w _ hx386_3)).trans hx386_3
      replace hx386_4 := (HB.out.cell (World.block_lt_of_cell? w _ hx386_4)).trans hx386_4
      replace hx386_5 := (HB.out.cell (World.block_lt_of_cell? w _ hx386_5)).trans hx386_5
      replace p386 := eq_true p386
      replace q386 := eq_true q386
      go_wp2_with (first | ((with_reducible refine gate_dst (N := 7) rfl ?_); refine bxe (N := 7) (cs := #[.int .i8 0, .int .i8 0, .int .i8 0, .int .i8 0, .int .i8 0, .int .i8 0]) (t := 38) ?_; intro gb387 hg w9 hbox hb; have BK387 := am (hbox); have GW387 := am (gN hg (below_size (be HB))); have GE387 := am (gN hg (below_size (be HB))); have NB382_387 := nL BK382 hg; have NB387_382 := nR BK382 hg; replace HO_5 := am (Kd.R_below (kr HO_5) hb); replace BK382 := bB BK382 hb; replace HB := am (below_step (be HB) hb); clear hb hbox hg; have hnb10 := NB387_382.out; have hnc10 := NB382_387.out; obtain ⟨hcz11_0, hcz11_1, hcz11_2, hcz11_3, hcz11_4, hcz11_5, hfz11_0, hfz11_1, hfz11_2, hfz11_3, hfz11_4, hfz11_5⟩ := bx6 BK387))
      go_loopg [5, 8] k1 (fun kq v5 v8 w' => ∃ (x5_2 : List (S82)) (x8_2 : Int), v8 = .int .i64 x8_2 ∧ Aside0 (impl_pairs.l1 kq l1 x5_2 x12_1 x8_2 l1 (l1.length : Int) x12_1 a0_0 a0_1 a0_2 ((rd_T38 l1 x12_1).f0.f0) ((rd_T38 l1 x12_1).f0.f1) ((rd_T38 l1 x12_1).f1) ((rd_T38 l1 x12_1).f2) ((rd_T38 l1 x12_1).f3) ((rd_T38 l1 x12_1).f4) = some r) ∧ Aside0 (kq ≤ k1) ∧ Aside0 (Kd.R k82 82 w' w.heap.size (fun _ => True) v5 x5_2) ∧ Aside0 (w'.heap[gb382]? = some (.cells (csBay a0_0 a0_1 a0_2) 28 (0, 0))) ∧ Aside0 (w'.heap[gb387]? = some (.cells #[.int .i8 ((rd_T38 l1 x12_1).f0.f0), .int .i8 ((rd_T38 l1 x12_1).f0.f1), .int .i8 ((rd_T38 l1 x12_1).f1), .int .i8 ((rd_T38 l1 x12_1).f2), .int .i8 ((rd_T38 l1 x12_1).f3), .int .i8 ((rd_T38 l1 x12_1).f4)] 38 (0, 0))) ∧ Aside0 (Below w.heap.size w w'))
      case atStart => exact ⟨(x5_1), (wrap64 (x12_1 + 1)), vv, H', ⟨Nat.le_refl _⟩, ⟨by (with_reducible repeat (first | apply Kd.R_alloc | apply Kd.R_drewN | apply Kd.R_drew)); exact Kd.R_mono (Kd.R_far (p := ⟨gb387, 5, none⟩) (Kd.R_far (p := ⟨gb387, 4, none⟩) (Kd.R_far (p := ⟨gb387, 3, none⟩) (Kd.R_far (p := ⟨gb387, 2, none⟩) (Kd.R_far (p := ⟨gb387, 1, none⟩) (Kd.R_far (p := ⟨gb387, 0, none⟩) (Kd.R_types HO_5.out BK387.out (by decide)) (fun _ hk => hk.2) (.int .i8 ((rd_T38 l1 x12_1).f0.f0))) (fun _ hk => hk.2) (.int .i8 ((rd_T38 l1 x12_1).f0.f1))) (fun _ hk => hk.2) (.int .i8 ((rd_T38 l1 x12_1).f1))) (fun _ hk => hk.2) (.int .i8 ((rd_T38 l1 x12_1).f2))) (fun _ hk => hk.2) (.int .i8 ((rd_T38 l1 x12_1).f3))) (fun _ hk => hk.2) (.int .i8 ((rd_T38 l1 x12_1).f4))) (fun _ hk => trivial)⟩, ⟨by (with_reducible repeat (first | refine blk_drewN ?_ _ | refine blk_drew ?_ | refine blk_alloc ?_ _)); refine blk_far ?_ NB382_387.out _; (with_reducible repeat (first | refine blk_drewN ?_ _ | refine blk_drew ?_ | refine blk_alloc ?_ _)); refine blk_far ?_ NB382_387.out _; (with_reducible repeat (first | refine blk_drewN ?_ _ | refine blk_drew ?_ | refine blk_alloc ?_ _)); refine blk_far ?_ NB382_387.out _; (with_reducible repeat (first | refine blk_drewN ?_ _ | refine blk_drew ?_ | refine blk_alloc ?_ _)); refine blk_far ?_ NB382_387.out _; (with_reducible repeat (first | refine blk_drewN ?_ _ | refine blk_drew ?_ | refine blk_alloc ?_ _)); refine blk_far ?_ NB382_387.out _; (with_reducible repeat (first | refine blk_drewN ?_ _ | refine blk_drew ?_ | refine blk_alloc ?_ _)); refine blk_far ?_ NB382_387.out _; exact kb BK382⟩, ⟨by (with_reducible repeat (first | refine blk_drewN ?_ _ | refine blk_drew ?_ | refine blk_alloc ?_ _)); refine blk_put (cs := #[.int .i8 ((rd_T38 l1 x12_1).f0.f0), .int .i8 ((rd_T38 l1 x12_1).f0.f1), .int .i8 ((rd_T38 l1 x12_1).f1), .int .i8 ((rd_T38 l1 x12_1).f2), .int .i8 ((rd_T38 l1 x12_1).f3), .int .i8 0]) ?_ 5 _ rfl; (with_reducible repeat (first | refine blk_drewN ?_ _ | refine blk_drew ?_ | refine blk_alloc ?_ _)); refine blk_put (cs := #[.int .i8 ((rd_T38 l1 x12_1).f0.f0), .int .i8 ((rd_T38 l1 x12_1).f0.f1), .int .i8 ((rd_T38 l1 x12_1).f1), .int .i8 ((rd_T38 l1 x12_1).f2), .int .i8 0, .int .i8 0]) ?_ 4 _ rfl; (with_reducible repeat (first | refine blk_drewN ?_ _ | refine blk_drew ?_ | refine blk_alloc ?_ _)); refine blk_put (cs := #[.int .i8 ((rd_T38 l1 x12_1).f0.f0), .int .i8 ((rd_T38 l1 x12_1).f0.f1), .int .i8 ((rd_T38 l1 x12_1).f1), .int .i8 0, .int .i8 0, .int .i8 0]) ?_ 3 _ rfl; (with_reducible repeat (first | refine blk_drewN ?_ _ | refine blk_drew ?_ | refine blk_alloc ?_ _)); refine blk_put (cs := #[.int .i8 ((rd_T38 l1 x12_1).f0.f0), .int .i8 ((rd_T38 l1 x12_1).f0.f1), .int .i8 0, .int .i8 0, .int .i8 0, .int .i8 0]) ?_ 2 _ rfl; (with_reducible repeat (first | refine blk_drewN ?_ _ | refine blk_drew ?_ | refine blk_alloc ?_ _)); refine blk_put (cs := #[.int .i8 ((rd_T38 l1 x12_1).f0.f0), .int .i8 0, .int .i8 0, .int .i8 0, .int .i8 0, .int .i8 0]) ?_ 1 _ rfl; (with_reducible repeat (first | refine blk_drewN ?_ _ | refine blk_drew ?_ | refine blk_alloc ?_ _)); refine blk_put (cs := #[.int .i8 0, .int .i8 0, .int .i8 0, .int .i8 0, .int .i8 0, .int .i8 0]) ?_ 0 _ rfl; exact kb BK387⟩, ⟨be HB⟩⟩
      case round =>
       clear H'
       try clear c1
       try clear p2
       try clear p3
       try clear q3
       try clear hx3
       try clear c6
       try clear c6b0
       try clear p6
       try clear c7
       try clear c7b0
       try clear c7b1
       try clear c8
       try clear c8b0
       try clear c10
       try clear hcz11_0
       try clear hcz11_1
       try clear hcz11_2
       try clear hcz11_3
       try clear hcz11_4
       try clear hcz11_5
       try clear hfz11_0
       try clear hfz11_1
       try clear hfz11_2
       try clear hfz11_3
       try clear hfz11_4
       try clear hfz11_5
       try clear hx386_0
       try clear hx386_1
       try clear hx386_2
       try clear hx386_3
       try clear hx386_4
       try clear hx386_5
       try clear p2
       try clear p386
       try clear q386
       obtain ⟨x5_2, x8_2, rfl, HA, HK2, HO_5, BK382, BK387, HB⟩ := hrel
       cases gk with
       | zero => exact absurd HA.out (by simp [impl_pairs.l1])
       | succ k2 =>
        have H := HA.out
        clear HA
        simp only [impl_pairs.l1] at H
        by_cases c12 : x8_2 < (l1.length : Int)
        ·rw [if_pos c12] at H
         have c12b0 : decide (x8_2 < (l1.length : Int)) = true := decide_eq_true c12
         clear c12
         by_cases c13 : 0 ≤ x8_2
         ·rw [if_pos c13] at H
          have c13b0 : decide (0 ≤ x8_2) = true := decide_eq_true c13
          have c13b1 : 0 ≤ x8_2 := c13
          clear c13
          replace H := Option.bind_eq_some_iff.mp H
          obtain ⟨t389, A140, H⟩ := H
          try dsimp only at H
          have A14 := am A140
          clear A140
          by_cases c15 : t389 = true
          ·subst c15
           rw [if_pos rfl] at H
           by_cases c16 : x5_2.length < 8796093022208
           ·rw [if_pos c16] at H
            have LMc16 := am c16
            clear c16
            obtain ⟨y390, hy390⟩ : ∃ y_ : List (S82), y_ = (x5_2 ++ [(⟨x12_1, x8_2⟩ : S82)]) := ⟨_, rfl⟩
            replace H : (impl_pairs.l1 k2 l1 y390 x12_1 (wrap64 (x8_2 + 1)) l1 (l1.length : Int) x12_1 a0_0 a0_1 a0_2 ((rd_T38 l1 x12_1).f0.f0) ((rd_T38 l1 x12_1).f0.f1) ((rd_T38 l1 x12_1).f1) ((rd_T38 l1 x12_1).f2) ((rd_T38 l1 x12_1).f3) ((rd_T38 l1 x12_1).f4)) = some r := by first | (rw [hy390]; with_reducible exact H) | (have H2_ := (Option.bind_some _ _).symm.trans H; rw [hy390]; with_reducible exact H2_) | (have H2_ := (Option.bind_some _ _).symm.trans H; with_reducible exact H2_) | with_reducible exact H | (rw [hy390]; exact H) | exact H
            have Ny390 := am hy390
            clear hy390
            have H' := am H
            clear H
            try go_wp2
            have n0_ := am (Kd.R_drew HO_5.out)
            have n1_ := am (blk_drew BK382.out)
            have n2_ := am (blk_drew BK387.out)
            have n3_ := am (below_drew1 HB.out)
            clear HO_5
            clear BK382
            clear BK387
            clear HB
            have HO_5 := n0_
            have BK382 := n1_
            have BK387 := n2_
            have HB := n3_
            clear n0_ n1_ n2_ n3_
            have p388 : 0 ≤ (x8_2 : Int) := of_decide_eq_true (by first | (with_reducible assumption) | assumption)
            have q388 : x8_2 < (l1.length : Int) := of_decide_eq_true (by first | (with_reducible assumption) | assumption)
            obtain ⟨ad388, e388, hx388_0, hx388_1, hx388_2, hx388_3, hx388_4, hx388_5⟩ := at_T38 HR1.out x8_2 p388 q388
            have hw388_5 := hx388_5
            have hw388_4 := hx388_4
            have hw388_3 := hx388_3
            have hw388_2 := hx388_2
            have hw388_1 := hx388_1
            have hw388_0 := hx388_0
            obtain rfl : ad386 = ad388 := (by injection e388)
            replace hx388_0 := (HB.out.cell (World.block_lt_of_cell? w _ hx388_0)).trans hx388_0
            replace hx388_1 := (HB.out.cell (World.block_lt_of_cell? w _ hx388_1)).trans hx388_1
            replace hx388_2 := (HB.out.cell (World.block_lt_of_cell? w _ hx388_2)).trans hx388_2
            replace hx388_3 := (HB.out.cell (World.block_lt_of_cell? w _ hx388_3)).trans hx388_3
            replace hx388_4 := (HB.out.cell (World.block_lt_of_cell? w _ hx388_4)).trans hx388_4
            replace hx388_5 := (HB.out.cell (World.block_lt_of_cell? w _ hx388_5)).trans hx388_5
            replace p388 := eq_true p388
            replace q388 := eq_true q388
            refine start_ (n := 7) (S := fun w' => w'.cell? ⟨gb382, 0, none⟩ = some (.int .i8 a0_0) ∧ w'.cell? ⟨gb382, 1, none⟩ = some (.int .i8 a0_1) ∧ atCells w' gb382 a0_2 ∧ BayAt28 w' gb382 ∧ lvv w' gb382 = .agg (csBay a0_0 a0_1 a0_2) ∧ w'.cell? ⟨gb387, 0, none⟩ = some (.int .i8 ((rd_T38 l1 x12_1).f0.f0)) ∧ w'.cell? ⟨gb387, 1, none⟩ = some (.int .i8 ((rd_T38 l1 x12_1).f0.f1)) ∧ w'.cell? ⟨gb387, 2, none⟩ = some (.int .i8 ((rd_T38 l1 x12_1).f1)) ∧ w'.cell? ⟨gb387, 3, none⟩ = some (.int .i8 ((rd_T38 l1 x12_1).f2)) ∧ w'.cell? ⟨gb387, 4, none⟩ = some (.int .i8 ((rd_T38 l1 x12_1).f3)) ∧ w'.cell? ⟨gb387, 5, none⟩ = some (.int .i8 ((rd_T38 l1 x12_1).f4)) ∧ w'.cell? (ad386.add ((x8_2).toNat * 6)) = some (.int .i8 ((rd_T38 l1 x8_2).f0.f0)) ∧ w'.cell? ⟨(ad386.add ((x8_2).toNat * 6)).block, (ad386.add ((x8_2).toNat * 6)).off + 1, none⟩ = some (.int .i8 ((rd_T38 l1 x8_2).f0.f1)) ∧ w'.cell? ⟨(ad386.add ((x8_2).toNat * 6)).block, (ad386.add ((x8_2).toNat * 6)).off + 2, none⟩ = some (.int .i8 ((rd_T38 l1 x8_2).f1)) ∧ w'.cell? ⟨(ad386.add ((x8_2).toNat * 6)).block, (ad386.add ((x8_2).toNat * 6)).off + 3, none⟩ = some (.int .i8 ((rd_T38 l1 x8_2).f2)) ∧ w'.cell? ⟨(ad386.add ((x8_2).toNat * 6)).block, (ad386.add ((x8_2).toNat * 6)).off + 4, none⟩ = some (.int .i8 ((rd_T38 l1 x8_2).f3)) ∧ w'.cell? ⟨(ad386.add ((x8_2).toNat * 6)).block, (ad386.add ((x8_2).toNat * 6)).off + 5, none⟩ = some (.int .i8 ((rd_T38 l1 x8_2).f4))) (ds := []) #[false, false, false, false, false, false, false] (by kernel_rfl) rfl rfl ⟨(blk_cell BK382.out 0).trans rfl, (blk_cell BK382.out 1).trans rfl, at_cells BK382.out, BayAt28_of BK382.out, lvv_of BK382.out, (blk_cell BK387.out 0).trans rfl, (blk_cell BK387.out 1).trans rfl, (blk_cell BK387.out 2).trans rfl, (blk_cell BK387.out 3).trans rfl, (blk_cell BK387.out 4).trans rfl, (blk_cell BK387.out 5).trans rfl, ((HB.out.cell (World.block_lt_of_cell? w _ hw388_0)).trans hw388_0), ((HB.out.cell (World.block_lt_of_cell? w _ hw388_1)).trans hw388_1), ((HB.out.cell (World.block_lt_of_cell? w _ hw388_2)).trans hw388_2), ((HB.out.cell (World.block_lt_of_cell? w _ hw388_3)).trans hw388_3), ((HB.out.cell (World.block_lt_of_cell? w _ hw388_4)).trans hw388_4), ((HB.out.cell (World.block_lt_of_cell? w _ hw388_5)).trans hw388_5)⟩ (fun hHeld => ?_)
            generalize wr.drew = w17 at HO_5 BK382 BK387 HB hx388_0 hx388_1 hx388_2 hx388_3 hx388_4 hx388_5 hHeld ⊢
            refine pure_ (i := 2) (N := some 27) (v := ?_) (a' := ?_) #[false, false, true, false, false, false, false] rfl rfl (by kernel_rfl) (fun _ _ _ h => h) (Or.inl ⟨by rfl, ?_⟩) ?_ ?_
            rotate_left
            ·intro w'
             go_simp
             with_reducible rfl
            rotate_left
            ·simp only [Act.put, List.setIfInBounds_toArray, List.set_cons_zero, List.set_cons_succ, i64_w, i32_w]
             rfl
            refine pure_ (i := 3) (N := some 28) (v := ?_) (a' := ?_) #[false, false, true, true, false, false, false] rfl rfl (by kernel_rfl) (fun _ _ _ h => h) (Or.inl ⟨by rfl, ?_⟩) ?_ ?_
            rotate_left
            ·intro w'
             go_simp
             with_reducible rfl
            rotate_left
            ·simp only [Act.put, List.setIfInBounds_toArray, List.set_cons_zero, List.set_cons_succ, i64_w, i32_w]
             rfl
            refine pure_ (i := 4) (N := some 29) (v := ?_) (a' := ?_) #[false, false, true, true, true, false, false] rfl rfl (by kernel_rfl) (fun _ _ _ h => h) (Or.inl ⟨by rfl, ?_⟩) ?_ ?_
            rotate_left
            ·intro w'
             go_simp
             with_reducible rfl
            rotate_left
            ·simp only [Act.put, List.setIfInBounds_toArray, List.set_cons_zero, List.set_cons_succ, i64_w, i32_w]
             rfl
            refine take_ (i := 0) (N := some 25) (v := ?_) (a' := ?_) #[true, false, true, true, true, false, false] rfl rfl (by kernel_rfl) (fun _ _ _ h => h) (Or.inl ⟨by rfl, ?_⟩) hHeld ?_ ?_
            rotate_left
            ·rintro w' ⟨s0, s1, s2, s3, s4, s5, s6, s7, s8, s9, s10, s11, s12, s13, s14, s15, s16⟩
             go_simp
             with_reducible rfl
            rotate_left
            ·simp only [Act.put, List.setIfInBounds_toArray, List.set_cons_zero, List.set_cons_succ, i64_w, i32_w]
             rfl
            refine take_ (i := 1) (N := some 26) (v := ?_) (a' := ?_) #[true, true, true, true, true, false, false] rfl rfl (by kernel_rfl) (fun _ _ _ h => h) (Or.inl ⟨by rfl, ?_⟩) hHeld ?_ ?_
            rotate_left
            ·rintro w' ⟨s0, s1, s2, s3, s4, s5, s6, s7, s8, s9, s10, s11, s12, s13, s14, s15, s16⟩
             go_simp
             with_reducible rfl
            rotate_left
            ·simp only [Act.put, List.setIfInBounds_toArray, List.set_cons_zero, List.set_cons_succ, i64_w, i32_w]
             rfl
            refine take_ (i := 5) (N := some 30) (v := ?_) (a' := ?_) #[true, true, true, true, true, true, false] rfl rfl (by kernel_rfl) (fun _ _ _ h => h) (Or.inl ⟨by rfl, ?_⟩) hHeld ?_ ?_
            rotate_left
            ·rintro w' ⟨s0, s1, s2, s3, s4, s5, s6, s7, s8, s9, s10, s11, s12, s13, s14, s15, s16⟩
             go_simp
             with_reducible rfl
            rotate_left
            ·simp only [Act.put, List.setIfInBounds_toArray, List.set_cons_zero, List.set_cons_succ, i64_w, i32_w]
             rfl
            refine one_ (i := 6) (N := some 31) #[true, true, true, true, true, true, true] rfl rfl (by kernel_rfl) (by decide) (fun K hK => ?_)
            refine goes_ Try.func119 (by kernel_rfl) rfl #[.agg (csBay a0_0 a0_1 a0_2), .agg #[.int .i8 ((rd_T38 l1 x12_1).f0.f0), .int .i8 ((rd_T38 l1 x12_1).f0.f1), .int .i8 ((rd_T38 l1 x12_1).f1), .int .i8 ((rd_T38 l1 x12_1).f2), .int .i8 ((rd_T38 l1 x12_1).f3), .int .i8 ((rd_T38 l1 x12_1).f4)], .agg #[.int .i8 ((rd_T38 l1 x8_2).f0.f0), .int .i8 ((rd_T38 l1 x8_2).f0.f1), .int .i8 ((rd_T38 l1 x8_2).f1), .int .i8 ((rd_T38 l1 x8_2).f2), .int .i8 ((rd_T38 l1 x8_2).f3), .int .i8 ((rd_T38 l1 x8_2).f4)]] (by rfl) rfl rfl (by (try simp only [List.map_toArray, List.map_cons, List.map_nil]); first | done | rfl | (simp only [List.length_drop, List.length_take]; rfl)) ?_
            with_reducible refine (impl_touch.calls k2 a0_0 a0_1 a0_2 ((rd_T38 l1 x12_1).f0.f0) ((rd_T38 l1 x12_1).f0.f1) ((rd_T38 l1 x12_1).f1) ((rd_T38 l1 x12_1).f2) ((rd_T38 l1 x12_1).f3) ((rd_T38 l1 x12_1).f4) ((rd_T38 l1 x8_2).f0.f0) ((rd_T38 l1 x8_2).f0.f1) ((rd_T38 l1 x8_2).f1) ((rd_T38 l1 x8_2).f2) ((rd_T38 l1 x8_2).f3) ((rd_T38 l1 x8_2).f4) true _ A14.out).mono ?_
            rintro e w18 ⟨rfl, hb⟩
            refine ⟨_, rfl, ?_⟩
            have n0_ := am (Kd.R_below (kr HO_5) hb)
            have n1_ := bB BK382 hb
            have n2_ := bB BK387 hb
            have n3_ := am (below_step (be HB) hb)
            clear HO_5
            clear BK382
            clear BK387
            clear HB
            have HO_5 := n0_
            have BK382 := n1_
            have BK387 := n2_
            have HB := n3_
            clear n0_ n1_ n2_ n3_
            (try clear hb)
            (try clear hb2)
            (try clear hk)
            (try clear hi)
            refine hK.out _ _ ⟨(blk_cell BK382.out 0).trans rfl, (blk_cell BK382.out 1).trans rfl, at_cells BK382.out, BayAt28_of BK382.out, lvv_of BK382.out, (blk_cell BK387.out 0).trans rfl, (blk_cell BK387.out 1).trans rfl, (blk_cell BK387.out 2).trans rfl, (blk_cell BK387.out 3).trans rfl, (blk_cell BK387.out 4).trans rfl, (blk_cell BK387.out 5).trans rfl, ((HB.out.cell (World.block_lt_of_cell? w _ hw388_0)).trans hw388_0), ((HB.out.cell (World.block_lt_of_cell? w _ hw388_1)).trans hw388_1), ((HB.out.cell (World.block_lt_of_cell? w _ hw388_2)).trans hw388_2), ((HB.out.cell (World.block_lt_of_cell? w _ hw388_3)).trans hw388_3), ((HB.out.cell (World.block_lt_of_cell? w _ hw388_4)).trans hw388_4), ((HB.out.cell (World.block_lt_of_cell? w _ hw388_5)).trans hw388_5)⟩ (fun hHeld => ?_)
            clear hK K
            refine norm_ (a' := ?_) ?_ ?_
            rotate_left
            ·show Act.put _ (some 31) _ = _
             simp only [Act.put, List.setIfInBounds_toArray, List.set_cons_zero, List.set_cons_succ, i64_w, i32_w]
             rfl
            refine done_ (by kernel_rfl) ?_
            try go_wp2_with (first | ((with_reducible refine gate_builtin (b := .append) (xs := #[.tmp 32, .tmp 36]) rfl ?_); at_builtin; refine Kd.R_append k82 (w0 := w) w.heap.size rfl (.tmp 32) (.tmp 36) 61 82 (.agg #[(.int .i64 0), (.int .i64 0)]) 16 rfl Try.underlying61 info82 rfl (by decide) (by omega) u5 x5_2 (⟨x12_1, x8_2⟩ : S82) [.int .i64 x12_1, .int .i64 x8_2] (fun _ => True) (fun _ => False) rfl rfl ?aP (fun _ hk => hk.elim) ?aF ?aO ?aB ?aS ?aL ?_; (case aP => exact k82_mkM _ _ _ (⟨x12_1, x8_2⟩ : S82)); (case aB => exact (be HB)); (case aF => exact (fun _ _ => trivial)); (case aO => exact (kr HO_5)); (case aS => exact (below_size (be HB))); (case aL => have := LMc16.out; omega); intro v391 w19 ho hb hg hat; rw [← Ny390.out] at ho; have HO392 := am (ho); replace BK382 := am (blk_grown (g := gb382) (o := .cells (csBay a0_0 a0_1 a0_2) 28 (0, 0)) (kb BK382) hg (Kd.R_ne HO_5.out BK382.out (by decide))); replace BK387 := am (blk_grown (g := gb387) (o := .cells #[.int .i8 ((rd_T38 l1 x12_1).f0.f0), .int .i8 ((rd_T38 l1 x12_1).f0.f1), .int .i8 ((rd_T38 l1 x12_1).f1), .int .i8 ((rd_T38 l1 x12_1).f2), .int .i8 ((rd_T38 l1 x12_1).f3), .int .i8 ((rd_T38 l1 x12_1).f4)] 38 (0, 0)) (kb BK387) hg (Kd.R_ne HO_5.out BK387.out (by decide))); replace HB := am (hb); clear HO_5; clear ho hb hg hat))
            go_roundg k2
            case measure => have := HK1.out; have := HK2.out; omega
            case rel => exact ⟨(y390), (wrap64 (x8_2 + 1)), vv, H', ⟨by have := HK1.out; have := HK2.out; omega⟩, ⟨kr HO392⟩, ⟨kb BK382⟩, ⟨kb BK387⟩, ⟨be HB⟩⟩
           ·rw [if_neg c16] at H
            exact absurd H (by simp)
          ·replace c15 := Bool.eq_false_iff.mpr c15
           subst c15
           have H1 : (impl_pairs.l1 k2 l1 x5_2 x12_1 (wrap64 (x8_2 + 1)) l1 (l1.length : Int) x12_1 a0_0 a0_1 a0_2 ((rd_T38 l1 x12_1).f0.f0) ((rd_T38 l1 x12_1).f0.f1) ((rd_T38 l1 x12_1).f1) ((rd_T38 l1 x12_1).f2) ((rd_T38 l1 x12_1).f3) ((rd_T38 l1 x12_1).f4)) = some r := by rw [if_neg (show ¬ (false = true) by decide)] at H; exact H
           clear H
           have H := H1
           clear H1
           have H' := am H
           clear H
           try go_wp2
           have n0_ := am (Kd.R_drew HO_5.out)
           have n1_ := am (blk_drew BK382.out)
           have n2_ := am (blk_drew BK387.out)
           have n3_ := am (below_drew1 HB.out)
           clear HO_5
           clear BK382
           clear BK387
           clear HB
           have HO_5 := n0_
           have BK382 := n1_
           have BK387 := n2_
           have HB := n3_
           clear n0_ n1_ n2_ n3_
           have p388 : 0 ≤ (x8_2 : Int) := of_decide_eq_true (by first | (with_reducible assumption) | assumption)
           have q388 : x8_2 < (l1.length : Int) := of_decide_eq_true (by first | (with_reducible assumption) | assumption)
           obtain ⟨ad388, e388, hx388_0, hx388_1, hx388_2, hx388_3, hx388_4, hx388_5⟩ := at_T38 HR1.out x8_2 p388 q388
           have hw388_5 := hx388_5
           have hw388_4 := hx388_4
           have hw388_3 := hx388_3
           have hw388_2 := hx388_2
           have hw388_1 := hx388_1
           have hw388_0 := hx388_0
           obtain rfl : ad386 = ad388 := (by injection e388)
           replace hx388_0 := (HB.out.cell (World.block_lt_of_cell? w _ hx388_0)).trans hx388_0
           replace hx388_1 := (HB.out.cell (World.block_lt_of_cell? w _ hx388_1)).trans hx388_1
           replace hx388_2 := (HB.out.cell (World.block_lt_of_cell? w _ hx388_2)).trans hx388_2
           replace hx388_3 := (HB.out.cell (World.block_lt_of_cell? w _ hx388_3)).trans hx388_3
           replace hx388_4 := (HB.out.cell (World.block_lt_of_cell? w _ hx388_4)).trans hx388_4
           replace hx388_5 := (HB.out.cell (World.block_lt_of_cell? w _ hx388_5)).trans hx388_5
           replace p388 := eq_true p388
           replace q388 := eq_true q388
           refine start_ (n := 7) (S := fun w' => w'.cell? ⟨gb382, 0, none⟩ = some (.int .i8 a0_0) ∧ w'.cell? ⟨gb382, 1, none⟩ = some (.int .i8 a0_1) ∧ atCells w' gb382 a0_2 ∧ BayAt28 w' gb382 ∧ lvv w' gb382 = .agg (csBay a0_0 a0_1 a0_2) ∧ w'.cell? ⟨gb387, 0, none⟩ = some (.int .i8 ((rd_T38 l1 x12_1).f0.f0)) ∧ w'.cell? ⟨gb387, 1, none⟩ = some (.int .i8 ((rd_T38 l1 x12_1).f0.f1)) ∧ w'.cell? ⟨gb387, 2, none⟩ = some (.int .i8 ((rd_T38 l1 x12_1).f1)) ∧ w'.cell? ⟨gb387, 3, none⟩ = some (.int .i8 ((rd_T38 l1 x12_1).f2)) ∧ w'.cell? ⟨gb387, 4, none⟩ = some (.int .i8 ((rd_T38 l1 x12_1).f3)) ∧ w'.cell? ⟨gb387, 5, none⟩ = some (.int .i8 ((rd_T38 l1 x12_1).f4)) ∧ w'.cell? (ad386.add ((x8_2).toNat * 6)) = some (.int .i8 ((rd_T38 l1 x8_2).f0.f0)) ∧ w'.cell? ⟨(ad386.add ((x8_2).toNat * 6)).block, (ad386.add ((x8_2).toNat * 6)).off + 1, none⟩ = some (.int .i8 ((rd_T38 l1 x8_2).f0.f1)) ∧ w'.cell? ⟨(ad386.add ((x8_2).toNat * 6)).block, (ad386.add ((x8_2).toNat * 6)).off + 2, none⟩ = some (.int .i8 ((rd_T38 l1 x8_2).f1)) ∧ w'.cell? ⟨(ad386.add ((x8_2).toNat * 6)).block, (ad386.add ((x8_2).toNat * 6)).off + 3, none⟩ = some (.int .i8 ((rd_T38 l1 x8_2).f2)) ∧ w'.cell? ⟨(ad386.add ((x8_2).toNat * 6)).block, (ad386.add ((x8_2).toNat * 6)).off + 4, none⟩ = some (.int .i8 ((rd_T38 l1 x8_2).f3)) ∧ w'.cell? ⟨(ad386.add ((x8_2).toNat * 6)).block, (ad386.add ((x8_2).toNat * 6)).off + 5, none⟩ = some (.int .i8 ((rd_T38 l1 x8_2).f4))) (ds := []) #[false, false, false, false, false, false, false] (by kernel_rfl) rfl rfl ⟨(blk_cell BK382.out 0).trans rfl, (blk_cell BK382.out 1).trans rfl, at_cells BK382.out, BayAt28_of BK382.out, lvv_of BK382.out, (blk_cell BK387.out 0).trans rfl, (blk_cell BK387.out 1).trans rfl, (blk_cell BK387.out 2).trans rfl, (blk_cell BK387.out 3).trans rfl, (blk_cell BK387.out 4).trans rfl, (blk_cell BK387.out 5).trans rfl, ((HB.out.cell (World.block_lt_of_cell? w _ hw388_0)).trans hw388_0), ((HB.out.cell (World.block_lt_of_cell? w _ hw388_1)).trans hw388_1), ((HB.out.cell (World.block_lt_of_cell? w _ hw388_2)).trans hw388_2), ((HB.out.cell (World.block_lt_of_cell? w _ hw388_3)).trans hw388_3), ((HB.out.cell (World.block_lt_of_cell? w _ hw388_4)).trans hw388_4), ((HB.out.cell (World.block_lt_of_cell? w _ hw388_5)).trans hw388_5)⟩ (fun hHeld => ?_)
           generalize wr.drew = w20 at HO_5 BK382 BK387 HB hx388_0 hx388_1 hx388_2 hx388_3 hx388_4 hx388_5 hHeld ⊢
           refine pure_ (i := 2) (N := some 27) (v := ?_) (a' := ?_) #[false, false, true, false, false, false, false] rfl rfl (by kernel_rfl) (fun _ _ _ h => h) (Or.inl ⟨by rfl, ?_⟩) ?_ ?_
           rotate_left
           ·intro w'
            go_simp
            with_reducible rfl
           rotate_left
           ·simp only [Act.put, List.setIfInBounds_toArray, List.set_cons_zero, List.set_cons_succ, i64_w, i32_w]
            rfl
           refine pure_ (i := 3) (N := some 28) (v := ?_) (a' := ?_) #[false, false, true, true, false, false, false] rfl rfl (by kernel_rfl) (fun _ _ _ h => h) (Or.inl ⟨by rfl, ?_⟩) ?_ ?_
           rotate_left
           ·intro w'
            go_simp
            with_reducible rfl
           rotate_left
           ·simp only [Act.put, List.setIfInBounds_toArray, List.set_cons_zero, List.set_cons_succ, i64_w, i32_w]
            rfl
           refine pure_ (i := 4) (N := some 29) (v := ?_) (a' := ?_) #[false, false, true, true, true, false, false] rfl rfl (by kernel_rfl) (fun _ _ _ h => h) (Or.inl ⟨by rfl, ?_⟩) ?_ ?_
           rotate_left
           ·intro w'
            go_simp
            with_reducible rfl
           rotate_left
           ·simp only [Act.put, List.setIfInBounds_toArray, List.set_cons_zero, List.set_cons_succ, i64_w, i32_w]
            rfl
           refine take_ (i := 0) (N := some 25) (v := ?_) (a' := ?_) #[true, false, true, true, true, false, false] rfl rfl (by kernel_rfl) (fun _ _ _ h => h) (Or.inl ⟨by rfl, ?_⟩) hHeld ?_ ?_
           rotate_left
           ·rintro w' ⟨s0, s1, s2, s3, s4, s5, s6, s7, s8, s9, s10, s11, s12, s13, s14, s15, s16⟩
            go_simp
            with_reducible rfl
           rotate_left
           ·simp only [Act.put, List.setIfInBounds_toArray, List.set_cons_zero, List.set_cons_succ, i64_w, i32_w]
            rfl
           refine take_ (i := 1) (N := some 26) (v := ?_) (a' := ?_) #[true, true, true, true, true, false, false] rfl rfl (by kernel_rfl) (fun _ _ _ h => h) (Or.inl ⟨by rfl, ?_⟩) hHeld ?_ ?_
           rotate_left
           ·rintro w' ⟨s0, s1, s2, s3, s4, s5, s6, s7, s8, s9, s10, s11, s12, s13, s14, s15, s16⟩
            go_simp
            with_reducible rfl
           rotate_left
           ·simp only [Act.put, List.setIfInBounds_toArray, List.set_cons_zero, List.set_cons_succ, i64_w, i32_w]
            rfl
           refine take_ (i := 5) (N := some 30) (v := ?_) (a' := ?_) #[true, true, true, true, true, true, false] rfl rfl (by kernel_rfl) (fun _ _ _ h => h) (Or.inl ⟨by rfl, ?_⟩) hHeld ?_ ?_
           rotate_left
           ·rintro w' ⟨s0, s1, s2, s3, s4, s5, s6, s7, s8, s9, s10, s11, s12, s13, s14, s15, s16⟩
            go_simp
            with_reducible rfl
           rotate_left
           ·simp only [Act.put, List.setIfInBounds_toArray, List.set_cons_zero, List.set_cons_succ, i64_w, i32_w]
            rfl
           refine one_ (i := 6) (N := some 31) #[true, true, true, true, true, true, true] rfl rfl (by kernel_rfl) (by decide) (fun K hK => ?_)
           refine goes_ Try.func119 (by kernel_rfl) rfl #[.agg (csBay a0_0 a0_1 a0_2), .agg #[.int .i8 ((rd_T38 l1 x12_1).f0.f0), .int .i8 ((rd_T38 l1 x12_1).f0.f1), .int .i8 ((rd_T38 l1 x12_1).f1), .int .i8 ((rd_T38 l1 x12_1).f2), .int .i8 ((rd_T38 l1 x12_1).f3), .int .i8 ((rd_T38 l1 x12_1).f4)], .agg #[.int .i8 ((rd_T38 l1 x8_2).f0.f0), .int .i8 ((rd_T38 l1 x8_2).f0.f1), .int .i8 ((rd_T38 l1 x8_2).f1), .int .i8 ((rd_T38 l1 x8_2).f2), .int .i8 ((rd_T38 l1 x8_2).f3), .int .i8 ((rd_T38 l1 x8_2).f4)]] (by rfl) rfl rfl (by (try simp only [List.map_toArray, List.map_cons, List.map_nil]); first | done | rfl | (simp only [List.length_drop, List.length_take]; rfl)) ?_
           with_reducible refine (impl_touch.calls k2 a0_0 a0_1 a0_2 ((rd_T38 l1 x12_1).f0.f0) ((rd_T38 l1 x12_1).f0.f1) ((rd_T38 l1 x12_1).f1) ((rd_T38 l1 x12_1).f2) ((rd_T38 l1 x12_1).f3) ((rd_T38 l1 x12_1).f4) ((rd_T38 l1 x8_2).f0.f0) ((rd_T38 l1 x8_2).f0.f1) ((rd_T38 l1 x8_2).f1) ((rd_T38 l1 x8_2).f2) ((rd_T38 l1 x8_2).f3) ((rd_T38 l1 x8_2).f4) false _ A14.out).mono ?_
           rintro e w21 ⟨rfl, hb⟩
           refine ⟨_, rfl, ?_⟩
           have n0_ := am (Kd.R_below (kr HO_5) hb)
           have n1_ := bB BK382 hb
           have n2_ := bB BK387 hb
           have n3_ := am (below_step (be HB) hb)
           clear HO_5
           clear BK382
           clear BK387
           clear HB
           have HO_5 := n0_
           have BK382 := n1_
           have BK387 := n2_
           have HB := n3_
           clear n0_ n1_ n2_ n3_
           (try clear hb)
           (try clear hb2)
           (try clear hk)
           (try clear hi)
           refine hK.out _ _ ⟨(blk_cell BK382.out 0).trans rfl, (blk_cell BK382.out 1).trans rfl, at_cells BK382.out, BayAt28_of BK382.out, lvv_of BK382.out, (blk_cell BK387.out 0).trans rfl, (blk_cell BK387.out 1).trans rfl, (blk_cell BK387.out 2).trans rfl, (blk_cell BK387.out 3).trans rfl, (blk_cell BK387.out 4).trans rfl, (blk_cell BK387.out 5).trans rfl, ((HB.out.cell (World.block_lt_of_cell? w _ hw388_0)).trans hw388_0), ((HB.out.cell (World.block_lt_of_cell? w _ hw388_1)).trans hw388_1), ((HB.out.cell (World.block_lt_of_cell? w _ hw388_2)).trans hw388_2), ((HB.out.cell (World.block_lt_of_cell? w _ hw388_3)).trans hw388_3), ((HB.out.cell (World.block_lt_of_cell? w _ hw388_4)).trans hw388_4), ((HB.out.cell (World.block_lt_of_cell? w _ hw388_5)).trans hw388_5)⟩ (fun hHeld => ?_)
           clear hK K
           refine norm_ (a' := ?_) ?_ ?_
           rotate_left
           ·show Act.put _ (some 31) _ = _
            simp only [Act.put, List.setIfInBounds_toArray, List.set_cons_zero, List.set_cons_succ, i64_w, i32_w]
            rfl
           refine done_ (by kernel_rfl) ?_
           try go_wp2
           go_roundg k2
           case measure => have := HK1.out; have := HK2.out; omega
           case rel => exact ⟨(x5_2), (wrap64 (x8_2 + 1)), vv, H', ⟨by have := HK1.out; have := HK2.out; omega⟩, ⟨kr HO_5⟩, ⟨kb BK382⟩, ⟨kb BK387⟩, ⟨be HB⟩⟩
         ·rw [if_neg c13] at H
          exact absurd H (by simp)
        ·rw [if_neg c12] at H
         have c12b0 : decide (x8_2 < (l1.length : Int)) = false := decide_eq_false c12
         clear c12
         have H' := am H
         clear H
         go_wp2
         go_roundg k2
         case measure => have := HK1.out; have := HK2.out; omega
         case rel => exact ⟨(x5_2), (wrap64 (x12_1 + 1)), vv, H', ⟨by have := HK1.out; have := HK2.out; omega⟩, ⟨kr HO_5⟩, ⟨kb BK382⟩, ⟨be HB⟩⟩
     ·rw [if_neg c8] at H
      exact absurd H (by simp)
    ·rw [if_neg c7] at H
     exact absurd H (by simp)
   ·rw [if_neg c6] at H
    have c6b0 : decide (x12_1 < (l1.length : Int)) = false := decide_eq_false c6
    clear c6
    obtain rfl := Option.some.inj H
    go_wp2
    go_ret
    exact ⟨_, by first | rfl | (simp [errW_none, errW_some] <;> rfl) | (simp [*, errW_none, errW_some] <;> rfl), by (with_reducible repeat (first | apply Kd.R_alloc | apply Kd.R_drewN | apply Kd.R_drew)); exact HO_5.out, be HB⟩

/-! ### impl_right: function 129 -/
def impl_right.l0 : Nat → List (S38) → List (S38) → Int → Int → Int → Int → (Nat → Int) → Option (Bool)
 | 0, _, _, _, _, _, _, _ => none
 | k + 1, x1, x7, x8, x9, x394000, x394001, x394002 => if x9 < x8 then (if 0 ≤ x9 then (if x9 < (x7.length : Int) then ((impl_safe.f k x394000 x394001 x394002 ((rd_T38 x7 x9).f0.f0) ((rd_T38 x7 x9).f0.f1) ((rd_T38 x7 x9).f1) ((rd_T38 x7 x9).f2) ((rd_T38 x7 x9).f3) ((rd_T38 x7 x9).f4)).bind fun t396 => (if t396 = true then (impl_right.l0 k x1 x7 x8 (wrap64 (x9 + 1)) x394000 x394001 x394002) else (some false))) else (none)) else (none)) else ((impl_pairs.f k x394000 x394001 x394002 x1).bind fun t397 => (some ((t397.length : Int) == 0)))
def impl_right.f (k : Nat) (a0_0 : Int) (a0_1 : Int) (a0_2 : (Nat → Int)) (l1 : List (S38)) : Option (Bool) := impl_right.l0 k l1 l1 (l1.length : Int) 0 a0_0 a0_1 a0_2
set_option maxHeartbeats 8000000 in
set_option maxRecDepth 100000 in
theorem impl_right.calls (k : Nat) (a0_0 : Int) (a0_1 : Int) (a0_2 : (Nat → Int)) (A1 : Option Addr) (c1 : Nat) (l1 : List (S38)) (r : Bool) (w : World) (hr1 : Kd.C k38 w A1 l1.length l1) (hc1 : l1.length ≤ c1) (h : impl_right.f k a0_0 a0_1 a0_2 l1 = some r) :
  Calls Try.prog 129 #[.agg (csBay a0_0 a0_1 a0_2), .slice A1 l1.length c1] w fun e w' => e = .returned (.bool r) ∧ Below w.heap.size w w' := by
 have hu28 := Try.underlying28
 have hu38 := Try.underlying38
 have HR1 := am hr1
 have HC1 := am hc1
 clear hr1 hc1
 have HB := am (Below.refl w.heap.size w)
 have H : (impl_right.l0 k l1 l1 (l1.length : Int) 0 a0_0 a0_1 a0_2) = some r := h
 clear h
 have H' := am H
 clear H
 go_enter Try.func129, Try.ntmps129
 go_wp2_with (first | ((with_reducible refine gate_dst (N := 2) rfl ?_); refine bxe (N := 2) (cs := (csBay a0_0 a0_1 a0_2)) (t := 28) ?_; intro gb393 hg w3 hbox hb; have BK393 := am (hbox); have GW393 := am (gN hg (below_size (be HB))); have GE393 := am (gN hg (below_size (be HB))); replace HB := am (below_step (be HB) hb); clear hb hbox hg))
 go_loopg [9] k (fun kq v9 w' => ∃ (x9_1 : Int), v9 = .int .i64 x9_1 ∧ Aside0 (impl_right.l0 kq l1 l1 (l1.length : Int) x9_1 a0_0 a0_1 a0_2 = some r) ∧ Aside0 (kq ≤ k) ∧ Aside0 (w'.heap[gb393]? = some (.cells (csBay a0_0 a0_1 a0_2) 28 (0, 0))) ∧ Aside0 (Below w.heap.size w w'))
 case atStart => exact ⟨(0), vv, H', ⟨Nat.le_refl _⟩, ⟨kb BK393⟩, ⟨be HB⟩⟩
 case round =>
  clear H'
  try clear c1
  try clear p2
  obtain ⟨x9_1, rfl, HA, HK1, BK393, HB⟩ := hrel
  cases gk with
  | zero => exact absurd HA.out (by simp [impl_right.l0])
  | succ k1 =>
   have H := HA.out
   clear HA
   simp only [impl_right.l0] at H
   by_cases c4 : x9_1 < (l1.length : Int)
   ·rw [if_pos c4] at H
    have c4b0 : decide (x9_1 < (l1.length : Int)) = true := decide_eq_true c4
    clear c4
    by_cases c5 : 0 ≤ x9_1
    ·rw [if_pos c5] at H
     have c5b0 : decide (0 ≤ x9_1) = true := decide_eq_true c5
     have c5b1 : 0 ≤ x9_1 := c5
     clear c5
     by_cases c6 : x9_1 < (l1.length : Int)
     ·rw [if_pos c6] at H
      have c6b0 : decide (x9_1 < (l1.length : Int)) = true := decide_eq_true c6
      clear c6
      replace H := Option.bind_eq_some_iff.mp H
      obtain ⟨t396, A70, H⟩ := H
      try dsimp only at H
      have A7 := am A70
      clear A70
      by_cases c8 : t396 = true
      ·subst c8
       rw [if_pos rfl] at H
       have H' := am H
       clear H
       have p394 : 0 ≤ (x9_1 : Int) := of_decide_eq_true (by first | (with_reducible assumption) | assumption)
       have q394 : x9_1 < (l1.length : Int) := of_decide_eq_true (by first | (with_reducible assumption) | assumption)
       obtain ⟨ad394, e394, hx394_0, hx394_1, hx394_2, hx394_3, hx394_4, hx394_5⟩ := at_T38 HR1.out x9_1 p394 q394
       cases e394
       replace hx394_0 := (HB.out.cell (World.block_lt_of_cell? w _ hx394_0)).trans hx394_0
       replace hx394_1 := (HB.out.cell (World.block_lt_of_cell? w _ hx394_1)).trans hx394_1
       replace hx394_2 := (HB.out.cell (World.block_lt_of_cell? w _ hx394_2)).trans hx394_2
       replace hx394_3 := (HB.out.cell (World.block_lt_of_cell? w _ hx394_3)).trans hx394_3
       replace hx394_4 := (HB.out.cell (World.block_lt_of_cell? w _ hx394_4)).trans hx394_4
       replace hx394_5 := (HB.out.cell (World.block_lt_of_cell? w _ hx394_5)).trans hx394_5
       replace p394 := eq_true p394
       replace q394 := eq_true q394
       go_wp2_with (first | ((with_reducible refine gate_dst (N := 6) rfl ?_); refine bxe (N := 6) (cs := #[.int .i8 0, .int .i8 0, .int .i8 0, .int .i8 0, .int .i8 0, .int .i8 0]) (t := 38) ?_; intro gb395 hg w9 hbox hb; have BK395 := am (hbox); have GW395 := am (gN hg (below_size (be HB))); have GE395 := am (gN hg (below_size (be HB))); have NB393_395 := nL BK393 hg; have NB395_393 := nR BK393 hg; replace BK393 := bB BK393 hb; replace HB := am (below_step (be HB) hb); clear hb hbox hg; have hnb10 := NB395_393.out; have hnc10 := NB393_395.out; obtain ⟨hcz11_0, hcz11_1, hcz11_2, hcz11_3, hcz11_4, hcz11_5, hfz11_0, hfz11_1, hfz11_2, hfz11_3, hfz11_4, hfz11_5⟩ := bx6 BK395; obtain ⟨hcz12_0, hcz12_1, hwz12, haz12, hyz12, hvz12, hfz12_0, hfz12_1, hfz12_2⟩ := bb28 BK393) | ((with_reducible refine gate_callee (f := 121) rfl ?_); refine gL (some 15) Try.func121 #[.agg (csBay a0_0 a0_1 a0_2), .agg #[.int .i8 ((rd_T38 l1 x9_1).f0.f0), .int .i8 ((rd_T38 l1 x9_1).f0.f1), .int .i8 ((rd_T38 l1 x9_1).f1), .int .i8 ((rd_T38 l1 x9_1).f2), .int .i8 ((rd_T38 l1 x9_1).f3), .int .i8 ((rd_T38 l1 x9_1).f4)]] ?_; (with_reducible refine (impl_safe.calls k1 a0_0 a0_1 a0_2 ((rd_T38 l1 x9_1).f0.f0) ((rd_T38 l1 x9_1).f0.f1) ((rd_T38 l1 x9_1).f1) ((rd_T38 l1 x9_1).f2) ((rd_T38 l1 x9_1).f3) ((rd_T38 l1 x9_1).f4) true _ A7.out).mono ?_); rintro e w13 ⟨rfl, hb⟩; refine ⟨_, rfl, ?_⟩; replace BK393 := am (blk_below (g := gb393) (o := .cells (csBay a0_0 a0_1 a0_2) 28 (0, 0)) (by (with_reducible repeat (first | refine blk_drewN ?_ _ | refine blk_drew ?_ | refine blk_alloc ?_ _)); refine blk_far ?_ NB393_395.out _; (with_reducible repeat (first | refine blk_drewN ?_ _ | refine blk_drew ?_ | refine blk_alloc ?_ _)); refine blk_far ?_ NB393_395.out _; (with_reducible repeat (first | refine blk_drewN ?_ _ | refine blk_drew ?_ | refine blk_alloc ?_ _)); refine blk_far ?_ NB393_395.out _; (with_reducible repeat (first | refine blk_drewN ?_ _ | refine blk_drew ?_ | refine blk_alloc ?_ _)); refine blk_far ?_ NB393_395.out _; (with_reducible repeat (first | refine blk_drewN ?_ _ | refine blk_drew ?_ | refine blk_alloc ?_ _)); refine blk_far ?_ NB393_395.out _; (with_reducible repeat (first | refine blk_drewN ?_ _ | refine blk_drew ?_ | refine blk_alloc ?_ _)); refine blk_far ?_ NB393_395.out _; exact kb BK393) hb); replace BK395 := am (blk_below (g := gb395) (o := .cells #[.int .i8 ((rd_T38 l1 x9_1).f0.f0), .int .i8 ((rd_T38 l1 x9_1).f0.f1), .int .i8 ((rd_T38 l1 x9_1).f1), .int .i8 ((rd_T38 l1 x9_1).f2), .int .i8 ((rd_T38 l1 x9_1).f3), .int .i8 ((rd_T38 l1 x9_1).f4)] 38 (0, 0)) (by (with_reducible repeat (first | refine blk_drewN ?_ _ | refine blk_drew ?_ | refine blk_alloc ?_ _)); refine blk_put (cs := #[.int .i8 ((rd_T38 l1 x9_1).f0.f0), .int .i8 ((rd_T38 l1 x9_1).f0.f1), .int .i8 ((rd_T38 l1 x9_1).f1), .int .i8 ((rd_T38 l1 x9_1).f2), .int .i8 ((rd_T38 l1 x9_1).f3), .int .i8 0]) ?_ 5 _ rfl; (with_reducible repeat (first | refine blk_drewN ?_ _ | refine blk_drew ?_ | refine blk_alloc ?_ _)); refine blk_put (cs := #[.int .i8 ((rd_T38 l1 x9_1).f0.f0), .int .i8 ((rd_T38 l1 x9_1).f0.f1), .int .i8 ((rd_T38 l1 x9_1).f1), .int .i8 ((rd_T38 l1 x9_1).f2), .int .i8 0, .int .i8 0]) ?_ 4 _ rfl; (with_reducible repeat (first | refine blk_drewN ?_ _ | refine blk_drew ?_ | refine blk_alloc ?_ _)); refine blk_put (cs := #[.int .i8 ((rd_T38 l1 x9_1).f0.f0), .int .i8 ((rd_T38 l1 x9_1).f0.f1), .int .i8 ((rd_T38 l1 x9_1).f1), .int .i8 0, .int .i8 0, .int .i8 0]) ?_ 3 _ rfl; (with_reducible repeat (first | refine blk_drewN ?_ _ | refine blk_drew ?_ | refine blk_alloc ?_ _)); refine blk_put (cs := #[.int .i8 ((rd_T38 l1 x9_1).f0.f0), .int .i8 ((rd_T38 l1 x9_1).f0.f1), .int .i8 0, .int .i8 0, .int .i8 0, .int .i8 0]) ?_ 2 _ rfl; (with_reducible repeat (first | refine blk_drewN ?_ _ | refine blk_drew ?_ | refine blk_alloc ?_ _)); refine blk_put (cs := #[.int .i8 ((rd_T38 l1 x9_1).f0.f0), .int .i8 0, .int .i8 0, .int .i8 0, .int .i8 0, .int .i8 0]) ?_ 1 _ rfl; (with_reducible repeat (first | refine blk_drewN ?_ _ | refine blk_drew ?_ | refine blk_alloc ?_ _)); refine blk_put (cs := #[.int .i8 0, .int .i8 0, .int .i8 0, .int .i8 0, .int .i8 0, .int .i8 0]) ?_ 0 _ rfl; exact kb BK395) hb); replace HB := am (below_step (be HB) hb); (try clear hb); (try clear hb2); (try clear hk); (try clear hi)))
       go_roundg k1
       case measure => have := HK1.out; omega
       case rel => exact ⟨(wrap64 (x9_1 + 1)), vv, H', ⟨by have := HK1.out; omega⟩, ⟨kb BK393⟩, ⟨be HB⟩⟩
      ·replace c8 := Bool.eq_false_iff.mpr c8
       subst c8
       have H1 : (some false) = some r := by rw [if_neg (show ¬ (false = true) by decide)] at H; exact H
       clear H
       have H := H1
       clear H1
       obtain rfl := Option.some.inj H
       have p394 : 0 ≤ (x9_1 : Int) := of_decide_eq_true (by first | (with_reducible assumption) | assumption)
       have q394 : x9_1 < (l1.length : Int) := of_decide_eq_true (by first | (with_reducible assumption) | assumption)
       obtain ⟨ad394, e394, hx394_0, hx394_1, hx394_2, hx394_3, hx394_4, hx394_5⟩ := at_T38 HR1.out x9_1 p394 q394
       cases e394
       replace hx394_0 := (HB.out.cell (World.block_lt_of_cell? w _ hx394_0)).trans hx394_0
       replace hx394_1 := (HB.out.cell (World.block_lt_of_cell? w _ hx394_1)).trans hx394_1
       replace hx394_2 := (HB.out.cell (World.block_lt_of_cell? w _ hx394_2)).trans hx394_2
       replace hx394_3 := (HB.out.cell (World.block_lt_of_cell? w _ hx394_3)).trans hx394_3
       replace hx394_4 := (HB.out.cell (World.block_lt_of_cell? w _ hx394_4)).trans hx394_4
       replace hx394_5 := (HB.out.cell (World.block_lt_of_cell? w _ hx394_5)).trans hx394_5
       replace p394 := eq_true p394
       replace q394 := eq_true q394
       go_wp2_with (first | ((with_reducible refine gate_dst (N := 6) rfl ?_); refine bxe (N := 6) (cs := #[.int .i8 0, .int .i8 0, .int .i8 0, .int .i8 0, .int .i8 0, .int .i8 0]) (t := 38) ?_; intro gb395 hg w14 hbox hb; have BK395 := am (hbox); have GW395 := am (gN hg (below_size (be HB))); have GE395 := am (gN hg (below_size (be HB))); have NB393_395 := nL BK393 hg; have NB395_393 := nR BK393 hg; replace BK393 := bB BK393 hb; replace HB := am (below_step (be HB) hb); clear hb hbox hg; have hnb15 := NB395_393.out; have hnc15 := NB393_395.out; obtain ⟨hcz16_0, hcz16_1, hcz16_2, hcz16_3, hcz16_4, hcz16_5, hfz16_0, hfz16_1, hfz16_2, hfz16_3, hfz16_4, hfz16_5⟩ := bx6 BK395; obtain ⟨hcz17_0, hcz17_1, hwz17, haz17, hyz17, hvz17, hfz17_0, hfz17_1, hfz17_2⟩ := bb28 BK393) | ((with_reducible refine gate_callee (f := 121) rfl ?_); refine gL (some 15) Try.func121 #[.agg (csBay a0_0 a0_1 a0_2), .agg #[.int .i8 ((rd_T38 l1 x9_1).f0.f0), .int .i8 ((rd_T38 l1 x9_1).f0.f1), .int .i8 ((rd_T38 l1 x9_1).f1), .int .i8 ((rd_T38 l1 x9_1).f2), .int .i8 ((rd_T38 l1 x9_1).f3), .int .i8 ((rd_T38 l1 x9_1).f4)]] ?_; (with_reducible refine (impl_safe.calls k1 a0_0 a0_1 a0_2 ((rd_T38 l1 x9_1).f0.f0) ((rd_T38 l1 x9_1).f0.f1) ((rd_T38 l1 x9_1).f1) ((rd_T38 l1 x9_1).f2) ((rd_T38 l1 x9_1).f3) ((rd_T38 l1 x9_1).f4) false _ A7.out).mono ?_); rintro e w18 ⟨rfl, hb⟩; refine ⟨_, rfl, ?_⟩; replace BK393 := am (blk_below (g := gb393) (o := .cells (csBay a0_0 a0_1 a0_2) 28 (0, 0)) (by (with_reducible repeat (first | refine blk_drewN ?_ _ | refine blk_drew ?_ | refine blk_alloc ?_ _)); refine blk_far ?_ NB393_395.out _; (with_reducible repeat (first | refine blk_drewN ?_ _ | refine blk_drew ?_ | refine blk_alloc ?_ _)); refine blk_far ?_ NB393_395.out _; (with_reducible repeat (first | refine blk_drewN ?_ _ | refine blk_drew ?_ | refine blk_alloc ?_ _)); refine blk_far ?_ NB393_395.out _; (with_reducible repeat (first | refine blk_drewN ?_ _ | refine blk_drew ?_ | refine blk_alloc ?_ _)); refine blk_far ?_ NB393_395.out _; (with_reducible repeat (first | refine blk_drewN ?_ _ | refine blk_drew ?_ | refine blk_alloc ?_ _)); refine blk_far ?_ NB393_395.out _; (with_reducible repeat (first | refine blk_drewN ?_ _ | refine blk_drew ?_ | refine blk_alloc ?_ _)); refine blk_far ?_ NB393_395.out _; exact kb BK393) hb); replace BK395 := am (blk_below (g := gb395) (o := .cells #[.int .i8 ((rd_T38 l1 x9_1).f0.f0), .int .i8 ((rd_T38 l1 x9_1).f0.f1), .int .i8 ((rd_T38 l1 x9_1).f1), .int .i8 ((rd_T38 l1 x9_1).f2), .int .i8 ((rd_T38 l1 x9_1).f3), .int .i8 ((rd_T38 l1 x9_1).f4)] 38 (0, 0)) (by (with_reducible repeat (first | refine blk_drewN ?_ _ | refine blk_drew ?_ | refine blk_alloc ?_ _)); refine blk_put (cs := #[.int .i8 ((rd_T38 l1 x9_1).f0.f0), .int .i8 ((rd_T38 l1 x9_1).f0.f1), .int .i8 ((rd_T38 l1 x9_1).f1), .int .i8 ((rd_T38 l1 x9_1).f2), .int .i8 ((rd_T38 l1 x9_1).f3), .int .i8 0]) ?_ 5 _ rfl; (with_reducible repeat (first | refine blk_drewN ?_ _ | refine blk_drew ?_ | refine blk_alloc ?_ _)); refine blk_put (cs := #[.int .i8 ((rd_T38 l1 x9_1).f0.f0), .int .i8 ((rd_T38 l1 x9_1).f0.f1), .int .i8 ((rd_T38 l1 x9_1).f1), .int .i8 ((rd_T38 l1 x9_1).f2), .int .i8 0, .int .i8 0]) ?_ 4 _ rfl; (with_reducible repeat (first | refine blk_drewN ?_ _ | refine blk_drew ?_ | refine blk_alloc ?_ _)); refine blk_put (cs := #[.int .i8 ((rd_T38 l1 x9_1).f0.f0), .int .i8 ((rd_T38 l1 x9_1).f0.f1), .int .i8 ((rd_T38 l1 x9_1).f1), .int .i8 0, .int .i8 0, .int .i8 0]) ?_ 3 _ rfl; (with_reducible repeat (first | refine blk_drewN ?_ _ | refine blk_drew ?_ | refine blk_alloc ?_ _)); refine blk_put (cs := #[.int .i8 ((rd_T38 l1 x9_1).f0.f0), .int .i8 ((rd_T38 l1 x9_1).f0.f1), .int .i8 0, .int .i8 0, .int .i8 0, .int .i8 0]) ?_ 2 _ rfl; (with_reducible repeat (first | refine blk_drewN ?_ _ | refine blk_drew ?_ | refine blk_alloc ?_ _)); refine blk_put (cs := #[.int .i8 ((rd_T38 l1 x9_1).f0.f0), .int .i8 0, .int .i8 0, .int .i8 0, .int .i8 0, .int .i8 0]) ?_ 1 _ rfl; (with_reducible repeat (first | refine blk_drewN ?_ _ | refine blk_drew ?_ | refine blk_alloc ?_ _)); refine blk_put (cs := #[.int .i8 0, .int .i8 0, .int .i8 0, .int .i8 0, .int .i8 0, .int .i8 0]) ?_ 0 _ rfl; exact kb BK395) hb); replace HB := am (below_step (be HB) hb); (try clear hb); (try clear hb2); (try clear hk); (try clear hi)))
       go_ret
       exact ⟨by first | rfl | (simp [errW_none, errW_some] <;> rfl) | (simp [*, errW_none, errW_some] <;> rfl), be HB⟩
     ·rw [if_neg c6] at H
      exact absurd H (by simp)
    ·rw [if_neg c5] at H
     exact absurd H (by simp)
   ·rw [if_neg c4] at H
    have c4b0 : decide (x9_1 < (l1.length : Int)) = false := decide_eq_false c4
    clear c4
    replace H := Option.bind_eq_some_iff.mp H
    obtain ⟨t397, A190, H⟩ := H
    try dsimp only at H
    have A19 := am A190
    clear A190
    obtain rfl := Option.some.inj H
    have hcz20_0 : wr.cell? ⟨gb393, 0, none⟩ = some (.int .i8 a0_0) := (blk_cell BK393.out 0).trans rfl
    have hcz20_1 : wr.cell? ⟨gb393, 1, none⟩ = some (.int .i8 a0_1) := (blk_cell BK393.out 1).trans rfl
    have hwz20 := lv28_at BK393.out; have haz20 := at_cells BK393.out; have hyz20 := BayAt28_of BK393.out; have hvz20 := lvv_of BK393.out
    have hfz20_0 := blk_frozen BK393.out 0
    have hfz20_1 := blk_frozen BK393.out 1
    have hfz20_2 := blk_frozen BK393.out 2
    go_wp2_with (first | ((with_reducible refine gate_callee (f := 126) rfl ?_); refine gL (some 20) Try.func126 #[.agg (csBay a0_0 a0_1 a0_2), .slice A1 l1.length c1] ?_; (with_reducible refine (impl_pairs.calls k1 a0_0 a0_1 a0_2 _ _ l1 t397 _ ?side1 ?side2 A19.out).mono ?_); (case side1 => repeat (first | exact (Kd.C_below HR1.out HB.out) | (with_reducible refine Kd.C_alloc ?_ _) | (with_reducible refine Kd.C_drewN ?_ _) | (with_reducible refine Kd.C_drew ?_))); (case side2 => exact HC1.out); rintro e w21 ⟨v398, rfl, ho0, hb⟩; refine ⟨_, rfl, ?_⟩; have HO399 := am (Kd.R_lower ho0 (below_size (be HB))); replace BK393 := bB BK393 hb; replace HB := am (below_step (be HB) hb); (try clear hb); (try clear hb2); (try clear hk); (try clear hi); (try clear ho0); obtain ⟨Ao22, co22, eo22⟩ := Kd.R_slice HO399.out; subst eo22))
    go_ret
    exact ⟨by first | rfl | (simp [errW_none, errW_some] <;> rfl) | (simp [*, errW_none, errW_some] <;> rfl), be HB⟩

/-! ### impl_withCode: function 131 -/
def impl_withCode.f (k : Nat) (a0_0 : Int) (a0_1 : Int) (a0_2 : (Nat → Int)) (l1 : List (S38)) (a2_0 : Int) (a2_1 : Int) (a2_2 : Int) (a2_3 : Int) (a2_4 : Int) (a2_5 : Int) : Option (Int) := (impl_ValidBoat.f a0_0 a0_1 a0_2 a2_0 a2_1 a2_2 a2_3 a2_4 a2_5).bind fun t402 => (if t402 = true then ((impl_boatsCode.f k a0_0 a0_1 a0_2 l1).bind fun t403 => (if t403 = 0 then ((impl_right.f k a0_0 a0_1 a0_2 l1).bind fun t404 => (if t404 = true then (some 0) else (some 4))) else (some t403))) else (some 1))
set_option maxHeartbeats 8000000 in
set_option maxRecDepth 100000 in
theorem impl_withCode.calls (k : Nat) (a0_0 : Int) (a0_1 : Int) (a0_2 : (Nat → Int)) (A1 : Option Addr) (c1 : Nat) (l1 : List (S38)) (a2_0 : Int) (a2_1 : Int) (a2_2 : Int) (a2_3 : Int) (a2_4 : Int) (a2_5 : Int) (r : Int) (w : World) (hr1 : Kd.C k38 w A1 l1.length l1) (hc1 : l1.length ≤ c1) (h : impl_withCode.f k a0_0 a0_1 a0_2 l1 a2_0 a2_1 a2_2 a2_3 a2_4 a2_5 = some r) :
  Calls Try.prog 131 #[.agg (csBay a0_0 a0_1 a0_2), .slice A1 l1.length c1, .agg #[.int .i8 a2_0, .int .i8 a2_1, .int .i8 a2_2, .int .i8 a2_3, .int .i8 a2_4, .int .i8 a2_5]] w fun e w' => e = .returned (.int .i64 r) ∧ Below w.heap.size w w' := by
 have hu28 := Try.underlying28
 have hu38 := Try.underlying38
 have HR1 := am hr1
 have HC1 := am hc1
 clear hr1 hc1
 have HB := am (Below.refl w.heap.size w)
 have H : ((impl_ValidBoat.f a0_0 a0_1 a0_2 a2_0 a2_1 a2_2 a2_3 a2_4 a2_5).bind fun t402 => (if t402 = true then ((impl_boatsCode.f k a0_0 a0_1 a0_2 l1).bind fun t403 => (if t403 = 0 then ((impl_right.f k a0_0 a0_1 a0_2 l1).bind fun t404 => (if t404 = true then (some 0) else (some 4))) else (some t403))) else (some 1))) = some r := h
 clear h
 replace H := Option.bind_eq_some_iff.mp H
 obtain ⟨t402, A40, H⟩ := H
 try dsimp only at H
 have A4 := am A40
 clear A40
 by_cases c5 : t402 = true
 ·subst c5
  rw [if_pos rfl] at H
  replace H := Option.bind_eq_some_iff.mp H
  obtain ⟨t403, A60, H⟩ := H
  try dsimp only at H
  have A6 := am A60
  clear A60
  by_cases c7 : t403 = 0
  ·rw [if_pos c7] at H
   have c7b0 : (t403 == 0) = true := beq_iff_eq.mpr c7
   have c7b1 : (t403 != 0) = false := bne_eq_false_iff_eq.mpr c7
   clear c7
   replace H := Option.bind_eq_some_iff.mp H
   obtain ⟨t404, A80, H⟩ := H
   try dsimp only at H
   have A8 := am A80
   clear A80
   by_cases c9 : t404 = true
   ·subst c9
    rw [if_pos rfl] at H
    obtain rfl := Option.some.inj H
    go_enter Try.func131, Try.ntmps131
    go_wp2_with (first | ((with_reducible refine gate_dst (N := 3) rfl ?_); refine bxe (N := 3) (cs := (csBay a0_0 a0_1 a0_2)) (t := 28) ?_; intro gb400 hg w10 hbox hb; have BK400 := am (hbox); have GW400 := am (gN hg (below_size (be HB))); have GE400 := am (gN hg (below_size (be HB))); replace HB := am (below_step (be HB) hb); clear hb hbox hg) | ((with_reducible refine gate_dst (N := 5) rfl ?_); refine bxe (N := 5) (cs := #[.int .i8 a2_0, .int .i8 a2_1, .int .i8 a2_2, .int .i8 a2_3, .int .i8 a2_4, .int .i8 a2_5]) (t := 38) ?_; intro gb401 hg w11 hbox hb; have BK401 := am (hbox); have GW401 := am (gN hg (below_size (be HB))); have GE401 := am (gN hg (below_size (be HB))); have NB400_401 := nL BK400 hg; have NB401_400 := nR BK400 hg; replace BK400 := bB BK400 hb; replace HB := am (below_step (be HB) hb); clear hb hbox hg; have hnb12 := NB400_401.out; have hnc12 := NB401_400.out; obtain ⟨hcz13_0, hcz13_1, hwz13, haz13, hyz13, hvz13, hfz13_0, hfz13_1, hfz13_2⟩ := bb28 BK400; obtain ⟨hcz14_0, hcz14_1, hcz14_2, hcz14_3, hcz14_4, hcz14_5, hfz14_0, hfz14_1, hfz14_2, hfz14_3, hfz14_4, hfz14_5⟩ := bx6 BK401) | ((with_reducible refine gate_callee (f := 30) rfl ?_); refine gL (some 10) Try.func30 #[.agg (csBay a0_0 a0_1 a0_2), .agg #[.int .i8 a2_0, .int .i8 a2_1, .int .i8 a2_2, .int .i8 a2_3, .int .i8 a2_4, .int .i8 a2_5]] ?_; (with_reducible refine (impl_ValidBoat.calls a0_0 a0_1 a0_2 a2_0 a2_1 a2_2 a2_3 a2_4 a2_5 true _ A4.out).mono ?_); rintro e w15 ⟨rfl, hb⟩; refine ⟨_, rfl, ?_⟩; replace BK400 := bB BK400 hb; replace BK401 := bB BK401 hb; replace HB := am (below_step (be HB) hb); (try clear hb); (try clear hb2); (try clear hk); (try clear hi); obtain ⟨hcz16_0, hcz16_1, hwz16, haz16, hyz16, hvz16, hfz16_0, hfz16_1, hfz16_2⟩ := bb28 BK400) | ((with_reducible refine gate_callee (f := 125) rfl ?_); refine gL (some 14) Try.func125 #[.agg (csBay a0_0 a0_1 a0_2), .slice A1 l1.length c1] ?_; (with_reducible refine (impl_boatsCode.calls k a0_0 a0_1 a0_2 _ _ l1 t403 _ ?side1 ?side2 A6.out).mono ?_); (case side1 => repeat (first | exact (Kd.C_below HR1.out HB.out) | (with_reducible refine Kd.C_alloc ?_ _) | (with_reducible refine Kd.C_drewN ?_ _) | (with_reducible refine Kd.C_drew ?_))); (case side2 => exact HC1.out); rintro e w17 ⟨rfl, hb⟩; refine ⟨_, rfl, ?_⟩; replace BK400 := bB BK400 hb; replace BK401 := bB BK401 hb; replace HB := am (below_step (be HB) hb); (try clear hb); (try clear hb2); (try clear hk); (try clear hi); obtain ⟨hcz18_0, hcz18_1, hwz18, haz18, hyz18, hvz18, hfz18_0, hfz18_1, hfz18_2⟩ := bb28 BK400) | ((with_reducible refine gate_callee (f := 129) rfl ?_); refine gL (some 20) Try.func129 #[.agg (csBay a0_0 a0_1 a0_2), .slice A1 l1.length c1] ?_; (with_reducible refine (impl_right.calls k a0_0 a0_1 a0_2 _ _ l1 true _ ?side1 ?side2 A8.out).mono ?_); (case side1 => repeat (first | exact (Kd.C_below HR1.out HB.out) | (with_reducible refine Kd.C_alloc ?_ _) | (with_reducible refine Kd.C_drewN ?_ _) | (with_reducible refine Kd.C_drew ?_))); (case side2 => exact HC1.out); rintro e w19 ⟨rfl, hb⟩; refine ⟨_, rfl, ?_⟩; replace BK400 := bB BK400 hb; replace BK401 := bB BK401 hb; replace HB := am (below_step (be HB) hb); (try clear hb); (try clear hb2); (try clear hk); (try clear hi)))
    go_ret
    exact ⟨by first | rfl | (simp [errW_none, errW_some] <;> rfl) | (simp [*, errW_none, errW_some] <;> rfl), be HB⟩
   ·replace c9 := Bool.eq_false_iff.mpr c9
    subst c9
    have H1 : (some 4) = some r := by rw [if_neg (show ¬ (false = true) by decide)] at H; exact H
    clear H
    have H := H1
    clear H1
    obtain rfl := Option.some.inj H
    go_enter Try.func131, Try.ntmps131
    go_wp2_with (first | ((with_reducible refine gate_dst (N := 3) rfl ?_); refine bxe (N := 3) (cs := (csBay a0_0 a0_1 a0_2)) (t := 28) ?_; intro gb400 hg w20 hbox hb; have BK400 := am (hbox); have GW400 := am (gN hg (below_size (be HB))); have GE400 := am (gN hg (below_size (be HB))); replace HB := am (below_step (be HB) hb); clear hb hbox hg) | ((with_reducible refine gate_dst (N := 5) rfl ?_); refine bxe (N := 5) (cs := #[.int .i8 a2_0, .int .i8 a2_1, .int .i8 a2_2, .int .i8 a2_3, .int .i8 a2_4, .int .i8 a2_5]) (t := 38) ?_; intro gb401 hg w21 hbox hb; have BK401 := am (hbox); have GW401 := am (gN hg (below_size (be HB))); have GE401 := am (gN hg (below_size (be HB))); have NB400_401 := nL BK400 hg; have NB401_400 := nR BK400 hg; replace BK400 := bB BK400 hb; replace HB := am (below_step (be HB) hb); clear hb hbox hg; have hnb22 := NB400_401.out; have hnc22 := NB401_400.out; obtain ⟨hcz23_0, hcz23_1, hwz23, haz23, hyz23, hvz23, hfz23_0, hfz23_1, hfz23_2⟩ := bb28 BK400; obtain ⟨hcz24_0, hcz24_1, hcz24_2, hcz24_3, hcz24_4, hcz24_5, hfz24_0, hfz24_1, hfz24_2, hfz24_3, hfz24_4, hfz24_5⟩ := bx6 BK401) | ((with_reducible refine gate_callee (f := 30) rfl ?_); refine gL (some 10) Try.func30 #[.agg (csBay a0_0 a0_1 a0_2), .agg #[.int .i8 a2_0, .int .i8 a2_1, .int .i8 a2_2, .int .i8 a2_3, .int .i8 a2_4, .int .i8 a2_5]] ?_; (with_reducible refine (impl_ValidBoat.calls a0_0 a0_1 a0_2 a2_0 a2_1 a2_2 a2_3 a2_4 a2_5 true _ A4.out).mono ?_); rintro e w25 ⟨rfl, hb⟩; refine ⟨_, rfl, ?_⟩; replace BK400 := bB BK400 hb; replace BK401 := bB BK401 hb; replace HB := am (below_step (be HB) hb); (try clear hb); (try clear hb2); (try clear hk); (try clear hi); obtain ⟨hcz26_0, hcz26_1, hwz26, haz26, hyz26, hvz26, hfz26_0, hfz26_1, hfz26_2⟩ := bb28 BK400) | ((with_reducible refine gate_callee (f := 125) rfl ?_); refine gL (some 14) Try.func125 #[.agg (csBay a0_0 a0_1 a0_2), .slice A1 l1.length c1] ?_; (with_reducible refine (impl_boatsCode.calls k a0_0 a0_1 a0_2 _ _ l1 t403 _ ?side1 ?side2 A6.out).mono ?_); (case side1 => repeat (first | exact (Kd.C_below HR1.out HB.out) | (with_reducible refine Kd.C_alloc ?_ _) | (with_reducible refine Kd.C_drewN ?_ _) | (with_reducible refine Kd.C_drew ?_))); (case side2 => exact HC1.out); rintro e w27 ⟨rfl, hb⟩; refine ⟨_, rfl, ?_⟩; replace BK400 := bB BK400 hb; replace BK401 := bB BK401 hb; replace HB := am (below_step (be HB) hb); (try clear hb); (try clear hb2); (try clear hk); (try clear hi); obtain ⟨hcz28_0, hcz28_1, hwz28, haz28, hyz28, hvz28, hfz28_0, hfz28_1, hfz28_2⟩ := bb28 BK400) | ((with_reducible refine gate_callee (f := 129) rfl ?_); refine gL (some 20) Try.func129 #[.agg (csBay a0_0 a0_1 a0_2), .slice A1 l1.length c1] ?_; (with_reducible refine (impl_right.calls k a0_0 a0_1 a0_2 _ _ l1 false _ ?side1 ?side2 A8.out).mono ?_); (case side1 => repeat (first | exact (Kd.C_below HR1.out HB.out) | (with_reducible refine Kd.C_alloc ?_ _) | (with_reducible refine Kd.C_drewN ?_ _) | (with_reducible refine Kd.C_drew ?_))); (case side2 => exact HC1.out); rintro e w29 ⟨rfl, hb⟩; refine ⟨_, rfl, ?_⟩; replace BK400 := bB BK400 hb; replace BK401 := bB BK401 hb; replace HB := am (below_step (be HB) hb); (try clear hb); (try clear hb2); (try clear hk); (try clear hi)))
    go_ret
    exact ⟨by first | rfl | (simp [errW_none, errW_some] <;> rfl) | (simp [*, errW_none, errW_some] <;> rfl), be HB⟩
  ·rw [if_neg c7] at H
   have c7b0 : (t403 == 0) = false := beq_eq_false_iff_ne.mpr c7
   have c7b1 : (t403 != 0) = true := bne_iff_ne.mpr c7
   obtain rfl := Option.some.inj H
   go_enter Try.func131, Try.ntmps131
   go_wp2_with (first | ((with_reducible refine gate_dst (N := 3) rfl ?_); refine bxe (N := 3) (cs := (csBay a0_0 a0_1 a0_2)) (t := 28) ?_; intro gb400 hg w30 hbox hb; have BK400 := am (hbox); have GW400 := am (gN hg (below_size (be HB))); have GE400 := am (gN hg (below_size (be HB))); replace HB := am (below_step (be HB) hb); clear hb hbox hg) | ((with_reducible refine gate_dst (N := 5) rfl ?_); refine bxe (N := 5) (cs := #[.int .i8 a2_0, .int .i8 a2_1, .int .i8 a2_2, .int .i8 a2_3, .int .i8 a2_4, .int .i8 a2_5]) (t := 38) ?_; intro gb401 hg w31 hbox hb; have BK401 := am (hbox); have GW401 := am (gN hg (below_size (be HB))); have GE401 := am (gN hg (below_size (be HB))); have NB400_401 := nL BK400 hg; have NB401_400 := nR BK400 hg; replace BK400 := bB BK400 hb; replace HB := am (below_step (be HB) hb); clear hb hbox hg; have hnb32 := NB400_401.out; have hnc32 := NB401_400.out; obtain ⟨hcz33_0, hcz33_1, hwz33, haz33, hyz33, hvz33, hfz33_0, hfz33_1, hfz33_2⟩ := bb28 BK400; obtain ⟨hcz34_0, hcz34_1, hcz34_2, hcz34_3, hcz34_4, hcz34_5, hfz34_0, hfz34_1, hfz34_2, hfz34_3, hfz34_4, hfz34_5⟩ := bx6 BK401) | ((with_reducible refine gate_callee (f := 30) rfl ?_); refine gL (some 10) Try.func30 #[.agg (csBay a0_0 a0_1 a0_2), .agg #[.int .i8 a2_0, .int .i8 a2_1, .int .i8 a2_2, .int .i8 a2_3, .int .i8 a2_4, .int .i8 a2_5]] ?_; (with_reducible refine (impl_ValidBoat.calls a0_0 a0_1 a0_2 a2_0 a2_1 a2_2 a2_3 a2_4 a2_5 true _ A4.out).mono ?_); rintro e w35 ⟨rfl, hb⟩; refine ⟨_, rfl, ?_⟩; replace BK400 := bB BK400 hb; replace BK401 := bB BK401 hb; replace HB := am (below_step (be HB) hb); (try clear hb); (try clear hb2); (try clear hk); (try clear hi); obtain ⟨hcz36_0, hcz36_1, hwz36, haz36, hyz36, hvz36, hfz36_0, hfz36_1, hfz36_2⟩ := bb28 BK400) | ((with_reducible refine gate_callee (f := 125) rfl ?_); refine gL (some 14) Try.func125 #[.agg (csBay a0_0 a0_1 a0_2), .slice A1 l1.length c1] ?_; (with_reducible refine (impl_boatsCode.calls k a0_0 a0_1 a0_2 _ _ l1 t403 _ ?side1 ?side2 A6.out).mono ?_); (case side1 => repeat (first | exact (Kd.C_below HR1.out HB.out) | (with_reducible refine Kd.C_alloc ?_ _) | (with_reducible refine Kd.C_drewN ?_ _) | (with_reducible refine Kd.C_drew ?_))); (case side2 => exact HC1.out); rintro e w37 ⟨rfl, hb⟩; refine ⟨_, rfl, ?_⟩; replace BK400 := bB BK400 hb; replace BK401 := bB BK401 hb; replace HB := am (below_step (be HB) hb); (try clear hb); (try clear hb2); (try clear hk); (try clear hi)))
   go_ret
   exact ⟨by first | rfl | (simp [errW_none, errW_some] <;> rfl) | (simp [*, errW_none, errW_some] <;> rfl), be HB⟩
 ·replace c5 := Bool.eq_false_iff.mpr c5
  subst c5
  have H1 : (some 1) = some r := by rw [if_neg (show ¬ (false = true) by decide)] at H; exact H
  clear H
  have H := H1
  clear H1
  obtain rfl := Option.some.inj H
  go_enter Try.func131, Try.ntmps131
  go_wp2_with (first | ((with_reducible refine gate_dst (N := 3) rfl ?_); refine bxe (N := 3) (cs := (csBay a0_0 a0_1 a0_2)) (t := 28) ?_; intro gb400 hg w38 hbox hb; have BK400 := am (hbox); have GW400 := am (gN hg (below_size (be HB))); have GE400 := am (gN hg (below_size (be HB))); replace HB := am (below_step (be HB) hb); clear hb hbox hg) | ((with_reducible refine gate_dst (N := 5) rfl ?_); refine bxe (N := 5) (cs := #[.int .i8 a2_0, .int .i8 a2_1, .int .i8 a2_2, .int .i8 a2_3, .int .i8 a2_4, .int .i8 a2_5]) (t := 38) ?_; intro gb401 hg w39 hbox hb; have BK401 := am (hbox); have GW401 := am (gN hg (below_size (be HB))); have GE401 := am (gN hg (below_size (be HB))); have NB400_401 := nL BK400 hg; have NB401_400 := nR BK400 hg; replace BK400 := bB BK400 hb; replace HB := am (below_step (be HB) hb); clear hb hbox hg; have hnb40 := NB400_401.out; have hnc40 := NB401_400.out; obtain ⟨hcz41_0, hcz41_1, hwz41, haz41, hyz41, hvz41, hfz41_0, hfz41_1, hfz41_2⟩ := bb28 BK400; obtain ⟨hcz42_0, hcz42_1, hcz42_2, hcz42_3, hcz42_4, hcz42_5, hfz42_0, hfz42_1, hfz42_2, hfz42_3, hfz42_4, hfz42_5⟩ := bx6 BK401) | ((with_reducible refine gate_callee (f := 30) rfl ?_); refine gL (some 10) Try.func30 #[.agg (csBay a0_0 a0_1 a0_2), .agg #[.int .i8 a2_0, .int .i8 a2_1, .int .i8 a2_2, .int .i8 a2_3, .int .i8 a2_4, .int .i8 a2_5]] ?_; (with_reducible refine (impl_ValidBoat.calls a0_0 a0_1 a0_2 a2_0 a2_1 a2_2 a2_3 a2_4 a2_5 false _ A4.out).mono ?_); rintro e w43 ⟨rfl, hb⟩; refine ⟨_, rfl, ?_⟩; replace BK400 := bB BK400 hb; replace BK401 := bB BK401 hb; replace HB := am (below_step (be HB) hb); (try clear hb); (try clear hb2); (try clear hk); (try clear hi)))
  go_ret
  exact ⟨by first | rfl | (simp [errW_none, errW_some] <;> rfl) | (simp [*, errW_none, errW_some] <;> rfl), be HB⟩

end Go.Proofs.Ytcollbifdfhfoaa.PFnExactPlacesFor
