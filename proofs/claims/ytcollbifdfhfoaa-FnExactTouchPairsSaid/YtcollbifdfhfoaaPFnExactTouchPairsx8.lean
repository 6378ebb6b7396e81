-- Written by a program out of this seat's translation (functions, and that the code comes to them).
import Derived.Test.YtcollbifdfhfoaaPFnExactTouchPairsx0
import Derived.Test.YtcollbifdfhfoaaPFnExactTouchPairsx6
import Derived.Test.YtcollbifdfhfoaaPFnExactTouchPairsx7
namespace Go.Proofs.Ytcollbifdfhfoaa.PFnExactTouchPairs
open Go.RowKit Go.Proofs.YtcollbifdfhfoaaW.PrintWords Go.Proofs.YtcollbifdfhfoaaW.PrintLast Go.Proofs.YtcollbifdfhfoaaW.PrintMore
attribute [local go_sem] max2_int min2_int max_two min_two max_three min_three max_four min_four   -- for this text's walks alone
open Go.Proofs.Ytcollbifdfhfoaa.Bay Go.Proofs.Ytcollbifdfhfoaa.Short
attribute [local go_sem ↓] lv26_eq lv28_eq
attribute [local go_sem] lvv_set lvv_drewN lvv_drew lv26_run BayAt26_set BayAt26_drewN BayAt26_drew lv28_run BayAt28_set BayAt28_drewN BayAt28_drew
set_option linter.unusedVariables false
set_option linter.unusedSimpArgs false

/-! ### impl_pairs: function 126 -/
mutual
def impl_pairs.l0 : Nat → List (S38) → List (S82) → List (S38) → Int → Int → Int → Int → (Nat → Int) → Option ((List (S82)))
 | 0, _, _, _, _, _, _, _, _ => none
 | k + 1, x1, x5, x10, x11, x12, x232000, x232001, x232002 => if x12 < x11 then (if 0 ≤ x12 then (if x12 < (x10.length : Int) then (impl_pairs.l1 k x1 x5 x12 (wrap64 (x12 + 1)) x10 x11 x12 x232000 x232001 x232002 ((rd_T38 x10 x12).f0.f0) ((rd_T38 x10 x12).f0.f1) ((rd_T38 x10 x12).f1) ((rd_T38 x10 x12).f2) ((rd_T38 x10 x12).f3) ((rd_T38 x10 x12).f4)) else (none)) else (none)) else (some x5)
def impl_pairs.l1 : Nat → List (S38) → List (S82) → Int → Int → List (S38) → Int → Int → Int → Int → (Nat → Int) → Int → Int → Int → Int → Int → Int → Option ((List (S82)))
 | 0, _, _, _, _, _, _, _, _, _, _, _, _, _, _, _, _ => none
 | k + 1, x1, x5, x6, x8, x10, x11, x12, x232000, x232001, x232002, x237000, x237001, x237002, x237003, x237004, x237005 => if x8 < (x1.length : Int) then (if 0 ≤ x8 then ((impl_touch.f k x232000 x232001 x232002 x237000 x237001 x237002 x237003 x237004 x237005 ((rd_T38 x1 x8).f0.f0) ((rd_T38 x1 x8).f0.f1) ((rd_T38 x1 x8).f1) ((rd_T38 x1 x8).f2) ((rd_T38 x1 x8).f3) ((rd_T38 x1 x8).f4)).bind fun t238 => (if t238 = true then (if x5.length < 8796093022208 then (impl_pairs.l1 k x1 (x5 ++ [(⟨x6, x8⟩ : S82)]) x6 (wrap64 (x8 + 1)) x10 x11 x12 x232000 x232001 x232002 x237000 x237001 x237002 x237003 x237004 x237005) else (none)) else (impl_pairs.l1 k x1 x5 x6 (wrap64 (x8 + 1)) x10 x11 x12 x232000 x232001 x232002 x237000 x237001 x237002 x237003 x237004 x237005))) else (none)) else (impl_pairs.l0 k x1 x5 x10 x11 (wrap64 (x12 + 1)) x232000 x232001 x232002)
end
def impl_pairs.f (k : Nat) (a0_0 : Int) (a0_1 : Int) (a0_2 : (Nat → Int)) (l1 : List (S38)) : Option ((List (S82))) := impl_pairs.l0 k l1 (([] : List (S82))) l1 (l1.length : Int) 0 a0_0 a0_1 a0_2
set_option maxHeartbeats 8000000 in
set_option maxRecDepth 100000 in
theorem impl_pairs.calls (k : Nat) (a0_0 : Int) (a0_1 : Int) (a0_2 : (Nat → Int)) (A1 : Option Addr) (c1 : Nat) (l1 : List (S38)) (r : List (S82)) (w : World) (hr1 : Kd.C k38 w A1 l1.length l1) (hc1 : l1.length ≤ c1) (h : impl_pairs.f k a0_0 a0_1 a0_2 l1 = some r) :
  Calls Try.prog 126 #[.agg (csBay a0_0 a0_1 a0_2), .slice A1 l1.length c1] w fun e w' => ∃ v0_ : Value, e = .returned (v0_) ∧ Kd.R k82 82 w' w.heap.size (fun _ => True) v0_ r ∧ Below w.heap.size w w' := by
 have hu28 := Try.underlying28
 have hu38 := Try.underlying38
 have hu82 := Try.underlying82
 have HR1 := am hr1
 have HC1 := am hc1
 clear hr1 hc1
 have HB := am (Below.refl w.heap.size w)
 have H : (impl_pairs.l0 k l1 (([] : List (S82))) l1 (l1.length : Int) 0 a0_0 a0_1 a0_2) = some r := h
 clear h
 obtain ⟨y232, hy232⟩ : ∃ y_ : List (S82), y_ = (([] : List (S82))) := ⟨_, rfl⟩
 replace H : (impl_pairs.l0 k l1 y232 l1 (l1.length : Int) 0 a0_0 a0_1 a0_2) = some r := by first | (rw [hy232]; with_reducible exact H) | (have H2_ := (Option.bind_some _ _).symm.trans H; rw [hy232]; with_reducible exact H2_) | (have H2_ := (Option.bind_some _ _).symm.trans H; with_reducible exact H2_) | with_reducible exact H | (rw [hy232]; exact H) | exact H
 have Ny232 := am hy232
 clear hy232
 have H' := am H
 clear H
 go_enter Try.func126, Try.ntmps126
 go_wp2_with (first | ((with_reducible refine gate_dst (N := 2) rfl ?_); refine bxe (N := 2) (cs := (csBay a0_0 a0_1 a0_2)) (t := 28) ?_; intro gb231 hg w3 hbox hb; have BK231 := am (hbox); have GW231 := am (gN hg (below_size (be HB))); have GE231 := am (gN hg (below_size (be HB))); replace HB := am (below_step (be HB) hb); clear hb hbox hg) | ((with_reducible refine gate_dst (N := 9) rfl ?_); refine Kd.R_lit k82 _ 82 ?hg (N := 9) ?hd (xs := ([] : List (S82))) (inner := []) (ok := fun _ => True) (okp := fun _ => True) ?hr ?hp (fun _ hk => hk) trivial (Below.refl _ _) (Nat.le_refl _) (by simp) ?_; (case hd => rfl); (case hg => rfl); (case hr => first | (go_simp; done) | (go_simp; rfl)); (case hp => exact (Reps.none _ _)); intro v233 w4 ho5 hb hg_ hnew_; clear hg_ hnew_; (first | rw [← Ny232.out] at ho5 | (simp only [Int.reduceToNat] at ho5; rw [← Ny232.out] at ho5)); have HO234 := am (Kd.R_lower ho5 (below_size (be HB))); replace BK231 := bB BK231 hb; replace HB := am (below_step (be HB) hb); clear hb ho5))
 go_loopg [5, 12] k (fun kq v5 v12 w' => ∃ (x5_1 : List (S82)) (x12_1 : Int), v12 = .int .i64 x12_1 ∧ Aside0 (impl_pairs.l0 kq l1 x5_1 l1 (l1.length : Int) x12_1 a0_0 a0_1 a0_2 = some r) ∧ Aside0 (kq ≤ k) ∧ Aside0 (Kd.R k82 82 w' w.heap.size (fun _ => True) v5 x5_1) ∧ Aside0 (w'.heap[gb231]? = some (.cells (csBay a0_0 a0_1 a0_2) 28 (0, 0))) ∧ Aside0 (Below w.heap.size w w'))
 case atStart => exact ⟨(y232), (0), vx, H', ⟨Nat.le_refl _⟩, ⟨kr HO234⟩, ⟨kb BK231⟩, ⟨be HB⟩⟩
 case round =>
  clear H'
  try clear c1
  try clear p2
  obtain ⟨x5_1, x12_1, rfl, HA, HK1, HO_5, BK231, HB⟩ := hrel
  cases gk with
  | zero => exact absurd HA.out (by simp [impl_pairs.l0])
  | succ k1 =>
   have H := HA.out
   clear HA
   simp only [impl_pairs.l0] at H
   by_cases c6 : x12_1 < (l1.length : Int)
   ·rw [if_pos c6] at H
    have c6b0 : decide (x12_1 < (l1.length : Int)) = true := decide_eq_true c6
    clear c6
    by_cases c7 : 0 ≤ x12_1
    ·rw [if_pos c7] at H
     have c7b0 : decide (0 ≤ x12_1) = true := decide_eq_true c7
     have c7b1 : 0 ≤ x12_1 := c7
     clear c7
     by_cases c8 : x12_1 < (l1.length : Int)
     ·rw [if_pos c8] at H
      have c8b0 : decide (x12_1 < (l1.length : Int)) = true := decide_eq_true c8
      clear c8
      have H' := am H
      clear H
      have p235 : 0 ≤ (x12_1 : Int) := of_decide_eq_true (by first | (with_reducible assumption) | assumption)
      have q235 : x12_1 < (l1.length : Int) := of_decide_eq_true (by first | (with_reducible assumption) | assumption)
      obtain ⟨ad235, e235, hx235_0, hx235_1, hx235_2, hx235_3, hx235_4, hx235_5⟩ := at_T38 HR1.out x12_1 p235 q235
      cases e235
      replace hx235_0 := (HB.out.cell (World.block_lt_of_cell? w _ hx235_0)).trans hx235_0
      replace hx235_1 := (HB.out.cell (World.block_lt_of_cell? w _ hx235_1)).trans hx235_1
      replace hx235_2 := (HB.out.cell (World.block_lt_of_cell? w _ hx235_2)).trans hx235_2
      replace hx235_3 := (HB.out.cell (World.block_lt_of_cell? w _ hx235_3)).trans hx235_3
      replace hx235_4 := (HB.out.cell (World.block_lt_of_cell? w _ hx235_4)).trans hx235_4
      replace hx235_5 := (HB.out.cell (World.block_lt_of_cell? w _ hx235_5)).trans hx235_5
      replace p235 := eq_true p235
      replace q235 := eq_true q235
      go_wp2_with (first | ((with_reducible refine gate_dst (N := 7) rfl ?_); refine bxe (N := 7) (cs := #[.int .i8 0, .int .i8 0, .int .i8 0, .int .i8 0, .int .i8 0, .int .i8 0]) (t := 38) ?_; intro gb236 hg w9 hbox hb; have BK236 := am (hbox); have GW236 := am (gN hg (below_size (be HB))); have GE236 := am (gN hg (below_size (be HB))); have NB231_236 := nL BK231 hg; have NB236_231 := nR BK231 hg; replace HO_5 := am (Kd.R_below (kr HO_5) hb); replace BK231 := bB BK231 hb; replace HB := am (below_step (be HB) hb); clear hb hbox hg; have hnb10 := NB236_231.out; have hnc10 := NB231_236.out; obtain ⟨hcz11_0, hcz11_1, hcz11_2, hcz11_3, hcz11_4, hcz11_5, hfz11_0, hfz11_1, hfz11_2, hfz11_3, hfz11_4, hfz11_5⟩ := bx6 BK236))
      go_loopg [5, 8] k1 (fun kq v5 v8 w' => ∃ (x5_2 : List (S82)) (x8_2 : Int), v8 = .int .i64 x8_2 ∧ Aside0 (impl_pairs.l1 kq l1 x5_2 x12_1 x8_2 l1 (l1.length : Int) x12_1 a0_0 a0_1 a0_2 ((rd_T38 l1 x12_1).f0.f0) ((rd_T38 l1 x12_1).f0.f1) ((rd_T38 l1 x12_1).f1) ((rd_T38 l1 x12_1).f2) ((rd_T38 l1 x12_1).f3) ((rd_T38 l1 x12_1).f4) = some r) ∧ Aside0 (kq ≤ k1) ∧ Aside0 (Kd.R k82 82 w' w.heap.size (fun _ => True) v5 x5_2) ∧ Aside0 (w'.heap[gb231]? = some (.cells (csBay a0_0 a0_1 a0_2) 28 (0, 0))) ∧ Aside0 (w'.heap[gb236]? = some (.cells #[.int .i8 ((rd_T38 l1 x12_1).f0.f0), .int .i8 ((rd_T38 l1 x12_1).f0.f1), .int .i8 ((rd_T38 l1 x12_1).f1), .int .i8 ((rd_T38 l1 x12_1).f2), .int .i8 ((rd_T38 l1 x12_1).f3), .int .i8 ((rd_T38 l1 x12_1).f4)] 38 (0, 0))) ∧ Aside0 (Below w.heap.size w w'))
      case atStart => exact ⟨(x5_1), (wrap64 (x12_1 + 1)), vx, H', ⟨Nat.le_refl _⟩, ⟨by (with_reducible repeat (first | apply Kd.R_alloc | apply Kd.R_drewN | apply Kd.R_drew)); exact Kd.R_mono (Kd.R_far (p := ⟨gb236, 5, none⟩) (Kd.R_far (p := ⟨gb236, 4, none⟩) (Kd.R_far (p := ⟨gb236, 3, none⟩) (Kd.R_far (p := ⟨gb236, 2, none⟩) (Kd.R_far (p := ⟨gb236, 1, none⟩) (Kd.R_far (p := ⟨gb236, 0, none⟩) (Kd.R_types HO_5.out BK236.out (by decide)) (fun _ hk => hk.2) (.int .i8 ((rd_T38 l1 x12_1).f0.f0))) (fun _ hk => hk.2) (.int .i8 ((rd_T38 l1 x12_1).f0.f1))) (fun _ hk => hk.2) (.int .i8 ((rd_T38 l1 x12_1).f1))) (fun _ hk => hk.2) (.int .i8 ((rd_T38 l1 x12_1).f2))) (fun _ hk => hk.2) (.int .i8 ((rd_T38 l1 x12_1).f3))) (fun _ hk => hk.2) (.int .i8 ((rd_T38 l1 x12_1).f4))) (fun _ hk => trivial)⟩, ⟨by (with_reducible repeat (first | refine blk_drewN ?_ _ | refine blk_drew ?_ | refine blk_alloc ?_ _)); refine blk_far ?_ NB231_236.out _; (with_reducible repeat (first | refine blk_drewN ?_ _ | refine blk_drew ?_ | refine blk_alloc ?_ _)); refine blk_far ?_ NB231_236.out _; (with_reducible repeat (first | refine blk_drewN ?_ _ | refine blk_drew ?_ | refine blk_alloc ?_ _)); refine blk_far ?_ NB231_236.out _; (with_reducible repeat (first | refine blk_drewN ?_ _ | refine blk_drew ?_ | refine blk_alloc ?_ _)); refine blk_far ?_ NB231_236.out _; (with_reducible repeat (first | refine blk_drewN ?_ _ | refine blk_drew ?_ | refine blk_alloc ?_ _)); refine blk_far ?_ NB231_236.out _; (with_reducible repeat (first | refine blk_drewN ?_ _ | refine blk_drew ?_ | refine blk_alloc ?_ _)); refine blk_far ?_ NB231_236.out _; exact kb BK231⟩, ⟨by (with_reducible repeat (first | refine blk_drewN ?_ _ | refine blk_drew ?_ | refine blk_alloc ?_ _)); refine blk_put (cs := #[.int .i8 ((rd_T38 l1 x12_1).f0.f0), .int .i8 ((rd_T38 l1 x12_1).f0.f1), .int .i8 ((rd_T38 l1 x12_1).f1), .int .i8 ((rd_T38 l1 x12_1).f2), .int .i8 ((rd_T38 l1 x12_1).f3), .int .i8 0]) ?_ 5 _ rfl; (with_reducible repeat (first | refine blk_drewN ?_ _ | refine blk_drew ?_ | refine blk_alloc ?_ _)); refine blk_put (cs := #[.int .i8 ((rd_T38 l1 x12_1).f0.f0), .int .i8 ((rd_T38 l1 x12_1).f0.f1), .int .i8 ((rd_T38 l1 x12_1).f1), .int .i8 ((rd_T38 l1 x12_1).f2), .int .i8 0, .int .i8 0]) ?_ 4 _ rfl; (with_reducible repeat (first | refine blk_drewN ?_ _ | refine blk_drew ?_ | refine blk_alloc ?_ _)); refine blk_put (cs := #[.int .i8 ((rd_T38 l1 x12_1).f0.f0), .int .i8 ((rd_T38 l1 x12_1).f0.f1), .int .i8 ((rd_T38 l1 x12_1).f1), .int .i8 0, .int .i8 0, .int .i8 0]) ?_ 3 _ rfl; (with_reducible repeat (first | refine blk_drewN ?_ _ | refine blk_drew ?_ | refine blk_alloc ?_ _)); refine blk_put (cs := #[.int .i8 ((rd_T38 l1 x12_1).f0.f0), .int .i8 ((rd_T38 l1 x12_1).f0.f1), .int .i8 0, .int .i8 0, .int .i8 0, .int .i8 0]) ?_ 2 _ rfl; (with_reducible repeat (first | refine blk_drewN ?_ _ | refine blk_drew ?_ | refine blk_alloc ?_ _)); refine blk_put (cs := #[.int .i8 ((rd_T38 l1 x12_1).f0.f0), .int .i8 0, .int .i8 0, .int .i8 0, .int .i8 0, .int .i8 0]) ?_ 1 _ rfl; (with_reducible repeat (first | refine blk_drewN ?_ _ | refine blk_drew ?_ | refine blk_alloc ?_ _)); refine blk_put (cs := #[.int .i8 0, .int .i8 0, .int .i8 0, .int .i8 0, .int .i8 0, .int .i8 0]) ?_ 0 _ rfl; exact kb BK236⟩, ⟨be HB⟩⟩
      case round =>
       clear H'
       try clear c1
       try clear p2
       try clear q2
       try clear hx2
       try clear c6
       try clear c6b0
       try clear p6
       try clear c7
       try clear c7b0
       try clear c7b1
       try clear c8
       try clear c8b0
       try clear c10
       try clear hcz11_0
       try clear hcz11_1
       try clear hcz11_2
       try clear hcz11_3
       try clear hcz11_4
       try clear hcz11_5
       try clear hfz11_0
       try clear hfz11_1
       try clear hfz11_2
       try clear hfz11_3
       try clear hfz11_4
       try clear hfz11_5
       try clear hx235_0
       try clear hx235_1
       try clear hx235_2
       try clear hx235_3
       try clear hx235_4
       try clear hx235_5
       try clear p2
       try clear p235
       try clear q235
       obtain ⟨x5_2, x8_2, rfl, HA, HK2, HO_5, BK231, BK236, HB⟩ := hrel
       cases gk with
       | zero => exact absurd HA.out (by simp [impl_pairs.l1])
       | succ k2 =>
        have H := HA.out
        clear HA
        simp only [impl_pairs.l1] at H
        by_cases c12 : x8_2 < (l1.length : Int)
        ·rw [if_pos c12] at H
         have c12b0 : decide (x8_2 < (l1.length : Int)) = true := decide_eq_true c12
         clear c12
         by_cases c13 : 0 ≤ x8_2
         ·rw [if_pos c13] at H
          have c13b0 : decide (0 ≤ x8_2) = true := decide_eq_true c13
          have c13b1 : 0 ≤ x8_2 := c13
          clear c13
          replace H := Option.bind_eq_some_iff.mp H
          obtain ⟨t238, A140, H⟩ := H
          try dsimp only at H
          have A14 := am A140
          clear A140
          by_cases c15 : t238 = true
          ·subst c15
           rw [if_pos rfl] at H
           by_cases c16 : x5_2.length < 8796093022208
           ·rw [if_pos c16] at H
            have LMc16 := am c16
            clear c16
            obtain ⟨y239, hy239⟩ : ∃ y_ : List (S82), y_ = (x5_2 ++ [(⟨x12_1, x8_2⟩ : S82)]) := ⟨_, rfl⟩
            replace H : (impl_pairs.l1 k2 l1 y239 x12_1 (wrap64 (x8_2 + 1)) l1 (l1.length : Int) x12_1 a0_0 a0_1 a0_2 ((rd_T38 l1 x12_1).f0.f0) ((rd_T38 l1 x12_1).f0.f1) ((rd_T38 l1 x12_1).f1) ((rd_T38 l1 x12_1).f2) ((rd_T38 l1 x12_1).f3) ((rd_T38 l1 x12_1).f4)) = some r := by first | (rw [hy239]; with_reducible exact H) | (have H2_ := (Option.bind_some _ _).symm.trans H; rw [hy239]; with_reducible exact H2_) | (have H2_ := (Option.bind_some _ _).symm.trans H; with_reducible exact H2_) | with_reducible exact H | (rw [hy239]; exact H) | exact H
            have Ny239 := am hy239
            clear hy239
            have H' := am H
            clear H
            try go_wp2
            have n0_ := am (Kd.R_drew HO_5.out)
            have n1_ := am (blk_drew BK231.out)
            have n2_ := am (blk_drew BK236.out)
            have n3_ := am (below_drew1 HB.out)
            clear HO_5
            clear BK231
            clear BK236
            clear HB
            have HO_5 := n0_
            have BK231 := n1_
            have BK236 := n2_
            have HB := n3_
            clear n0_ n1_ n2_ n3_
            have p237 : 0 ≤ (x8_2 : Int) := of_decide_eq_true (by first | (with_reducible assumption) | assumption)
            have q237 : x8_2 < (l1.length : Int) := of_decide_eq_true (by first | (with_reducible assumption) | assumption)
            obtain ⟨ad237, e237, hx237_0, hx237_1, hx237_2, hx237_3, hx237_4, hx237_5⟩ := at_T38 HR1.out x8_2 p237 q237
            have hw237_5 := hx237_5
            have hw237_4 := hx237_4
            have hw237_3 := hx237_3
            have hw237_2 := hx237_2
            have hw237_1 := hx237_1
            have hw237_0 := hx237_0
            obtain rfl : ad235 = ad237 := (by injection e237)
            replace hx237_0 := (HB.out.cell (World.block_lt_of_cell? w _ hx237_0)).trans hx237_0
            replace hx237_1 := (HB.out.cell (World.block_lt_of_cell? w _ hx237_1)).trans hx237_1
            replace hx237_2 := (HB.out.cell (World.block_lt_of_cell? w _ hx237_2)).trans hx237_2
            replace hx237_3 := (HB.out.cell (World.block_lt_of_cell? w _ hx237_3)).trans hx237_3
            replace hx237_4 := (HB.out.cell (World.block_lt_of_cell? w _ hx237_4)).trans hx237_4
            replace hx237_5 := (HB.out.cell (World.block_lt_of_cell? w _ hx237_5)).trans hx237_5
            replace p237 := eq_true p237
            replace q237 := eq_true q237
            refine start_ (n := 7) (S := fun w' => w'.cell? ⟨gb231, 0, none⟩ = some (.int .i8 a0_0) ∧ w'.cell? ⟨gb231, 1, none⟩ = some (.int .i8 a0_1) ∧ atCells w' gb231 a0_2 ∧ BayAt28 w' gb231 ∧ lvv w' gb231 = .agg (csBay a0_0 a0_1 a0_2) ∧ w'.cell? ⟨gb236, 0, none⟩ = some (.int .i8 ((rd_T38 l1 x12_1).f0.f0)) ∧ w'.cell? ⟨gb236, 1, none⟩ = some (.int .i8 ((rd_T38 l1 x12_1).f0.f1)) ∧ w'.cell? ⟨gb236, 2, none⟩ = some (.int .i8 ((rd_T38 l1 x12_1).f1)) ∧ w'.cell? ⟨gb236, 3, none⟩ = some (.int .i8 ((rd_T38 l1 x12_1).f2)) ∧ w'.cell? ⟨gb236, 4, none⟩ = some (.int .i8 ((rd_T38 l1 x12_1).f3)) ∧ w'.cell? ⟨gb236, 5, none⟩ = some (.int .i8 ((rd_T38 l1 x12_1).f4)) ∧ w'.cell? (ad235.add ((x8_2).toNat * 6)) = some (.int .i8 ((rd_T38 l1 x8_2).f0.f0)) ∧ w'.cell? ⟨(ad235.add ((x8_2).toNat * 6)).block, (ad235.add ((x8_2).toNat * 6)).off + 1, none⟩ = some (.int .i8 ((rd_T38 l1 x8_2).f0.f1)) ∧ w'.cell? ⟨(ad235.add ((x8_2).toNat * 6)).block, (ad235.add ((x8_2).toNat * 6)).off + 2, none⟩ = some (.int .i8 ((rd_T38 l1 x8_2).f1)) ∧ w'.cell? ⟨(ad235.add ((x8_2).toNat * 6)).block, (ad235.add ((x8_2).toNat * 6)).off + 3, none⟩ = some (.int .i8 ((rd_T38 l1 x8_2).f2)) ∧ w'.cell? ⟨(ad235.add ((x8_2).toNat * 6)).block, (ad235.add ((x8_2).toNat * 6)).off + 4, none⟩ = some (.int .i8 ((rd_T38 l1 x8_2).f3)) ∧ w'.cell? ⟨(ad235.add ((x8_2).toNat * 6)).block, (ad235.add ((x8_2).toNat * 6)).off + 5, none⟩ = some (.int .i8 ((rd_T38 l1 x8_2).f4))) (ds := []) #[false, false, false, false, false, false, false] (by kernel_rfl) rfl rfl ⟨(blk_cell BK231.out 0).trans rfl, (blk_cell BK231.out 1).trans rfl, at_cells BK231.out, BayAt28_of BK231.out, lvv_of BK231.out, (blk_cell BK236.out 0).trans rfl, (blk_cell BK236.out 1).trans rfl, (blk_cell BK236.out 2).trans rfl, (blk_cell BK236.out 3).trans rfl, (blk_cell BK236.out 4).trans rfl, (blk_cell BK236.out 5).trans rfl, ((HB.out.cell (World.block_lt_of_cell? w _ hw237_0)).trans hw237_0), ((HB.out.cell (World.block_lt_of_cell? w _ hw237_1)).trans hw237_1), ((HB.out.cell (World.block_lt_of_cell? w _ hw237_2)).trans hw237_2), ((HB.out.cell (World.block_lt_of_cell? w _ hw237_3)).trans hw237_3), ((HB.out.cell (World.block_lt_of_cell? w _ hw237_4)).trans hw237_4), ((HB.out.cell (World.block_lt_of_cell? w _ hw237_5)).trans hw237_5)⟩ (fun hHeld => ?_)
            generalize wr.drew = w17 at HO_5 BK231 BK236 HB hx237_0 hx237_1 hx237_2 hx237_3 hx237_4 hx237_5 hHeld ⊢
            refine pure_ (i := 2) (N := some 27) (v := ?_) (a' := ?_) #[false, false, true, false, false, false, false] rfl rfl (by kernel_rfl) (fun _ _ _ h => h) (Or.inl ⟨by rfl, ?_⟩) ?_ ?_
            rotate_left
            ·intro w'
             go_simp
             with_reducible rfl
            rotate_left
            ·simp only [Act.put, List.setIfInBounds_toArray, List.set_cons_zero, List.set_cons_succ, i64_w, i32_w]
             rfl
            refine pure_ (i := 3) (N := some 28) (v := ?_) (a' := ?_) #[false, false, true, true, false, false, false] rfl rfl (by kernel_rfl) (fun _ _ _ h => h) (Or.inl ⟨by rfl, ?_⟩) ?_ ?_
            rotate_left
            ·intro w'
             go_simp
             with_reducible rfl
            rotate_left
            ·simp only [Act.put, List.setIfInBounds_toArray, List.set_cons_zero, List.set_cons_succ, i64_w, i32_w]
             rfl
            refine pure_ (i := 4) (N := some 29) (v := ?_) (a' := ?_) #[false, false, true, true, true, false, false] rfl rfl (by kernel_rfl) (fun _ _ _ h => h) (Or.inl ⟨by rfl, ?_⟩) ?_ ?_
            rotate_left
            ·intro w'
             go_simp
             with_reducible rfl
            rotate_left
            ·simp only [Act.put, List.setIfInBounds_toArray, List.set_cons_zero, List.set_cons_succ, i64_w, i32_w]
             rfl
            refine take_ (i := 0) (N := some 25) (v := ?_) (a' := ?_) #[true, false, true, true, true, false, false] rfl rfl (by kernel_rfl) (fun _ _ _ h => h) (Or.inl ⟨by rfl, ?_⟩) hHeld ?_ ?_
            rotate_left
            ·rintro w' ⟨s0, s1, s2, s3, s4, s5, s6, s7, s8, s9, s10, s11, s12, s13, s14, s15, s16⟩
             go_simp
             with_reducible rfl
            rotate_left
            ·simp only [Act.put, List.setIfInBounds_toArray, List.set_cons_zero, List.set_cons_succ, i64_w, i32_w]
             rfl
            refine take_ (i := 1) (N := some 26) (v := ?_) (a' := ?_) #[true, true, true, true, true, false, false] rfl rfl (by kernel_rfl) (fun _ _ _ h => h) (Or.inl ⟨by rfl, ?_⟩) hHeld ?_ ?_
            rotate_left
            ·rintro w' ⟨s0, s1, s2, s3, s4, s5, s6, s7, s8, s9, s10, s11, s12, s13, s14, s15, s16⟩
             go_simp
             with_reducible rfl
            rotate_left
            ·simp only [Act.put, List.setIfInBounds_toArray, List.set_cons_zero, List.set_cons_succ, i64_w, i32_w]
             rfl
            refine take_ (i := 5) (N := some 30) (v := ?_) (a' := ?_) #[true, true, true, true, true, true, false] rfl rfl (by kernel_rfl) (fun _ _ _ h => h) (Or.inl ⟨by rfl, ?_⟩) hHeld ?_ ?_
            rotate_left
            ·rintro w' ⟨s0, s1, s2, s3, s4, s5, s6, s7, s8, s9, s10, s11, s12, s13, s14, s15, s16⟩
             go_simp
             with_reducible rfl
            rotate_left
            ·simp only [Act.put, List.setIfInBounds_toArray, List.set_cons_zero, List.set_cons_succ, i64_w, i32_w]
             rfl
            refine one_ (i := 6) (N := some 31) #[true, true, true, true, true, true, true] rfl rfl (by kernel_rfl) (by decide) (fun K hK => ?_)
            refine goes_ Try.func119 (by kernel_rfl) rfl #[.agg (csBay a0_0 a0_1 a0_2), .agg #[.int .i8 ((rd_T38 l1 x12_1).f0.f0), .int .i8 ((rd_T38 l1 x12_1).f0.f1), .int .i8 ((rd_T38 l1 x12_1).f1), .int .i8 ((rd_T38 l1 x12_1).f2), .int .i8 ((rd_T38 l1 x12_1).f3), .int .i8 ((rd_T38 l1 x12_1).f4)], .agg #[.int .i8 ((rd_T38 l1 x8_2).f0.f0), .int .i8 ((rd_T38 l1 x8_2).f0.f1), .int .i8 ((rd_T38 l1 x8_2).f1), .int .i8 ((rd_T38 l1 x8_2).f2), .int .i8 ((rd_T38 l1 x8_2).f3), .int .i8 ((rd_T38 l1 x8_2).f4)]] (by rfl) rfl rfl (by (try simp only [List.map_toArray, List.map_cons, List.map_nil]); first | done | rfl | (simp only [List.length_drop, List.length_take]; rfl)) ?_
            with_reducible refine (impl_touch.calls k2 a0_0 a0_1 a0_2 ((rd_T38 l1 x12_1).f0.f0) ((rd_T38 l1 x12_1).f0.f1) ((rd_T38 l1 x12_1).f1) ((rd_T38 l1 x12_1).f2) ((rd_T38 l1 x12_1).f3) ((rd_T38 l1 x12_1).f4) ((rd_T38 l1 x8_2).f0.f0) ((rd_T38 l1 x8_2).f0.f1) ((rd_T38 l1 x8_2).f1) ((rd_T38 l1 x8_2).f2) ((rd_T38 l1 x8_2).f3) ((rd_T38 l1 x8_2).f4) true _ A14.out).mono ?_
            rintro e w18 ⟨rfl, hb⟩
            refine ⟨_, rfl, ?_⟩
            have n0_ := am (Kd.R_below (kr HO_5) hb)
            have n1_ := bB BK231 hb
            have n2_ := bB BK236 hb
            have n3_ := am (below_step (be HB) hb)
            clear HO_5
            clear BK231
            clear BK236
            clear HB
            have HO_5 := n0_
            have BK231 := n1_
            have BK236 := n2_
            have HB := n3_
            clear n0_ n1_ n2_ n3_
            (try clear hb)
            (try clear hb2)
            (try clear hk)
            (try clear hi)
            refine hK.out _ _ ⟨(blk_cell BK231.out 0).trans rfl, (blk_cell BK231.out 1).trans rfl, at_cells BK231.out, BayAt28_of BK231.out, lvv_of BK231.out, (blk_cell BK236.out 0).trans rfl, (blk_cell BK236.out 1).trans rfl, (blk_cell BK236.out 2).trans rfl, (blk_cell BK236.out 3).trans rfl, (blk_cell BK236.out 4).trans rfl, (blk_cell BK236.out 5).trans rfl, ((HB.out.cell (World.block_lt_of_cell? w _ hw237_0)).trans hw237_0), ((HB.out.cell (World.block_lt_of_cell? w _ hw237_1)).trans hw237_1), ((HB.out.cell (World.block_lt_of_cell? w _ hw237_2)).trans hw237_2), ((HB.out.cell (World.block_lt_of_cell? w _ hw237_3)).trans hw237_3), ((HB.out.cell (World.block_lt_of_cell? w _ hw237_4)).trans hw237_4), ((HB.out.cell (World.block_lt_of_cell? w _ hw237_5)).trans hw237_5)⟩ (fun hHeld => ?_)
            clear hK K
            refine norm_ (a' := ?_) ?_ ?_
            rotate_left
            ·show Act.put _ (some 31) _ = _
             simp only [Act.put, List.setIfInBounds_toArray, List.set_cons_zero, List.set_cons_succ, i64_w, i32_w]
             rfl
            refine done_ (by kernel_rfl) ?_
            try go_wp2_with (first | ((with_reducible refine gate_builtin (b := .append) (xs := #[.tmp 32, .tmp 36]) rfl ?_); at_builtin; refine Kd.R_append k82 (w0 := w) w.heap.size rfl (.tmp 32) (.tmp 36) 61 82 (.agg #[(.int .i64 0), (.int .i64 0)]) 16 rfl Try.underlying61 info82 rfl (by decide) (by omega) u5 x5_2 (⟨x12_1, x8_2⟩ : S82) [.int .i64 x12_1, .int .i64 x8_2] (fun _ => True) (fun _ => False) rfl rfl ?aP (fun _ hk => hk.elim) ?aF ?aO ?aB ?aS ?aL ?_; (case aP => exact k82_mkM _ _ _ (⟨x12_1, x8_2⟩ : S82)); (case aB => exact (be HB)); (case aF => exact (fun _ _ => trivial)); (case aO => exact (kr HO_5)); (case aS => exact (below_size (be HB))); (case aL => have := LMc16.out; omega); intro v240 w19 ho hb hg hat; rw [← Ny239.out] at ho; have HO241 := am (ho); replace BK231 := am (blk_grown (g := gb231) (o := .cells (csBay a0_0 a0_1 a0_2) 28 (0, 0)) (kb BK231) hg (Kd.R_ne HO_5.out BK231.out (by decide))); replace BK236 := am (blk_grown (g := gb236) (o := .cells #[.int .i8 ((rd_T38 l1 x12_1).f0.f0), .int .i8 ((rd_T38 l1 x12_1).f0.f1), .int .i8 ((rd_T38 l1 x12_1).f1), .int .i8 ((rd_T38 l1 x12_1).f2), .int .i8 ((rd_T38 l1 x12_1).f3), .int .i8 ((rd_T38 l1 x12_1).f4)] 38 (0, 0)) (kb BK236) hg (Kd.R_ne HO_5.out BK236.out (by decide))); replace HB := am (hb); clear HO_5; clear ho hb hg hat))
            go_roundg k2
            case measure => have := HK1.out; have := HK2.out; omega
            case rel => exact ⟨(y239), (wrap64 (x8_2 + 1)), vx, H', ⟨by have := HK1.out; have := HK2.out; omega⟩, ⟨kr HO241⟩, ⟨kb BK231⟩, ⟨kb BK236⟩, ⟨be HB⟩⟩
           ·rw [if_neg c16] at H
            exact absurd H (by simp)
          ·replace c15 := Bool.eq_false_iff.mpr c15
           subst c15
           have H1 : (impl_pairs.l1 k2 l1 x5_2 x12_1 (wrap64 (x8_2 + 1)) l1 (l1.length : Int) x12_1 a0_0 a0_1 a0_2 ((rd_T38 l1 x12_1).f0.f0) ((rd_T38 l1 x12_1).f0.f1) ((rd_T38 l1 x12_1).f1) ((rd_T38 l1 x12_1).f2) ((rd_T38 l1 x12_1).f3) ((rd_T38 l1 x12_1).f4)) = some r := by rw [if_neg (show ¬ (false = true) by decide)] at H; exact H
           clear H
           have H := H1
           clear H1
           have H' := am H
           clear H
           try go_wp2
           have n0_ := am (Kd.R_drew HO_5.out)
           have n1_ := am (blk_drew BK231.out)
           have n2_ := am (blk_drew BK236.out)
           have n3_ := am (below_drew1 HB.out)
           clear HO_5
           clear BK231
           clear BK236
           clear HB
           have HO_5 := n0_
           have BK231 := n1_
           have BK236 := n2_
           have HB := n3_
           clear n0_ n1_ n2_ n3_
           have p237 : 0 ≤ (x8_2 : Int) := of_decide_eq_true (by first | (with_reducible assumption) | assumption)
           have q237 : x8_2 < (l1.length : Int) := of_decide_eq_true (by first | (with_reducible assumption) | assumption)
           obtain ⟨ad237, e237, hx237_0, hx237_1, hx237_2, hx237_3, hx237_4, hx237_5⟩ := at_T38 HR1.out x8_2 p237 q237
           have hw237_5 := hx237_5
           have hw237_4 := hx237_4
           have hw237_3 := hx237_3
           have hw237_2 := hx237_2
           have hw237_1 := hx237_1
           have hw237_0 := hx237_0
           obtain rfl : ad235 = ad237 := (by injection e237)
           replace hx237_0 := (HB.out.cell (World.block_lt_of_cell? w _ hx237_0)).trans hx237_0
           replace hx237_1 := (HB.out.cell (World.block_lt_of_cell? w _ hx237_1)).trans hx237_1
           replace hx237_2 := (HB.out.cell (World.block_lt_of_cell? w _ hx237_2)).trans hx237_2
           replace hx237_3 := (HB.out.cell (World.block_lt_of_cell? w _ hx237_3)).trans hx237_3
           replace hx237_4 := (HB.out.cell (World.block_lt_of_cell? w _ hx237_4)).trans hx237_4
           replace hx237_5 := (HB.out.cell (World.block_lt_of_cell? w _ hx237_5)).trans hx237_5
           replace p237 := eq_true p237
           replace q237 := eq_true q237
           refine start_ (n := 7) (S := fun w' => w'.cell? ⟨gb231, 0, none⟩ = some (.int .i8 a0_0) ∧ w'.cell? ⟨gb231, 1, none⟩ = some (.int .i8 a0_1) ∧ atCells w' gb231 a0_2 ∧ BayAt28 w' gb231 ∧ lvv w' gb231 = .agg (csBay a0_0 a0_1 a0_2) ∧ w'.cell? ⟨gb236, 0, none⟩ = some (.int .i8 ((rd_T38 l1 x12_1).f0.f0)) ∧ w'.cell? ⟨gb236, 1, none⟩ = some (.int .i8 ((rd_T38 l1 x12_1).f0.f1)) ∧ w'.cell? ⟨gb236, 2, none⟩ = some (.int .i8 ((rd_T38 l1 x12_1).f1)) ∧ w'.cell? ⟨gb236, 3, none⟩ = some (.int .i8 ((rd_T38 l1 x12_1).f2)) ∧ w'.cell? ⟨gb236, 4, none⟩ = some (.int .i8 ((rd_T38 l1 x12_1).f3)) ∧ w'.cell? ⟨gb236, 5, none⟩ = some (.int .i8 ((rd_T38 l1 x12_1).f4)) ∧ w'.cell? (ad235.add ((x8_2).toNat * 6)) = some (.int .i8 ((rd_T38 l1 x8_2).f0.f0)) ∧ w'.cell? ⟨(ad235.add ((x8_2).toNat * 6)).block, (ad235.add ((x8_2).toNat * 6)).off + 1, none⟩ = some (.int .i8 ((rd_T38 l1 x8_2).f0.f1)) ∧ w'.cell? ⟨(ad235.add ((x8_2).toNat * 6)).block, (ad235.add ((x8_2).toNat * 6)).off + 2, none⟩ = some (.int .i8 ((rd_T38 l1 x8_2).f1)) ∧ w'.cell? ⟨(ad235.add ((x8_2).toNat * 6)).block, (ad235.add ((x8_2).toNat * 6)).off + 3, none⟩ = some (.int .i8 ((rd_T38 l1 x8_2).f2)) ∧ w'.cell? ⟨(ad235.add ((x8_2).toNat * 6)).block, (ad235.add ((x8_2).toNat * 6)).off + 4, none⟩ = some (.int .i8 ((rd_T38 l1 x8_2).f3)) ∧ w'.cell? ⟨(ad235.add ((x8_2).toNat * 6)).block, (ad235.add ((x8_2).toNat * 6)).off + 5, none⟩ = some (.int .i8 ((rd_T38 l1 x8_2).f4))) (ds := []) #[false, false, false, false, false, false, false] (by kernel_rfl) rfl rfl ⟨(blk_cell BK231.out 0).trans rfl, (blk_cell BK231.out 1).trans rfl, at_cells BK231.out, BayAt28_of BK231.out, lvv_of BK231.out, (blk_cell BK236.out 0).trans rfl, (blk_cell BK236.out 1).trans rfl, (blk_cell BK236.out 2).trans rfl, (blk_cell BK236.out 3).trans rfl, (blk_cell BK236.out 4).trans rfl, (blk_cell BK236.out 5).trans rfl, ((HB.out.cell (World.block_lt_of_cell? w _ hw237_0)).trans hw237_0), ((HB.out.cell (World.block_lt_of_cell? w _ hw237_1)).trans hw237_1), ((HB.out.cell (World.block_lt_of_cell? w _ hw237_2)).trans hw237_2), ((HB.out.cell (World.block_lt_of_cell? w _ hw237_3)).trans hw237_3), ((HB.out.cell (World.block_lt_of_cell? w _ hw237_4)).trans hw237_4), ((HB.out.cell (World.block_lt_of_cell? w _ hw237_5)).trans hw237_5)⟩ (fun hHeld => ?_)
           generalize wr.drew = w20 at HO_5 BK231 BK236 HB hx237_0 hx237_1 hx237_2 hx237_3 hx237_4 hx237_5 hHeld ⊢
           refine pure_ (i := 2) (N := some 27) (v := ?_) (a' := ?_) #[false, false, true, false, false, false, false] rfl rfl (by kernel_rfl) (fun _ _ _ h => h) (Or.inl ⟨by rfl, ?_⟩) ?_ ?_
           rotate_left
           ·intro w'
            go_simp
            with_reducible rfl
           rotate_left
           ·simp only [Act.put, List.setIfInBounds_toArray, List.set_cons_zero, List.set_cons_succ, i64_w, i32_w]
            rfl
           refine pure_ (i := 3) (N := some 28) (v := ?_) (a' := ?_) #[false, false, true, true, false, false, false] rfl rfl (by kernel_rfl) (fun _ _ _ h => h) (Or.inl ⟨by rfl, ?_⟩) ?_ ?_
           rotate_left
           ·intro w'
            go_simp
            with_reducible rfl
           rotate_left
           ·simp only [Act.put, List.setIfInBounds_toArray, List.set_cons_zero, List.set_cons_succ, i64_w, i32_w]
            rfl
           refine pure_ (i := 4) (N := some 29) (v := ?_) (a' := ?_) #[false, false, true, true, true, false, false] rfl rfl (by kernel_rfl) (fun _ _ _ h => h) (Or.inl ⟨by rfl, ?_⟩) ?_ ?_
           rotate_left
           ·intro w'
            go_simp
            with_reducible rfl
           rotate_left
           ·simp only [Act.put, List.setIfInBounds_toArray, List.set_cons_zero, List.set_cons_succ, i64_w, i32_w]
            rfl
           refine take_ (i := 0) (N := some 25) (v := ?_) (a' := ?_) #[true, false, true, true, true, false, false] rfl rfl (by kernel_rfl) (fun _ _ _ h => h) (Or.inl ⟨by rfl, ?_⟩) hHeld ?_ ?_
           rotate_left
           ·rintro w' ⟨s0, s1, s2, s3, s4, s5, s6, s7, s8, s9, s10, s11, s12, s13, s14, s15, s16⟩
            go_simp
            with_reducible rfl
           rotate_left
           ·simp only [Act.put, List.setIfInBounds_toArray, List.set_cons_zero, List.set_cons_succ, i64_w, i32_w]
            rfl
           refine take_ (i := 1) (N := some 26) (v := ?_) (a' := ?_) #[true, true, true, true, true, false, false] rfl rfl (by kernel_rfl) (fun _ _ _ h => h) (Or.inl ⟨by rfl, ?_⟩) hHeld ?_ ?_
           rotate_left
           ·rintro w' ⟨s0, s1, s2, s3, s4, s5, s6, s7, s8, s9, s10, s11, s12, s13, s14, s15, s16⟩
            go_simp
            with_reducible rfl
           rotate_left
           ·simp only [Act.put, List.setIfInBounds_toArray, List.set_cons_zero, List.set_cons_succ, i64_w, i32_w]
            rfl
           refine take_ (i := 5) (N := some 30) (v := ?_) (a' := ?_) #[true, true, true, true, true, true, false] rfl rfl (by kernel_rfl) (fun _ _ _ h => h) (Or.inl ⟨by rfl, ?_⟩) hHeld ?_ ?_
           rotate_left
           ·rintro w' ⟨s0, s1, s2, s3, s4, s5, s6, s7, s8, s9, s10, s11, s12, s13, s14, s15, s16⟩
            go_simp
            with_reducible rfl
           rotate_left
           ·simp only [Act.put, List.setIfInBounds_toArray, List.set_cons_zero, List.set_cons_succ, i64_w, i32_w]
            rfl
           refine one_ (i := 6) (N := some 31) #[true, true, true, true, true, true, true] rfl rfl (by kernel_rfl) (by decide) (fun K hK => ?_)
           refine goes_ Try.func119 (by kernel_rfl) rfl #[.agg (csBay a0_0 a0_1 a0_2), .agg #[.int .i8 ((rd_T38 l1 x12_1).f0.f0), .int .i8 ((rd_T38 l1 x12_1).f0.f1), .int .i8 ((rd_T38 l1 x12_1).f1), .int .i8 ((rd_T38 l1 x12_1).f2), .int .i8 ((rd_T38 l1 x12_1).f3), .int .i8 ((rd_T38 l1 x12_1).f4)], .agg #[.int .i8 ((rd_T38 l1 x8_2).f0.f0), .int .i8 ((rd_T38 l1 x8_2).f0.f1), .int .i8 ((rd_T38 l1 x8_2).f1), .int .i8 ((rd_T38 l1 x8_2).f2), .int .i8 ((rd_T38 l1 x8_2).f3), .int .i8 ((rd_T38 l1 x8_2).f4)]] (by rfl) rfl rfl (by (try simp only [List.map_toArray, List.map_cons, List.map_nil]); first | done | rfl | (simp only [List.length_drop, List.length_take]; rfl)) ?_
           with_reducible refine (impl_touch.calls k2 a0_0 a0_1 a0_2 ((rd_T38 l1 x12_1).f0.f0) ((rd_T38 l1 x12_1).f0.f1) ((rd_T38 l1 x12_1).f1) ((rd_T38 l1 x12_1).f2) ((rd_T38 l1 x12_1).f3) ((rd_T38 l1 x12_1).f4) ((rd_T38 l1 x8_2).f0.f0) ((rd_T38 l1 x8_2).f0.f1) ((rd_T38 l1 x8_2).f1) ((rd_T38 l1 x8_2).f2) ((rd_T38 l1 x8_2).f3) ((rd_T38 l1 x8_2).f4) false _ A14.out).mono ?_
           rintro e w21 ⟨rfl, hb⟩
           refine ⟨_, rfl, ?_⟩
           have n0_ := am (Kd.R_below (kr HO_5) hb)
           have n1_ := bB BK231 hb
           have n2_ := bB BK236 hb
           have n3_ := am (below_step (be HB) hb)
           clear HO_5
           clear BK231
           clear BK236
           clear HB
           have HO_5 := n0_
           have BK231 := n1_
           have BK236 := n2_
           have HB := n3_
           clear n0_ n1_ n2_ n3_
           (try clear hb)
           (try clear hb2)
           (try clear hk)
           (try clear hi)
           refine hK.out _ _ ⟨(blk_cell BK231.out 0).trans rfl, (blk_cell BK231.out 1).trans rfl, at_cells BK231.out, BayAt28_of BK231.out, lvv_of BK231.out, (blk_cell BK236.out 0).trans rfl, (blk_cell BK236.out 1).trans rfl, (blk_cell BK236.out 2).trans rfl, (blk_cell BK236.out 3).trans rfl, (blk_cell BK236.out 4).trans rfl, (blk_cell BK236.out 5).trans rfl, ((HB.out.cell (World.block_lt_of_cell? w _ hw237_0)).trans hw237_0), ((HB.out.cell (World.block_lt_of_cell? w _ hw237_1)).trans hw237_1), ((HB.out.cell (World.block_lt_of_cell? w _ hw237_2)).trans hw237_2), ((HB.out.cell (World.block_lt_of_cell? w _ hw237_3)).trans hw237_3), ((HB.out.cell (World.block_lt_of_cell? w _ hw237_4)).trans hw237_4), ((HB.out.cell (World.block_lt_of_cell? w _ hw237_5)).trans hw237_5)⟩ (fun hHeld => ?_)
           clear hK K
           refine norm_ (a' := ?_) ?_ ?_
           rotate_left
           ·show Act.put _ (some 31) _ = _
            simp only [Act.put, List.setIfInBounds_toArray, List.set_cons_zero, List.set_cons_succ, i64_w, i32_w]
            rfl
           refine done_ (by kernel_rfl) ?_
           try go_wp2
           go_roundg k2
           case measure => have := HK1.out; have := HK2.out; omega
           case rel => exact ⟨(x5_2), (wrap64 (x8_2 + 1)), vx, H', ⟨by have := HK1.out; have := HK2.out; omega⟩, ⟨kr HO_5⟩, ⟨kb BK231⟩, ⟨kb BK236⟩, ⟨be HB⟩⟩
         ·rw [if_neg c13] at H
          exact absurd H (by simp)
        ·rw [if_neg c12] at H
         have c12b0 : decide (x8_2 < (l1.length : Int)) = false := decide_eq_false c12
         clear c12
         have H' := am H
         clear H
         go_wp2
         go_roundg k2
         case measure => have := HK1.out; have := HK2.out; omega
         case rel => exact ⟨(x5_2), (wrap64 (x12_1 + 1)), vx, H', ⟨by have := HK1.out; have := HK2.out; omega⟩, ⟨kr HO_5⟩, ⟨kb BK231⟩, ⟨be HB⟩⟩
     ·rw [if_neg c8] at H
      exact absurd H (by simp)
    ·rw [if_neg c7] at H
     exact absurd H (by simp)
   ·rw [if_neg c6] at H
    have c6b0 : decide (x12_1 < (l1.length : Int)) = false := decide_eq_false c6
    clear c6
    obtain rfl := Option.some.inj H
    go_wp2
    go_ret
    exact ⟨_, by first | rfl | (simp [errW_none, errW_some] <;> rfl) | (simp [*, errW_none, errW_some] <;> rfl), by (with_reducible repeat (first | apply Kd.R_alloc | apply Kd.R_drewN | apply Kd.R_drew)); exact HO_5.out, be HB⟩

/-! ### impl_TouchPairs: function 55 -/
def impl_TouchPairs.f (k : Nat) (a0_0 : Int) (a0_1 : Int) (a0_2 : (Nat → Int)) (l1 : List (S38)) : Option ((List (S82)) × Int) := (impl_boatsCode.f k a0_0 a0_1 a0_2 l1).bind fun t243 => (if t243 = 0 then ((impl_pairs.f k a0_0 a0_1 a0_2 l1).bind fun t244 => (some (t244, 0))) else (some (([] : List (S82)), t243)))
set_option maxHeartbeats 8000000 in
set_option maxRecDepth 100000 in
theorem impl_TouchPairs.calls (k : Nat) (a0_0 : Int) (a0_1 : Int) (a0_2 : (Nat → Int)) (A1 : Option Addr) (c1 : Nat) (l1 : List (S38)) (r1 : List (S82)) (r2 : Int) (w : World) (hr1 : Kd.C k38 w A1 l1.length l1) (hc1 : l1.length ≤ c1) (h : impl_TouchPairs.f k a0_0 a0_1 a0_2 l1 = some (r1, r2)) :
  Calls Try.prog 55 #[.agg (csBay a0_0 a0_1 a0_2), .slice A1 l1.length c1] w fun e w' => ∃ v0_ : Value, e = .returned (.tuple #[v0_, .int .i64 r2]) ∧ Kd.R k82 82 w' w.heap.size (fun _ => True) v0_ r1 ∧ Below w.heap.size w w' := by
 have hu28 := Try.underlying28
 have HR1 := am hr1
 have HC1 := am hc1
 clear hr1 hc1
 have HB := am (Below.refl w.heap.size w)
 have H : ((impl_boatsCode.f k a0_0 a0_1 a0_2 l1).bind fun t243 => (if t243 = 0 then ((impl_pairs.f k a0_0 a0_1 a0_2 l1).bind fun t244 => (some (t244, 0))) else (some (([] : List (S82)), t243)))) = some (r1, r2) := h
 clear h
 replace H := Option.bind_eq_some_iff.mp H
 obtain ⟨t243, A30, H⟩ := H
 try dsimp only at H
 have A3 := am A30
 clear A30
 by_cases c4 : t243 = 0
 ·rw [if_pos c4] at H
  have c4b0 : (t243 == 0) = true := beq_iff_eq.mpr c4
  have c4b1 : (t243 != 0) = false := bne_eq_false_iff_eq.mpr c4
  clear c4
  replace H := Option.bind_eq_some_iff.mp H
  obtain ⟨t244, A50, H⟩ := H
  try dsimp only at H
  have A5 := am A50
  clear A50
  simp only [Option.some.injEq, Prod.mk.injEq] at H
  obtain ⟨rfl, rfl⟩ := H
  go_enter Try.func55, Try.ntmps55
  go_wp2_with (first | ((with_reducible refine gate_dst (N := 2) rfl ?_); refine bxe (N := 2) (cs := (csBay a0_0 a0_1 a0_2)) (t := 28) ?_; intro gb242 hg w6 hbox hb; have BK242 := am (hbox); have GW242 := am (gN hg (below_size (be HB))); have GE242 := am (gN hg (below_size (be HB))); replace HB := am (below_step (be HB) hb); clear hb hbox hg; have hcz7_0 : w6.cell? ⟨gb242, 0, none⟩ = some (.int .i8 a0_0) := (blk_cell BK242.out 0).trans rfl; have hcz7_1 : w6.cell? ⟨gb242, 1, none⟩ = some (.int .i8 a0_1) := (blk_cell BK242.out 1).trans rfl; have hwz7 := lv28_at BK242.out; have haz7 := at_cells BK242.out; have hyz7 := BayAt28_of BK242.out; have hvz7 := lvv_of BK242.out; have hfz7_0 := blk_frozen BK242.out 0; have hfz7_1 := blk_frozen BK242.out 1; have hfz7_2 := blk_frozen BK242.out 2) | ((with_reducible refine gate_callee (f := 125) rfl ?_); refine gL (some 9) Try.func125 #[.agg (csBay a0_0 a0_1 a0_2), .slice A1 l1.length c1] ?_; (with_reducible refine (impl_boatsCode.calls k a0_0 a0_1 a0_2 _ _ l1 t243 _ ?side1 ?side2 A3.out).mono ?_); (case side1 => repeat (first | exact (Kd.C_below HR1.out HB.out) | (with_reducible refine Kd.C_alloc ?_ _) | (with_reducible refine Kd.C_drewN ?_ _) | (with_reducible refine Kd.C_drew ?_))); (case side2 => exact HC1.out); rintro e w8 ⟨rfl, hb⟩; refine ⟨_, rfl, ?_⟩; replace BK242 := bB BK242 hb; replace HB := am (below_step (be HB) hb); (try clear hb); (try clear hb2); (try clear hk); (try clear hi); have hcz9_0 : w8.cell? ⟨gb242, 0, none⟩ = some (.int .i8 a0_0) := (blk_cell BK242.out 0).trans rfl; have hcz9_1 : w8.cell? ⟨gb242, 1, none⟩ = some (.int .i8 a0_1) := (blk_cell BK242.out 1).trans rfl; have hwz9 := lv28_at BK242.out; have haz9 := at_cells BK242.out; have hyz9 := BayAt28_of BK242.out; have hvz9 := lvv_of BK242.out; have hfz9_0 := blk_frozen BK242.out 0; have hfz9_1 := blk_frozen BK242.out 1; have hfz9_2 := blk_frozen BK242.out 2) | ((with_reducible refine gate_callee (f := 126) rfl ?_); refine gL (some 15) Try.func126 #[.agg (csBay a0_0 a0_1 a0_2), .slice A1 l1.length c1] ?_; (with_reducible refine (impl_pairs.calls k a0_0 a0_1 a0_2 _ _ l1 t244 _ ?side1 ?side2 A5.out).mono ?_); (case side1 => repeat (first | exact (Kd.C_below HR1.out HB.out) | (with_reducible refine Kd.C_alloc ?_ _) | (with_reducible refine Kd.C_drewN ?_ _) | (with_reducible refine Kd.C_drew ?_))); (case side2 => exact HC1.out); rintro e w10 ⟨v245, rfl, ho0, hb⟩; refine ⟨_, rfl, ?_⟩; have HO246 := am (Kd.R_lower ho0 (below_size (be HB))); replace BK242 := bB BK242 hb; replace HB := am (below_step (be HB) hb); (try clear hb); (try clear hb2); (try clear hk); (try clear hi); (try clear ho0)))
  go_ret2
  exact ⟨_, by first | rfl | (simp [errW_none, errW_some] <;> rfl) | (simp [*, errW_none, errW_some] <;> rfl), by (with_reducible repeat (first | apply Kd.R_alloc | apply Kd.R_drewN | apply Kd.R_drew)); exact HO246.out, be HB⟩
 ·rw [if_neg c4] at H
  have c4b0 : (t243 == 0) = false := beq_eq_false_iff_ne.mpr c4
  have c4b1 : (t243 != 0) = true := bne_iff_ne.mpr c4
  simp only [Option.some.injEq, Prod.mk.injEq] at H
  obtain ⟨rfl, rfl⟩ := H
  go_enter Try.func55, Try.ntmps55
  go_wp2_with (first | ((with_reducible refine gate_dst (N := 2) rfl ?_); refine bxe (N := 2) (cs := (csBay a0_0 a0_1 a0_2)) (t := 28) ?_; intro gb242 hg w11 hbox hb; have BK242 := am (hbox); have GW242 := am (gN hg (below_size (be HB))); have GE242 := am (gN hg (below_size (be HB))); replace HB := am (below_step (be HB) hb); clear hb hbox hg; have hcz12_0 : w11.cell? ⟨gb242, 0, none⟩ = some (.int .i8 a0_0) := (blk_cell BK242.out 0).trans rfl; have hcz12_1 : w11.cell? ⟨gb242, 1, none⟩ = some (.int .i8 a0_1) := (blk_cell BK242.out 1).trans rfl; have hwz12 := lv28_at BK242.out; have haz12 := at_cells BK242.out; have hyz12 := BayAt28_of BK242.out; have hvz12 := lvv_of BK242.out; have hfz12_0 := blk_frozen BK242.out 0; have hfz12_1 := blk_frozen BK242.out 1; have hfz12_2 := blk_frozen BK242.out 2) | ((with_reducible refine gate_callee (f := 125) rfl ?_); refine gL (some 9) Try.func125 #[.agg (csBay a0_0 a0_1 a0_2), .slice A1 l1.length c1] ?_; (with_reducible refine (impl_boatsCode.calls k a0_0 a0_1 a0_2 _ _ l1 t243 _ ?side1 ?side2 A3.out).mono ?_); (case side1 => repeat (first | exact (Kd.C_below HR1.out HB.out) | (with_reducible refine Kd.C_alloc ?_ _) | (with_reducible refine Kd.C_drewN ?_ _) | (with_reducible refine Kd.C_drew ?_))); (case side2 => exact HC1.out); rintro e w13 ⟨rfl, hb⟩; refine ⟨_, rfl, ?_⟩; replace BK242 := bB BK242 hb; replace HB := am (below_step (be HB) hb); (try clear hb); (try clear hb2); (try clear hk); (try clear hi)))
  go_ret2
  exact ⟨_, by first | rfl | (simp [errW_none, errW_some] <;> rfl) | (simp [*, errW_none, errW_some] <;> rfl), by first | exact Kd.R_nil _ _ _ _ _ | exact Kd.N_nil _ _ _ _ _ | exact Kd.V_nil _ _ _ _ _ | exact Kd.Q_nil _ _ _ _ _ | exact Kd.S_nil _ _ _ _ _, be HB⟩

/-! ### laws_eqInt64A2: function 127 -/
def laws_eqInt64A2.l0 : Nat → Int → Int → Int → Int → Int → Option (Bool)
 | 0, _, _, _, _, _ => none
 | k + 1, x5, x248000, x248001, x249000, x249001 => if x5 < 2 then (if 0 ≤ x5 then (if x5 = 0 then (if x248000 = x249000 then (laws_eqInt64A2.l0 k (wrap64 (x5 + 1)) x248000 x248001 x249000 x249001) else (some false)) else (if x5 = 1 then (if x248001 = x249001 then (laws_eqInt64A2.l0 k (wrap64 (x5 + 1)) x248000 x248001 x249000 x249001) else (some false)) else (none))) else (none)) else (some true)
def laws_eqInt64A2.f (k : Nat) (a0_0 : Int) (a0_1 : Int) (a1_0 : Int) (a1_1 : Int) : Option (Bool) := laws_eqInt64A2.l0 k 0 a0_0 a0_1 a1_0 a1_1
set_option maxHeartbeats 8000000 in
set_option maxRecDepth 100000 in
theorem laws_eqInt64A2.calls (k : Nat) (a0_0 : Int) (a0_1 : Int) (a1_0 : Int) (a1_1 : Int) (r : Bool) (w : World) (h : laws_eqInt64A2.f k a0_0 a0_1 a1_0 a1_1 = some r) :
  Calls Try.prog 127 #[.agg #[.int .i64 a0_0, .int .i64 a0_1], .agg #[.int .i64 a1_0, .int .i64 a1_1]] w fun e w' => e = .returned (.bool r) ∧ Below w.heap.size w w' := by
 have hu82 := Try.underlying82
 have HB := am (Below.refl w.heap.size w)
 have H : (laws_eqInt64A2.l0 k 0 a0_0 a0_1 a1_0 a1_1) = some r := h
 clear h
 have H' := am H
 clear H
 go_enter Try.func127, Try.ntmps127
 go_wp2_with (first | ((with_reducible refine gate_dst (N := 2) rfl ?_); refine bxe (N := 2) (cs := #[.int .i64 a0_0, .int .i64 a0_1]) (t := 82) ?_; intro gb247 hg w3 hbox hb; have BK247 := am (hbox); have GW247 := am (gN hg (below_size (be HB))); have GE247 := am (gN hg (below_size (be HB))); replace HB := am (below_step (be HB) hb); clear hb hbox hg) | ((with_reducible refine gate_dst (N := 3) rfl ?_); refine bxe (N := 3) (cs := #[.int .i64 a1_0, .int .i64 a1_1]) (t := 82) ?_; intro gb248 hg w4 hbox hb; have BK248 := am (hbox); have GW248 := am (gN hg (below_size (be HB))); have GE248 := am (gN hg (below_size (be HB))); have NB247_248 := nL BK247 hg; have NB248_247 := nR BK247 hg; replace BK247 := bB BK247 hb; replace HB := am (below_step (be HB) hb); clear hb hbox hg))
 repeat (go_quiet (first | ((with_reducible refine gate_dst (N := 2) rfl ?_); refine bxe (N := 2) (cs := #[.int .i64 a0_0, .int .i64 a0_1]) (t := 82) ?_; intro gb247 hg w3 hbox hb; have BK247 := am (hbox); have GW247 := am (gN hg (below_size (be HB))); have GE247 := am (gN hg (below_size (be HB))); replace HB := am (below_step (be HB) hb); clear hb hbox hg) | ((with_reducible refine gate_dst (N := 3) rfl ?_); refine bxe (N := 3) (cs := #[.int .i64 a1_0, .int .i64 a1_1]) (t := 82) ?_; intro gb248 hg w4 hbox hb; have BK248 := am (hbox); have GW248 := am (gN hg (below_size (be HB))); have GE248 := am (gN hg (below_size (be HB))); have NB247_248 := nL BK247 hg; have NB248_247 := nR BK247 hg; replace BK247 := bB BK247 hb; replace HB := am (below_step (be HB) hb); clear hb hbox hg)); try go_wp2_with (first | ((with_reducible refine gate_dst (N := 2) rfl ?_); refine bxe (N := 2) (cs := #[.int .i64 a0_0, .int .i64 a0_1]) (t := 82) ?_; intro gb247 hg w3 hbox hb; have BK247 := am (hbox); have GW247 := am (gN hg (below_size (be HB))); have GE247 := am (gN hg (below_size (be HB))); replace HB := am (below_step (be HB) hb); clear hb hbox hg) | ((with_reducible refine gate_dst (N := 3) rfl ?_); refine bxe (N := 3) (cs := #[.int .i64 a1_0, .int .i64 a1_1]) (t := 82) ?_; intro gb248 hg w4 hbox hb; have BK248 := am (hbox); have GW248 := am (gN hg (below_size (be HB))); have GE248 := am (gN hg (below_size (be HB))); have NB247_248 := nL BK247 hg; have NB248_247 := nR BK247 hg; replace BK247 := bB BK247 hb; replace HB := am (below_step (be HB) hb); clear hb hbox hg)))
 go_loopg [5] k (fun kq v5 w' => ∃ (x5_1 : Int), v5 = .int .i64 x5_1 ∧ Aside0 (laws_eqInt64A2.l0 kq x5_1 a0_0 a0_1 a1_0 a1_1 = some r) ∧ Aside0 (kq ≤ k) ∧ Aside0 (w'.heap[gb247]? = some (.cells #[.int .i64 a0_0, .int .i64 a0_1] 82 (0, 0))) ∧ Aside0 (w'.heap[gb248]? = some (.cells #[.int .i64 a1_0, .int .i64 a1_1] 82 (0, 0))) ∧ Aside0 (Below w.heap.size w w'))
 case atStart => exact ⟨(0), vx, H', ⟨Nat.le_refl _⟩, ⟨kb BK247⟩, ⟨kb BK248⟩, ⟨be HB⟩⟩
 case round =>
  clear H'
  try clear c1
  try clear p2
  obtain ⟨x5_1, rfl, HA, HK1, BK247, BK248, HB⟩ := hrel
  cases gk with
  | zero => exact absurd HA.out (by simp [laws_eqInt64A2.l0])
  | succ k1 =>
   have H := HA.out
   clear HA
   simp only [laws_eqInt64A2.l0] at H
   by_cases c5 : x5_1 < 2
   ·rw [if_pos c5] at H
    have c5b0 : decide (x5_1 < 2) = true := decide_eq_true c5
    clear c5
    by_cases c6 : 0 ≤ x5_1
    ·rw [if_pos c6] at H
     have c6b0 : decide (0 ≤ x5_1) = true := decide_eq_true c6
     have c6b1 : 0 ≤ x5_1 := c6
     clear c6
     by_cases c7 : x5_1 = 0
     ·subst c7
      rw [if_pos rfl] at H
      by_cases c8 : a0_0 = a1_0
      ·rw [if_pos c8] at H
       have c8b0 : (a0_0 == a1_0) = true := beq_iff_eq.mpr c8
       have c8b1 : (a0_0 != a1_0) = false := bne_eq_false_iff_eq.mpr c8
       clear c8
       have H' := am H
       clear H
       have hnb9 := NB247_248.out
       have hnc9 := NB248_247.out
       obtain ⟨hcz10_0, hcz10_1, hfz10_0, hfz10_1⟩ := bx2 BK247
       obtain ⟨hcz11_0, hcz11_1, hfz11_0, hfz11_1⟩ := bx2 BK248
       go_wp2
       repeat (go_quiet (fail); try go_wp2)
       go_roundg k1
       case measure => have := HK1.out; omega
       case rel => exact ⟨(wrap64 (0 + 1)), vx, H', ⟨by have := HK1.out; omega⟩, ⟨kb BK247⟩, ⟨kb BK248⟩, ⟨be HB⟩⟩
      ·rw [if_neg c8] at H
       have c8b0 : (a0_0 == a1_0) = false := beq_eq_false_iff_ne.mpr c8
       have c8b1 : (a0_0 != a1_0) = true := bne_iff_ne.mpr c8
       obtain rfl := Option.some.inj H
       have hnb12 := NB247_248.out
       have hnc12 := NB248_247.out
       obtain ⟨hcz13_0, hcz13_1, hfz13_0, hfz13_1⟩ := bx2 BK247
       obtain ⟨hcz14_0, hcz14_1, hfz14_0, hfz14_1⟩ := bx2 BK248
       go_wp2
       repeat (go_quiet (fail); try go_wp2)
       go_ret
       exact ⟨by first | rfl | (simp [errW_none, errW_some] <;> rfl) | (simp [*, errW_none, errW_some] <;> rfl), be HB⟩
     ·rw [if_neg c7] at H
      by_cases c15 : x5_1 = 1
      ·subst c15
       rw [if_pos rfl] at H
       by_cases c16 : a0_1 = a1_1
       ·rw [if_pos c16] at H
        have c16b0 : (a0_1 == a1_1) = true := beq_iff_eq.mpr c16
        have c16b1 : (a0_1 != a1_1) = false := bne_eq_false_iff_eq.mpr c16
        clear c16
        have H' := am H
        clear H
        have hnb17 := NB247_248.out
        have hnc17 := NB248_247.out
        obtain ⟨hcz18_0, hcz18_1, hfz18_0, hfz18_1⟩ := bx2 BK247
        obtain ⟨hcz19_0, hcz19_1, hfz19_0, hfz19_1⟩ := bx2 BK248
        go_wp2
        repeat (go_quiet (fail); try go_wp2)
        go_roundg k1
        case measure => have := HK1.out; omega
        case rel => exact ⟨(wrap64 (1 + 1)), vx, H', ⟨by have := HK1.out; omega⟩, ⟨kb BK247⟩, ⟨kb BK248⟩, ⟨be HB⟩⟩
       ·rw [if_neg c16] at H
        have c16b0 : (a0_1 == a1_1) = false := beq_eq_false_iff_ne.mpr c16
        have c16b1 : (a0_1 != a1_1) = true := bne_iff_ne.mpr c16
        obtain rfl := Option.some.inj H
        have hnb20 := NB247_248.out
        have hnc20 := NB248_247.out
        obtain ⟨hcz21_0, hcz21_1, hfz21_0, hfz21_1⟩ := bx2 BK247
        obtain ⟨hcz22_0, hcz22_1, hfz22_0, hfz22_1⟩ := bx2 BK248
        go_wp2
        repeat (go_quiet (fail); try go_wp2)
        go_ret
        exact ⟨by first | rfl | (simp [errW_none, errW_some] <;> rfl) | (simp [*, errW_none, errW_some] <;> rfl), be HB⟩
      ·rw [if_neg c15] at H
       exact absurd H (by simp)
    ·rw [if_neg c6] at H
     exact absurd H (by simp)
   ·rw [if_neg c5] at H
    have c5b0 : decide (x5_1 < 2) = false := decide_eq_false c5
    clear c5
    obtain rfl := Option.some.inj H
    go_wp2
    repeat (go_quiet (fail); try go_wp2)
    go_ret
    exact ⟨by first | rfl | (simp [errW_none, errW_some] <;> rfl) | (simp [*, errW_none, errW_some] <;> rfl), be HB⟩

end Go.Proofs.Ytcollbifdfhfoaa.PFnExactTouchPairs
