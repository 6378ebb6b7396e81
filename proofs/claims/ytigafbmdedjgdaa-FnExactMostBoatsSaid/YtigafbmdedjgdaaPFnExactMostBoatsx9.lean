-- Written by a program out of this seat's translation (functions, and that the code comes to them).
import Derived.Test.YtigafbmdedjgdaaPFnExactMostBoatsx0
import Derived.Test.YtigafbmdedjgdaaPFnExactMostBoatsx7
import Derived.Test.YtigafbmdedjgdaaPFnExactMostBoatsx8
namespace Go.Proofs.Ytigafbmdedjgdaa.PFnExactMostBoats
open Go.RowKit Go.Proofs.YtigafbmdedjgdaaW.PrintWords Go.Proofs.YtigafbmdedjgdaaW.PrintLast Go.Proofs.YtigafbmdedjgdaaW.PrintMore
attribute [local go_sem] max2_int min2_int max_two min_two max_three min_three max_four min_four   -- for this text's walks alone
open Go.Proofs.Ytigafbmdedjgdaa.Bay Go.Proofs.Ytigafbmdedjgdaa.Short
attribute [local go_sem ↓] lv26_eq lv32_eq
attribute [local go_sem] lvv_set lvv_drewN lvv_drew lv26_run BayAt26_set BayAt26_drewN BayAt26_drew lv32_run BayAt32_set BayAt32_drewN BayAt32_drew
set_option linter.unusedVariables false
set_option linter.unusedSimpArgs false

/-! ### impl_shoals: function 41 -/
def impl_shoals.l0 : Nat → List (S46) → List (S46) → Int → Int → Int → Int → (Nat → Int) → Int → Int → Int → Int → Int → Int → Option ((List (S46)))
 | 0, _, _, _, _, _, _, _, _, _, _, _, _, _ => none
 | k + 1, x5, x11, x12, x13, x316000, x316001, x316002, x317000, x317001, x317002, x317003, x317004, x317005 => if x13 < x12 then (if 0 ≤ x13 then (if x13 < (x11.length : Int) then ((impl_depth.f x316000 x316001 x316002 ((rd_T46 x11 x13).f0) ((rd_T46 x11 x13).f1)).bind fun t325 => (if t325 < (wrap64 (x317004)) then (if x5.length < 70368744177664 then (impl_shoals.l0 k (x5 ++ [(⟨(rd_T46 x11 x13).f0, (rd_T46 x11 x13).f1⟩ : S46)]) x11 x12 (wrap64 (x13 + 1)) x316000 x316001 x316002 x317000 x317001 x317002 x317003 x317004 x317005) else (none)) else (impl_shoals.l0 k x5 x11 x12 (wrap64 (x13 + 1)) x316000 x316001 x316002 x317000 x317001 x317002 x317003 x317004 x317005))) else (none)) else (none)) else (some x5)
def impl_shoals.f (k : Nat) (a0_0 : Int) (a0_1 : Int) (a0_2 : (Nat → Int)) (a1_0 : Int) (a1_1 : Int) (a1_2 : Int) (a1_3 : Int) (a1_4 : Int) (a1_5 : Int) : Option ((List (S46))) := (impl_swingPlaces.f k a0_0 a0_1 a0_2 a1_0 a1_1 a1_2 a1_3 a1_4 a1_5).bind fun t320 => (impl_shoals.l0 k (([] : List (S46))) t320 (t320.length : Int) 0 a0_0 a0_1 a0_2 a1_0 a1_1 a1_2 a1_3 a1_4 a1_5)
set_option maxHeartbeats 8000000 in
set_option maxRecDepth 100000 in
theorem impl_shoals.calls (k : Nat) (a0_0 : Int) (a0_1 : Int) (a0_2 : (Nat → Int)) (a1_0 : Int) (a1_1 : Int) (a1_2 : Int) (a1_3 : Int) (a1_4 : Int) (a1_5 : Int) (r : List (S46)) (w : World) (h : impl_shoals.f k a0_0 a0_1 a0_2 a1_0 a1_1 a1_2 a1_3 a1_4 a1_5 = some r) :
  Calls Try.prog 41 #[.agg (csBay a0_0 a0_1 a0_2), .agg #[.int .i8 a1_0, .int .i8 a1_1, .int .i8 a1_2, .int .i8 a1_3, .int .i8 a1_4, .int .i8 a1_5]] w fun e w' => ∃ v0_ : Value, e = .returned (v0_) ∧ Kd.R k46 46 w' w.heap.size (fun _ => True) v0_ r ∧ Below w.heap.size w w' := by
 have hu32 := Try.underlying32
 have hu48 := Try.underlying48
 have hu46 := Try.underlying46
 have HB := am (Below.refl w.heap.size w)
 have H : ((impl_swingPlaces.f k a0_0 a0_1 a0_2 a1_0 a1_1 a1_2 a1_3 a1_4 a1_5).bind fun t320 => (impl_shoals.l0 k (([] : List (S46))) t320 (t320.length : Int) 0 a0_0 a0_1 a0_2 a1_0 a1_1 a1_2 a1_3 a1_4 a1_5)) = some r := h
 clear h
 obtain ⟨y317, hy317⟩ : ∃ y_ : List (S46), y_ = (([] : List (S46))) := ⟨_, rfl⟩
 replace H : ((impl_swingPlaces.f k a0_0 a0_1 a0_2 a1_0 a1_1 a1_2 a1_3 a1_4 a1_5).bind fun t320 => (impl_shoals.l0 k y317 t320 (t320.length : Int) 0 a0_0 a0_1 a0_2 a1_0 a1_1 a1_2 a1_3 a1_4 a1_5)) = some r := by first | (rw [hy317]; with_reducible exact H) | (have H2_ := (Option.bind_some _ _).symm.trans H; rw [hy317]; with_reducible exact H2_) | (have H2_ := (Option.bind_some _ _).symm.trans H; with_reducible exact H2_) | with_reducible exact H | (rw [hy317]; exact H) | exact H
 have Ny317 := am hy317
 clear hy317
 replace H := Option.bind_eq_some_iff.mp H
 obtain ⟨t320, A30, H⟩ := H
 try dsimp only at H
 have A3 := am A30
 clear A30
 have H' := am H
 clear H
 go_enter Try.func41, Try.ntmps41
 go_wp2_with (first | ((with_reducible refine gate_dst (N := 2) rfl ?_); refine bxe (N := 2) (cs := (csBay a0_0 a0_1 a0_2)) (t := 32) ?_; intro gb315 hg w4 hbox hb; have BK315 := am (hbox); have GW315 := am (gN hg (below_size (be HB))); have GE315 := am (gN hg (below_size (be HB))); replace HB := am (below_step (be HB) hb); clear hb hbox hg) | ((with_reducible refine gate_dst (N := 3) rfl ?_); refine bxe (N := 3) (cs := #[.int .i8 a1_0, .int .i8 a1_1, .int .i8 a1_2, .int .i8 a1_3, .int .i8 a1_4, .int .i8 a1_5]) (t := 48) ?_; intro gb316 hg w5 hbox hb; have BK316 := am (hbox); have GW316 := am (gN hg (below_size (be HB))); have GE316 := am (gN hg (below_size (be HB))); have NB315_316 := nL BK315 hg; have NB316_315 := nR BK315 hg; replace BK315 := bB BK315 hb; replace HB := am (below_step (be HB) hb); clear hb hbox hg) | ((with_reducible refine gate_dst (N := 8) rfl ?_); refine Kd.R_lit k46 _ 46 ?hg (N := 8) ?hd (xs := ([] : List (S46))) (inner := []) (ok := fun _ => True) (okp := fun _ => True) ?hr ?hp (fun _ hk => hk) trivial (Below.refl _ _) (Nat.le_refl _) (by simp) ?_; (case hd => rfl); (case hg => rfl); (case hr => first | (go_simp; done) | (go_simp; rfl)); (case hp => exact (Reps.none _ _)); intro v318 w6 ho7 hb hg_ hnew_; clear hg_ hnew_; (first | rw [← Ny317.out] at ho7 | (simp only [Int.reduceToNat] at ho7; rw [← Ny317.out] at ho7)); have HO319 := am (Kd.R_lower ho7 (below_size (be HB))); replace BK315 := bB BK315 hb; replace BK316 := bB BK316 hb; replace HB := am (below_step (be HB) hb); clear hb ho7; have hnb8 := NB315_316.out; have hnc8 := NB316_315.out; obtain ⟨hcz9_0, hcz9_1, hwz9, haz9, hyz9, hvz9, hfz9_0, hfz9_1, hfz9_2⟩ := bb32 BK315; obtain ⟨hcz10_0, hcz10_1, hcz10_2, hcz10_3, hcz10_4, hcz10_5, hfz10_0, hfz10_1, hfz10_2, hfz10_3, hfz10_4, hfz10_5⟩ := bx6 BK316) | ((with_reducible refine gate_callee (f := 49) rfl ?_); refine gL (some 11) Try.func49 #[.agg (csBay a0_0 a0_1 a0_2), .agg #[.int .i8 a1_0, .int .i8 a1_1, .int .i8 a1_2, .int .i8 a1_3, .int .i8 a1_4, .int .i8 a1_5]] ?_; (with_reducible refine (impl_swingPlaces.calls k a0_0 a0_1 a0_2 a1_0 a1_1 a1_2 a1_3 a1_4 a1_5 t320 _ A3.out).mono ?_); rintro e w11 ⟨v321, rfl, ho0, hb⟩; refine ⟨_, rfl, ?_⟩; have HO322 := am (Kd.R_lower (Kd.R_new' ho0 (Kd.R_lt (kr HO319))) (below_size (be HB))); replace HO319 := am (Kd.R_elder' (kr HO319) (Kd.R_base ho0) hb); replace BK315 := bB BK315 hb; replace BK316 := bB BK316 hb; replace HB := am (below_step (be HB) hb); (try clear hb); (try clear hb2); (try clear hk); (try clear hi); (try clear ho0); obtain ⟨Ao12, co12, eo12⟩ := Kd.R_slice HO322.out; subst eo12))
 go_loopg [5, 13] k (fun kq v5 v13 w' => ∃ (x5_1 : List (S46)) (x13_1 : Int), v13 = .int .i64 x13_1 ∧ Aside0 (impl_shoals.l0 kq x5_1 t320 (t320.length : Int) x13_1 a0_0 a0_1 a0_2 a1_0 a1_1 a1_2 a1_3 a1_4 a1_5 = some r) ∧ Aside0 (kq ≤ k) ∧ Aside0 (Kd.R k46 46 w' w.heap.size (fun k_ => some k_ ≠ ((.slice Ao12 t320.length co12) : Value).ownBlock) v5 x5_1) ∧ Aside0 (Kd.R k46 46 w' w.heap.size (fun k_ => some k_ ≠ (v5 : Value).ownBlock) (.slice Ao12 t320.length co12) t320) ∧ Aside0 (w'.heap[gb315]? = some (.cells (csBay a0_0 a0_1 a0_2) 32 (0, 0))) ∧ Aside0 (w'.heap[gb316]? = some (.cells #[.int .i8 a1_0, .int .i8 a1_1, .int .i8 a1_2, .int .i8 a1_3, .int .i8 a1_4, .int .i8 a1_5] 48 (0, 0))) ∧ Aside0 (Below w.heap.size w w'))
 case atStart => exact ⟨(y317), (0), vv, H', ⟨Nat.le_refl _⟩, ⟨by (with_reducible repeat (first | apply Kd.R_alloc | apply Kd.R_drewN | apply Kd.R_drew)); exact Kd.R_mono HO319.out (fun _ hk => hk.2)⟩, ⟨by (with_reducible repeat (first | apply Kd.R_alloc | apply Kd.R_drewN | apply Kd.R_drew)); exact Kd.R_mono HO322.out (fun _ hk => hk.2)⟩, ⟨kb BK315⟩, ⟨kb BK316⟩, ⟨be HB⟩⟩
 case round =>
  clear H'
  try clear p2
  try clear c4
  try clear c8
  try clear hcz10_0
  try clear hcz10_1
  try clear hcz10_2
  try clear hcz10_3
  try clear hcz10_4
  try clear hcz10_5
  try clear hcz9_0
  try clear hcz9_1
  try clear hfz10_0
  try clear hfz10_1
  try clear hfz10_2
  try clear hfz10_3
  try clear hfz10_4
  try clear hfz10_5
  try clear hfz9_0
  try clear hfz9_1
  try clear hfz9_2
  obtain ⟨x5_1, x13_1, rfl, HA, HK1, HO_5, HO_11, BK315, BK316, HB⟩ := hrel
  cases gk with
  | zero => exact absurd HA.out (by simp [impl_shoals.l0])
  | succ k1 =>
   have H := HA.out
   clear HA
   simp only [impl_shoals.l0] at H
   by_cases c13 : x13_1 < (t320.length : Int)
   ·rw [if_pos c13] at H
    have c13b0 : decide (x13_1 < (t320.length : Int)) = true := decide_eq_true c13
    clear c13
    by_cases c14 : 0 ≤ x13_1
    ·rw [if_pos c14] at H
     have c14b0 : decide (0 ≤ x13_1) = true := decide_eq_true c14
     have c14b1 : 0 ≤ x13_1 := c14
     clear c14
     by_cases c15 : x13_1 < (t320.length : Int)
     ·rw [if_pos c15] at H
      have c15b0 : decide (x13_1 < (t320.length : Int)) = true := decide_eq_true c15
      clear c15
      replace H := Option.bind_eq_some_iff.mp H
      obtain ⟨t325, A160, H⟩ := H
      try dsimp only at H
      have A16 := am A160
      clear A160
      by_cases c17 : t325 < (wrap64 (a1_4))
      ·rw [if_pos c17] at H
       have c17b0 : decide (t325 < (wrap64 (a1_4))) = true := decide_eq_true c17
       clear c17
       by_cases c18 : x5_1.length < 70368744177664
       ·rw [if_pos c18] at H
        have LMc18 := am c18
        clear c18
        obtain ⟨y326, hy326⟩ : ∃ y_ : List (S46), y_ = (x5_1 ++ [(⟨(rd_T46 t320 x13_1).f0, (rd_T46 t320 x13_1).f1⟩ : S46)]) := ⟨_, rfl⟩
        replace H : (impl_shoals.l0 k1 y326 t320 (t320.length : Int) (wrap64 (x13_1 + 1)) a0_0 a0_1 a0_2 a1_0 a1_1 a1_2 a1_3 a1_4 a1_5) = some r := by first | (rw [hy326]; with_reducible exact H) | (have H2_ := (Option.bind_some _ _).symm.trans H; rw [hy326]; with_reducible exact H2_) | (have H2_ := (Option.bind_some _ _).symm.trans H; with_reducible exact H2_) | with_reducible exact H | (rw [hy326]; exact H) | exact H
        have Ny326 := am hy326
        clear hy326
        have H' := am H
        clear H
        have p323 : 0 ≤ (x13_1 : Int) := of_decide_eq_true (by first | (with_reducible assumption) | assumption)
        have q323 : x13_1 < (t320.length : Int) := of_decide_eq_true (by first | (with_reducible assumption) | assumption)
        obtain ⟨ad323, e323, hx323_0, hx323_1⟩ := at_T46 (Kd.R_reads' HO_11.out).2.2 x13_1 p323 q323
        cases e323
        replace p323 := eq_true p323
        replace q323 := eq_true q323
        try go_wp2_with (first | ((with_reducible refine gate_dst (N := 7) rfl ?_); refine bxe (N := 7) (cs := #[.int .i8 0, .int .i8 0]) (t := 46) ?_; intro gb324 hg w19 hbox hb; have BK324 := am (hbox); have GW324 := am (gN hg (below_size (be HB))); have GE324 := am (gN hg (below_size (be HB))); have NB315_324 := nL BK315 hg; have NB324_315 := nR BK315 hg; have NB316_324 := nL BK316 hg; have NB324_316 := nR BK316 hg; replace HO_5 := am (Kd.R_below (Kd.R_elderB (kr HO_5) gb324 (Nat.le_of_eq hg.symm)) hb); replace HO_11 := am (Kd.R_below (Kd.R_elderB (kr HO_11) gb324 (Nat.le_of_eq hg.symm)) hb); replace BK315 := bB BK315 hb; replace BK316 := bB BK316 hb; replace HB := am (below_step (be HB) hb); clear hb hbox hg; have hnb20 := NB324_315.out; have hnc20 := NB315_324.out; have hnb21 := NB324_316.out; have hnc21 := NB316_324.out; obtain ⟨hcz22_0, hcz22_1, hfz22_0, hfz22_1⟩ := bx2 BK324))
        have n0_ : Aside0 (Kd.R k46 46 ((w19.setCell ⟨gb324, 0, none⟩ (.int .i8 ((rd_T46 t320 x13_1).f0))).setCell ⟨gb324, 1, none⟩ (.int .i8 ((rd_T46 t320 x13_1).f1))) w.heap.size (fun k_ => some k_ ≠ (.slice (some ad323) t320.length co12 : Value).ownBlock ∧ k_ ≠ gb324) u5 x5_1) := ⟨by (with_reducible repeat (first | apply Kd.R_alloc | apply Kd.R_drewN | apply Kd.R_drew)); exact Kd.R_mono (Kd.R_far (p := ⟨gb324, 1, none⟩) (Kd.R_far (p := ⟨gb324, 0, none⟩) (Kd.R_mono HO_5.out (fun k_ hk => (⟨hk, hk.2⟩ : _ ∧ k_ ≠ gb324))) (fun _ hk => hk.2) (.int .i8 ((rd_T46 t320 x13_1).f0))) (fun _ hk => hk.2) (.int .i8 ((rd_T46 t320 x13_1).f1))) (fun _ hk => ⟨hk.1.1, hk.1.2⟩)⟩
        have n1_ : Aside0 (Kd.R k46 46 ((w19.setCell ⟨gb324, 0, none⟩ (.int .i8 ((rd_T46 t320 x13_1).f0))).setCell ⟨gb324, 1, none⟩ (.int .i8 ((rd_T46 t320 x13_1).f1))) w.heap.size (fun k_ => some k_ ≠ (u5 : Value).ownBlock ∧ k_ ≠ gb324) (.slice (some ad323) t320.length co12) t320) := ⟨by (with_reducible repeat (first | apply Kd.R_alloc | apply Kd.R_drewN | apply Kd.R_drew)); exact Kd.R_mono (Kd.R_far (p := ⟨gb324, 1, none⟩) (Kd.R_far (p := ⟨gb324, 0, none⟩) (Kd.R_mono HO_11.out (fun k_ hk => (⟨hk, hk.2⟩ : _ ∧ k_ ≠ gb324))) (fun _ hk => hk.2) (.int .i8 ((rd_T46 t320 x13_1).f0))) (fun _ hk => hk.2) (.int .i8 ((rd_T46 t320 x13_1).f1))) (fun _ hk => ⟨hk.1.1, hk.1.2⟩)⟩
        have n2_ : Aside0 (((w19.setCell ⟨gb324, 0, none⟩ (.int .i8 ((rd_T46 t320 x13_1).f0))).setCell ⟨gb324, 1, none⟩ (.int .i8 ((rd_T46 t320 x13_1).f1))).heap[gb315]? = some (.cells (csBay a0_0 a0_1 a0_2) 32 (0, 0))) := ⟨by (with_reducible repeat (first | refine blk_drewN ?_ _ | refine blk_drew ?_ | refine blk_alloc ?_ _)); refine blk_far ?_ NB315_324.out _; (with_reducible repeat (first | refine blk_drewN ?_ _ | refine blk_drew ?_ | refine blk_alloc ?_ _)); refine blk_far ?_ NB315_324.out _; exact kb BK315⟩
        have n3_ : Aside0 (((w19.setCell ⟨gb324, 0, none⟩ (.int .i8 ((rd_T46 t320 x13_1).f0))).setCell ⟨gb324, 1, none⟩ (.int .i8 ((rd_T46 t320 x13_1).f1))).heap[gb316]? = some (.cells #[.int .i8 a1_0, .int .i8 a1_1, .int .i8 a1_2, .int .i8 a1_3, .int .i8 a1_4, .int .i8 a1_5] 48 (0, 0))) := ⟨by (with_reducible repeat (first | refine blk_drewN ?_ _ | refine blk_drew ?_ | refine blk_alloc ?_ _)); refine blk_far ?_ NB316_324.out _; (with_reducible repeat (first | refine blk_drewN ?_ _ | refine blk_drew ?_ | refine blk_alloc ?_ _)); refine blk_far ?_ NB316_324.out _; exact kb BK316⟩
        have n4_ : Aside0 (((w19.setCell ⟨gb324, 0, none⟩ (.int .i8 ((rd_T46 t320 x13_1).f0))).setCell ⟨gb324, 1, none⟩ (.int .i8 ((rd_T46 t320 x13_1).f1))).heap[gb324]? = some (.cells #[.int .i8 ((rd_T46 t320 x13_1).f0), .int .i8 ((rd_T46 t320 x13_1).f1)] 46 (0, 0))) := ⟨by (with_reducible repeat (first | refine blk_drewN ?_ _ | refine blk_drew ?_ | refine blk_alloc ?_ _)); refine blk_put (cs := #[.int .i8 ((rd_T46 t320 x13_1).f0), .int .i8 0]) ?_ 1 _ rfl; (with_reducible repeat (first | refine blk_drewN ?_ _ | refine blk_drew ?_ | refine blk_alloc ?_ _)); refine blk_put (cs := #[.int .i8 0, .int .i8 0]) ?_ 0 _ rfl; exact kb BK324⟩
        have n5_ : Aside0 (Below w.heap.size w ((w19.setCell ⟨gb324, 0, none⟩ (.int .i8 ((rd_T46 t320 x13_1).f0))).setCell ⟨gb324, 1, none⟩ (.int .i8 ((rd_T46 t320 x13_1).f1)))) := ⟨be HB⟩
        (try clear HO_5)
        (try clear HO_11)
        (try clear BK315)
        (try clear BK316)
        (try clear BK324)
        (try clear HB)
        generalize ((w19.setCell ⟨gb324, 0, none⟩ (.int .i8 ((rd_T46 t320 x13_1).f0))).setCell ⟨gb324, 1, none⟩ (.int .i8 ((rd_T46 t320 x13_1).f1))) = w23 at n0_ n1_ n2_ n3_ n4_ n5_ ⊢
        have HO_5 := n0_
        have HO_11 := n1_
        have BK315 := n2_
        have BK316 := n3_
        have BK324 := n4_
        have HB := n5_
        clear n0_ n1_ n2_ n3_ n4_ n5_
        have n0_ := am (Kd.R_drew HO_5.out)
        have n1_ := am (Kd.R_drew HO_11.out)
        have n2_ := am (blk_drew BK315.out)
        have n3_ := am (blk_drew BK316.out)
        have n4_ := am (blk_drew BK324.out)
        have n5_ := am (below_drew1 HB.out)
        clear HO_5
        clear HO_11
        clear BK315
        clear BK316
        clear BK324
        clear HB
        have HO_5 := n0_
        have HO_11 := n1_
        have BK315 := n2_
        have BK316 := n3_
        have BK324 := n4_
        have HB := n5_
        clear n0_ n1_ n2_ n3_ n4_ n5_
        refine start_ (n := 7) (S := fun w' => w'.cell? ⟨gb315, 0, none⟩ = some (.int .i8 a0_0) ∧ w'.cell? ⟨gb315, 1, none⟩ = some (.int .i8 a0_1) ∧ atCells w' gb315 a0_2 ∧ BayAt32 w' gb315 ∧ lvv w' gb315 = .agg (csBay a0_0 a0_1 a0_2) ∧ w'.cell? ⟨gb324, 0, none⟩ = some (.int .i8 ((rd_T46 t320 x13_1).f0)) ∧ w'.cell? ⟨gb324, 1, none⟩ = some (.int .i8 ((rd_T46 t320 x13_1).f1)) ∧ w'.cell? ⟨gb316, 0, none⟩ = some (.int .i8 a1_0) ∧ w'.cell? ⟨gb316, 1, none⟩ = some (.int .i8 a1_1) ∧ w'.cell? ⟨gb316, 2, none⟩ = some (.int .i8 a1_2) ∧ w'.cell? ⟨gb316, 3, none⟩ = some (.int .i8 a1_3) ∧ w'.cell? ⟨gb316, 4, none⟩ = some (.int .i8 a1_4) ∧ w'.cell? ⟨gb316, 5, none⟩ = some (.int .i8 a1_5)) (ds := []) #[false, false, false, false, false, false, false] (by kernel_rfl) rfl rfl ⟨(blk_cell BK315.out 0).trans rfl, (blk_cell BK315.out 1).trans rfl, at_cells BK315.out, BayAt32_of BK315.out, lvv_of BK315.out, (blk_cell BK324.out 0).trans rfl, (blk_cell BK324.out 1).trans rfl, (blk_cell BK316.out 0).trans rfl, (blk_cell BK316.out 1).trans rfl, (blk_cell BK316.out 2).trans rfl, (blk_cell BK316.out 3).trans rfl, (blk_cell BK316.out 4).trans rfl, (blk_cell BK316.out 5).trans rfl⟩ (fun hHeld => ?_)
        generalize w23.drew = w24 at HO_5 HO_11 BK315 BK316 BK324 HB hHeld ⊢
        refine pure_ (i := 3) (N := some 20) (v := ?_) (a' := ?_) #[false, false, false, true, false, false, false] rfl rfl (by kernel_rfl) (fun _ _ _ h => h) (Or.inl ⟨by rfl, ?_⟩) ?_ ?_
        rotate_left
        ·intro w'
         go_simp
         with_reducible rfl
        rotate_left
        ·simp only [Act.put, List.setIfInBounds_toArray, List.set_cons_zero, List.set_cons_succ, i64_w, i32_w]
         rfl
        refine take_ (i := 0) (N := some 17) (v := ?_) (a' := ?_) #[true, false, false, true, false, false, false] rfl rfl (by kernel_rfl) (fun _ _ _ h => h) (Or.inl ⟨by rfl, ?_⟩) hHeld ?_ ?_
        rotate_left
        ·rintro w' ⟨s0, s1, s2, s3, s4, s5, s6, s7, s8, s9, s10, s11, s12⟩
         go_simp
         with_reducible rfl
        rotate_left
        ·simp only [Act.put, List.setIfInBounds_toArray, List.set_cons_zero, List.set_cons_succ, i64_w, i32_w]
         rfl
        refine take_ (i := 1) (N := some 18) (v := ?_) (a' := ?_) #[true, true, false, true, false, false, false] rfl rfl (by kernel_rfl) (fun _ _ _ h => h) (Or.inl ⟨by rfl, ?_⟩) hHeld ?_ ?_
        rotate_left
        ·rintro w' ⟨s0, s1, s2, s3, s4, s5, s6, s7, s8, s9, s10, s11, s12⟩
         go_simp
         with_reducible rfl
        rotate_left
        ·simp only [Act.put, List.setIfInBounds_toArray, List.set_cons_zero, List.set_cons_succ, i64_w, i32_w]
         rfl
        refine take_ (i := 4) (N := some 21) (v := ?_) (a' := ?_) #[true, true, false, true, true, false, false] rfl rfl (by kernel_rfl) (fun _ _ _ h => h) (Or.inl ⟨by rfl, ?_⟩) hHeld ?_ ?_
        rotate_left
        ·rintro w' ⟨s0, s1, s2, s3, s4, s5, s6, s7, s8, s9, s10, s11, s12⟩
         go_simp
         with_reducible rfl
        rotate_left
        ·simp only [Act.put, List.setIfInBounds_toArray, List.set_cons_zero, List.set_cons_succ, i64_w, i32_w]
         rfl
        refine pure_ (i := 5) (N := some 22) (v := ?_) (a' := ?_) #[true, true, false, true, true, true, false] rfl rfl (by kernel_rfl) (fun _ _ _ h => h) (Or.inl ⟨by rfl, ?_⟩) ?_ ?_
        rotate_left
        ·intro w'
         go_simp
         with_reducible rfl
        rotate_left
        ·simp only [Act.put, List.setIfInBounds_toArray, List.set_cons_zero, List.set_cons_succ, i64_w, i32_w]
         rfl
        refine one_ (i := 2) (N := some 19) #[true, true, true, true, true, true, false] rfl rfl (by kernel_rfl) (by decide) (fun K hK => ?_)
        refine goes_ Try.func47 (by kernel_rfl) rfl #[.agg (csBay a0_0 a0_1 a0_2), .agg #[.int .i8 ((rd_T46 t320 x13_1).f0), .int .i8 ((rd_T46 t320 x13_1).f1)]] (by rfl) rfl rfl (by (try simp only [List.map_toArray, List.map_cons, List.map_nil]); first | done | rfl | (simp only [List.length_drop, List.length_take]; rfl)) ?_
        with_reducible refine (impl_depth.calls a0_0 a0_1 a0_2 ((rd_T46 t320 x13_1).f0) ((rd_T46 t320 x13_1).f1) t325 _ A16.out).mono ?_
        rintro e w25 ⟨rfl, hb⟩
        refine ⟨_, rfl, ?_⟩
        have n0_ := am (Kd.R_below (kr HO_5) hb)
        have n1_ := am (Kd.R_below (kr HO_11) hb)
        have n2_ := bB BK315 hb
        have n3_ := bB BK316 hb
        have n4_ := bB BK324 hb
        have n5_ := am (below_step (be HB) hb)
        clear HO_5
        clear HO_11
        clear BK315
        clear BK316
        clear BK324
        clear HB
        have HO_5 := n0_
        have HO_11 := n1_
        have BK315 := n2_
        have BK316 := n3_
        have BK324 := n4_
        have HB := n5_
        clear n0_ n1_ n2_ n3_ n4_ n5_
        (try clear hb)
        (try clear hb2)
        (try clear hk)
        (try clear hi)
        refine hK.out _ _ ⟨(blk_cell BK315.out 0).trans rfl, (blk_cell BK315.out 1).trans rfl, at_cells BK315.out, BayAt32_of BK315.out, lvv_of BK315.out, (blk_cell BK324.out 0).trans rfl, (blk_cell BK324.out 1).trans rfl, (blk_cell BK316.out 0).trans rfl, (blk_cell BK316.out 1).trans rfl, (blk_cell BK316.out 2).trans rfl, (blk_cell BK316.out 3).trans rfl, (blk_cell BK316.out 4).trans rfl, (blk_cell BK316.out 5).trans rfl⟩ (fun hHeld => ?_)
        clear hK K
        refine norm_ (a' := ?_) ?_ ?_
        rotate_left
        ·show Act.put _ (some 19) _ = _
         simp only [Act.put, List.setIfInBounds_toArray, List.set_cons_zero, List.set_cons_succ, i64_w, i32_w]
         rfl
        refine pure_ (i := 6) (N := some 23) (v := ?_) (a' := ?_) #[true, true, true, true, true, true, true] rfl rfl (by kernel_rfl) (fun _ _ _ h => h) (Or.inl ⟨by rfl, ?_⟩) ?_ ?_
        rotate_left
        ·intro w'
         go_simp
         with_reducible rfl
        rotate_left
        ·simp only [Act.put, List.setIfInBounds_toArray, List.set_cons_zero, List.set_cons_succ, i64_w, i32_w]
         rfl
        refine done_ (by kernel_rfl) ?_
        obtain ⟨hcz26_0, hcz26_1, hfz26_0, hfz26_1⟩ := bx2 BK324
        try go_wp2_with (first | ((with_reducible refine gate_builtin (b := .append) (xs := #[.tmp 24, .tmp 26]) rfl ?_); at_builtin; refine Kd.R_append k46 (w0 := w) w.heap.size rfl (.tmp 24) (.tmp 26) 73 46 (.agg #[(.int .i8 0), (.int .i8 0)]) 2 rfl Try.underlying73 info46 rfl (by decide) (by omega) u5 x5_1 (⟨(rd_T46 t320 x13_1).f0, (rd_T46 t320 x13_1).f1⟩ : S46) [.int .i8 ((rd_T46 t320 x13_1).f0), .int .i8 ((rd_T46 t320 x13_1).f1)] (fun k_ => some k_ ≠ (.slice (some ad323) t320.length co12 : Value).ownBlock ∧ k_ ≠ gb324) (fun _ => False) rfl rfl ?aP (fun _ hk => hk.elim) ?aF ?aO ?aB ?aS ?aL ?_; (case aP => exact k46_mkM _ _ _ (⟨(rd_T46 t320 x13_1).f0, (rd_T46 t320 x13_1).f1⟩ : S46)); (case aB => exact (be HB)); (case aF => exact (fun k_ hk => ⟨Kd.fresh' (Kd.R_lt (kr HO_11)) k_ hk, Kd.freshB (g := gb324) (o := .cells #[.int .i8 ((rd_T46 t320 x13_1).f0), .int .i8 ((rd_T46 t320 x13_1).f1)] 46 (0, 0)) (kb BK324) k_ hk⟩)); (case aO => exact (kr HO_5)); (case aS => exact (below_size (be HB))); (case aL => have := LMc18.out; omega); intro v327 w27 ho hb hg hat; rw [← Ny326.out] at ho; have HO328 := am (ho); replace HO_11 := am (Kd.R_after (ok := (fun k_ => k_ ≠ gb324)) (by (with_reducible repeat (first | apply Kd.R_alloc | apply Kd.R_drewN | apply Kd.R_drew)); exact Kd.R_mono HO_11.out (fun _ hk => ⟨hk.2, hk.1⟩)) hg hat); replace BK315 := am (blk_grown (g := gb315) (o := .cells (csBay a0_0 a0_1 a0_2) 32 (0, 0)) (kb BK315) hg (Kd.R_ne HO_5.out BK315.out (by decide))); replace BK316 := am (blk_grown (g := gb316) (o := .cells #[.int .i8 a1_0, .int .i8 a1_1, .int .i8 a1_2, .int .i8 a1_3, .int .i8 a1_4, .int .i8 a1_5] 48 (0, 0)) (kb BK316) hg (Kd.R_ne HO_5.out BK316.out (by decide))); replace BK324 := am (blk_grown (g := gb324) (o := .cells #[.int .i8 ((rd_T46 t320 x13_1).f0), .int .i8 ((rd_T46 t320 x13_1).f1)] 46 (0, 0)) (kb BK324) hg (Kd.R_away HO_5.out (fun _ hk => hk.2))); replace HB := am (hb); clear HO_5; clear ho hb hg hat))
        go_roundg k1
        case measure => have := HK1.out; omega
        case rel => exact ⟨(y326), (wrap64 (x13_1 + 1)), vv, H', ⟨by have := HK1.out; omega⟩, ⟨by (with_reducible repeat (first | apply Kd.R_alloc | apply Kd.R_drewN | apply Kd.R_drew)); exact Kd.R_mono HO328.out (fun _ hk => hk.1)⟩, ⟨by (with_reducible repeat (first | apply Kd.R_alloc | apply Kd.R_drewN | apply Kd.R_drew)); exact Kd.R_mono HO_11.out (fun _ hk => hk.2)⟩, ⟨kb BK315⟩, ⟨kb BK316⟩, ⟨be HB⟩⟩
       ·rw [if_neg c18] at H
        exact absurd H (by simp)
      ·rw [if_neg c17] at H
       have c17b0 : decide (t325 < (wrap64 (a1_4))) = false := decide_eq_false c17
       clear c17
       have H' := am H
       clear H
       have p323 : 0 ≤ (x13_1 : Int) := of_decide_eq_true (by first | (with_reducible assumption) | assumption)
       have q323 : x13_1 < (t320.length : Int) := of_decide_eq_true (by first | (with_reducible assumption) | assumption)
       obtain ⟨ad323, e323, hx323_0, hx323_1⟩ := at_T46 (Kd.R_reads' HO_11.out).2.2 x13_1 p323 q323
       cases e323
       replace p323 := eq_true p323
       replace q323 := eq_true q323
       try go_wp2_with (first | ((with_reducible refine gate_dst (N := 7) rfl ?_); refine bxe (N := 7) (cs := #[.int .i8 0, .int .i8 0]) (t := 46) ?_; intro gb324 hg w28 hbox hb; have BK324 := am (hbox); have GW324 := am (gN hg (below_size (be HB))); have GE324 := am (gN hg (below_size (be HB))); have NB315_324 := nL BK315 hg; have NB324_315 := nR BK315 hg; have NB316_324 := nL BK316 hg; have NB324_316 := nR BK316 hg; replace HO_5 := am (Kd.R_below (Kd.R_elderB (kr HO_5) gb324 (Nat.le_of_eq hg.symm)) hb); replace HO_11 := am (Kd.R_below (Kd.R_elderB (kr HO_11) gb324 (Nat.le_of_eq hg.symm)) hb); replace BK315 := bB BK315 hb; replace BK316 := bB BK316 hb; replace HB := am (below_step (be HB) hb); clear hb hbox hg; have hnb29 := NB324_315.out; have hnc29 := NB315_324.out; have hnb30 := NB324_316.out; have hnc30 := NB316_324.out; obtain ⟨hcz31_0, hcz31_1, hfz31_0, hfz31_1⟩ := bx2 BK324))
       have n0_ : Aside0 (Kd.R k46 46 ((w28.setCell ⟨gb324, 0, none⟩ (.int .i8 ((rd_T46 t320 x13_1).f0))).setCell ⟨gb324, 1, none⟩ (.int .i8 ((rd_T46 t320 x13_1).f1))) w.heap.size (fun k_ => some k_ ≠ (.slice (some ad323) t320.length co12 : Value).ownBlock ∧ k_ ≠ gb324) u5 x5_1) := ⟨by (with_reducible repeat (first | apply Kd.R_alloc | apply Kd.R_drewN | apply Kd.R_drew)); exact Kd.R_mono (Kd.R_far (p := ⟨gb324, 1, none⟩) (Kd.R_far (p := ⟨gb324, 0, none⟩) (Kd.R_mono HO_5.out (fun k_ hk => (⟨hk, hk.2⟩ : _ ∧ k_ ≠ gb324))) (fun _ hk => hk.2) (.int .i8 ((rd_T46 t320 x13_1).f0))) (fun _ hk => hk.2) (.int .i8 ((rd_T46 t320 x13_1).f1))) (fun _ hk => ⟨hk.1.1, hk.1.2⟩)⟩
       have n1_ : Aside0 (Kd.R k46 46 ((w28.setCell ⟨gb324, 0, none⟩ (.int .i8 ((rd_T46 t320 x13_1).f0))).setCell ⟨gb324, 1, none⟩ (.int .i8 ((rd_T46 t320 x13_1).f1))) w.heap.size (fun k_ => some k_ ≠ (u5 : Value).ownBlock ∧ k_ ≠ gb324) (.slice (some ad323) t320.length co12) t320) := ⟨by (with_reducible repeat (first | apply Kd.R_alloc | apply Kd.R_drewN | apply Kd.R_drew)); exact Kd.R_mono (Kd.R_far (p := ⟨gb324, 1, none⟩) (Kd.R_far (p := ⟨gb324, 0, none⟩) (Kd.R_mono HO_11.out (fun k_ hk => (⟨hk, hk.2⟩ : _ ∧ k_ ≠ gb324))) (fun _ hk => hk.2) (.int .i8 ((rd_T46 t320 x13_1).f0))) (fun _ hk => hk.2) (.int .i8 ((rd_T46 t320 x13_1).f1))) (fun _ hk => ⟨hk.1.1, hk.1.2⟩)⟩
       have n2_ : Aside0 (((w28.setCell ⟨gb324, 0, none⟩ (.int .i8 ((rd_T46 t320 x13_1).f0))).setCell ⟨gb324, 1, none⟩ (.int .i8 ((rd_T46 t320 x13_1).f1))).heap[gb315]? = some (.cells (csBay a0_0 a0_1 a0_2) 32 (0, 0))) := ⟨by (with_reducible repeat (first | refine blk_drewN ?_ _ | refine blk_drew ?_ | refine blk_alloc ?_ _)); refine blk_far ?_ NB315_324.out _; (with_reducible repeat (first | refine blk_drewN ?_ _ | refine blk_drew ?_ | refine blk_alloc ?_ _)); refine blk_far ?_ NB315_324.out _; exact kb BK315⟩
       have n3_ : Aside0 (((w28.setCell ⟨gb324, 0, none⟩ (.int .i8 ((rd_T46 t320 x13_1).f0))).setCell ⟨gb324, 1, none⟩ (.int .i8 ((rd_T46 t320 x13_1).f1))).heap[gb316]? = some (.cells #[.int .i8 a1_0, .int .i8 a1_1, .int .i8 a1_2, .int .i8 a1_3, .int .i8 a1_4, .int .i8 a1_5] 48 (0, 0))) := ⟨by (with_reducible repeat (first | refine blk_drewN ?_ _ | refine blk_drew ?_ | refine blk_alloc ?_ _)); refine blk_far ?_ NB316_324.out _; (with_reducible repeat (first | refine blk_drewN ?_ _ | refine blk_drew ?_ | refine blk_alloc ?_ _)); refine blk_far ?_ NB316_324.out _; exact kb BK316⟩
       have n4_ : Aside0 (((w28.setCell ⟨gb324, 0, none⟩ (.int .i8 ((rd_T46 t320 x13_1).f0))).setCell ⟨gb324, 1, none⟩ (.int .i8 ((rd_T46 t320 x13_1).f1))).heap[gb324]? = some (.cells #[.int .i8 ((rd_T46 t320 x13_1).f0), .int .i8 ((rd_T46 t320 x13_1).f1)] 46 (0, 0))) := ⟨by (with_reducible repeat (first | refine blk_drewN ?_ _ | refine blk_drew ?_ | refine blk_alloc ?_ _)); refine blk_put (cs := #[.int .i8 ((rd_T46 t320 x13_1).f0), .int .i8 0]) ?_ 1 _ rfl; (with_reducible repeat (first | refine blk_drewN ?_ _ | refine blk_drew ?_ | refine blk_alloc ?_ _)); refine blk_put (cs := #[.int .i8 0, .int .i8 0]) ?_ 0 _ rfl; exact kb BK324⟩
       have n5_ : Aside0 (Below w.heap.size w ((w28.setCell ⟨gb324, 0, none⟩ (.int .i8 ((rd_T46 t320 x13_1).f0))).setCell ⟨gb324, 1, none⟩ (.int .i8 ((rd_T46 t320 x13_1).f1)))) := ⟨be HB⟩
       (try clear HO_5)
       (try clear HO_11)
       (try clear BK315)
       (try clear BK316)
       (try clear BK324)
       (try clear HB)
       generalize ((w28.setCell ⟨gb324, 0, none⟩ (.int .i8 ((rd_T46 t320 x13_1).f0))).setCell ⟨gb324, 1, none⟩ (.int .i8 ((rd_T46 t320 x13_1).f1))) = w32 at n0_ n1_ n2_ n3_ n4_ n5_ ⊢
       have HO_5 := n0_
       have HO_11 := n1_
       have BK315 := n2_
       have BK316 := n3_
       have BK324 := n4_
       have HB := n5_
       clear n0_ n1_ n2_ n3_ n4_ n5_
       have n0_ := am (Kd.R_drew HO_5.out)
       have n1_ := am (Kd.R_drew HO_11.out)
       have n2_ := am (blk_drew BK315.out)
       have n3_ := am (blk_drew BK316.out)
       have n4_ := am (blk_drew BK324.out)
       have n5_ := am (below_drew1 HB.out)
       clear HO_5
       clear HO_11
       clear BK315
       clear BK316
       clear BK324
       clear HB
       have HO_5 := n0_
       have HO_11 := n1_
       have BK315 := n2_
       have BK316 := n3_
       have BK324 := n4_
       have HB := n5_
       clear n0_ n1_ n2_ n3_ n4_ n5_
       refine start_ (n := 7) (S := fun w' => w'.cell? ⟨gb315, 0, none⟩ = some (.int .i8 a0_0) ∧ w'.cell? ⟨gb315, 1, none⟩ = some (.int .i8 a0_1) ∧ atCells w' gb315 a0_2 ∧ BayAt32 w' gb315 ∧ lvv w' gb315 = .agg (csBay a0_0 a0_1 a0_2) ∧ w'.cell? ⟨gb324, 0, none⟩ = some (.int .i8 ((rd_T46 t320 x13_1).f0)) ∧ w'.cell? ⟨gb324, 1, none⟩ = some (.int .i8 ((rd_T46 t320 x13_1).f1)) ∧ w'.cell? ⟨gb316, 0, none⟩ = some (.int .i8 a1_0) ∧ w'.cell? ⟨gb316, 1, none⟩ = some (.int .i8 a1_1) ∧ w'.cell? ⟨gb316, 2, none⟩ = some (.int .i8 a1_2) ∧ w'.cell? ⟨gb316, 3, none⟩ = some (.int .i8 a1_3) ∧ w'.cell? ⟨gb316, 4, none⟩ = some (.int .i8 a1_4) ∧ w'.cell? ⟨gb316, 5, none⟩ = some (.int .i8 a1_5)) (ds := []) #[false, false, false, false, false, false, false] (by kernel_rfl) rfl rfl ⟨(blk_cell BK315.out 0).trans rfl, (blk_cell BK315.out 1).trans rfl, at_cells BK315.out, BayAt32_of BK315.out, lvv_of BK315.out, (blk_cell BK324.out 0).trans rfl, (blk_cell BK324.out 1).trans rfl, (blk_cell BK316.out 0).trans rfl, (blk_cell BK316.out 1).trans rfl, (blk_cell BK316.out 2).trans rfl, (blk_cell BK316.out 3).trans rfl, (blk_cell BK316.out 4).trans rfl, (blk_cell BK316.out 5).trans rfl⟩ (fun hHeld => ?_)
       generalize w32.drew = w33 at HO_5 HO_11 BK315 BK316 BK324 HB hHeld ⊢
       refine pure_ (i := 3) (N := some 20) (v := ?_) (a' := ?_) #[false, false, false, true, false, false, false] rfl rfl (by kernel_rfl) (fun _ _ _ h => h) (Or.inl ⟨by rfl, ?_⟩) ?_ ?_
       rotate_left
       ·intro w'
        go_simp
        with_reducible rfl
       rotate_left
       ·simp only [Act.put, List.setIfInBounds_toArray, List.set_cons_zero, List.set_cons_succ, i64_w, i32_w]
        rfl
       refine take_ (i := 0) (N := some 17) (v := ?_) (a' := ?_) #[true, false, false, true, false, false, false] rfl rfl (by kernel_rfl) (fun _ _ _ h => h) (Or.inl ⟨by rfl, ?_⟩) hHeld ?_ ?_
       rotate_left
       ·rintro w' ⟨s0, s1, s2, s3, s4, s5, s6, s7, s8, s9, s10, s11, s12⟩
        go_simp
        with_reducible rfl
       rotate_left
       ·simp only [Act.put, List.setIfInBounds_toArray, List.set_cons_zero, List.set_cons_succ, i64_w, i32_w]
        rfl
       refine take_ (i := 1) (N := some 18) (v := ?_) (a' := ?_) #[true, true, false, true, false, false, false] rfl rfl (by kernel_rfl) (fun _ _ _ h => h) (Or.inl ⟨by rfl, ?_⟩) hHeld ?_ ?_
       rotate_left
       ·rintro w' ⟨s0, s1, s2, s3, s4, s5, s6, s7, s8, s9, s10, s11, s12⟩
        go_simp
        with_reducible rfl
       rotate_left
       ·simp only [Act.put, List.setIfInBounds_toArray, List.set_cons_zero, List.set_cons_succ, i64_w, i32_w]
        rfl
       refine take_ (i := 4) (N := some 21) (v := ?_) (a' := ?_) #[true, true, false, true, true, false, false] rfl rfl (by kernel_rfl) (fun _ _ _ h => h) (Or.inl ⟨by rfl, ?_⟩) hHeld ?_ ?_
       rotate_left
       ·rintro w' ⟨s0, s1, s2, s3, s4, s5, s6, s7, s8, s9, s10, s11, s12⟩
        go_simp
        with_reducible rfl
       rotate_left
       ·simp only [Act.put, List.setIfInBounds_toArray, List.set_cons_zero, List.set_cons_succ, i64_w, i32_w]
        rfl
       refine pure_ (i := 5) (N := some 22) (v := ?_) (a' := ?_) #[true, true, false, true, true, true, false] rfl rfl (by kernel_rfl) (fun _ _ _ h => h) (Or.inl ⟨by rfl, ?_⟩) ?_ ?_
       rotate_left
       ·intro w'
        go_simp
        with_reducible rfl
       rotate_left
       ·simp only [Act.put, List.setIfInBounds_toArray, List.set_cons_zero, List.set_cons_succ, i64_w, i32_w]
        rfl
       refine one_ (i := 2) (N := some 19) #[true, true, true, true, true, true, false] rfl rfl (by kernel_rfl) (by decide) (fun K hK => ?_)
       refine goes_ Try.func47 (by kernel_rfl) rfl #[.agg (csBay a0_0 a0_1 a0_2), .agg #[.int .i8 ((rd_T46 t320 x13_1).f0), .int .i8 ((rd_T46 t320 x13_1).f1)]] (by rfl) rfl rfl (by (try simp only [List.map_toArray, List.map_cons, List.map_nil]); first | done | rfl | (simp only [List.length_drop, List.length_take]; rfl)) ?_
       with_reducible refine (impl_depth.calls a0_0 a0_1 a0_2 ((rd_T46 t320 x13_1).f0) ((rd_T46 t320 x13_1).f1) t325 _ A16.out).mono ?_
       rintro e w34 ⟨rfl, hb⟩
       refine ⟨_, rfl, ?_⟩
       have n0_ := am (Kd.R_below (kr HO_5) hb)
       have n1_ := am (Kd.R_below (kr HO_11) hb)
       have n2_ := bB BK315 hb
       have n3_ := bB BK316 hb
       have n4_ := bB BK324 hb
       have n5_ := am (below_step (be HB) hb)
       clear HO_5
       clear HO_11
       clear BK315
       clear BK316
       clear BK324
       clear HB
       have HO_5 := n0_
       have HO_11 := n1_
       have BK315 := n2_
       have BK316 := n3_
       have BK324 := n4_
       have HB := n5_
       clear n0_ n1_ n2_ n3_ n4_ n5_
       (try clear hb)
       (try clear hb2)
       (try clear hk)
       (try clear hi)
       refine hK.out _ _ ⟨(blk_cell BK315.out 0).trans rfl, (blk_cell BK315.out 1).trans rfl, at_cells BK315.out, BayAt32_of BK315.out, lvv_of BK315.out, (blk_cell BK324.out 0).trans rfl, (blk_cell BK324.out 1).trans rfl, (blk_cell BK316.out 0).trans rfl, (blk_cell BK316.out 1).trans rfl, (blk_cell BK316.out 2).trans rfl, (blk_cell BK316.out 3).trans rfl, (blk_cell BK316.out 4).trans rfl, (blk_cell BK316.out 5).trans rfl⟩ (fun hHeld => ?_)
       clear hK K
       refine norm_ (a' := ?_) ?_ ?_
       rotate_left
       ·show Act.put _ (some 19) _ = _
        simp only [Act.put, List.setIfInBounds_toArray, List.set_cons_zero, List.set_cons_succ, i64_w, i32_w]
        rfl
       refine pure_ (i := 6) (N := some 23) (v := ?_) (a' := ?_) #[true, true, true, true, true, true, true] rfl rfl (by kernel_rfl) (fun _ _ _ h => h) (Or.inl ⟨by rfl, ?_⟩) ?_ ?_
       rotate_left
       ·intro w'
        go_simp
        with_reducible rfl
       rotate_left
       ·simp only [Act.put, List.setIfInBounds_toArray, List.set_cons_zero, List.set_cons_succ, i64_w, i32_w]
        rfl
       refine done_ (by kernel_rfl) ?_
       try go_wp2
       go_roundg k1
       case measure => have := HK1.out; omega
       case rel => exact ⟨(x5_1), (wrap64 (x13_1 + 1)), vv, H', ⟨by have := HK1.out; omega⟩, ⟨by (with_reducible repeat (first | apply Kd.R_alloc | apply Kd.R_drewN | apply Kd.R_drew)); exact Kd.R_mono HO_5.out (fun _ hk => hk.1)⟩, ⟨by (with_reducible repeat (first | apply Kd.R_alloc | apply Kd.R_drewN | apply Kd.R_drew)); exact Kd.R_mono HO_11.out (fun _ hk => hk.1)⟩, ⟨kb BK315⟩, ⟨kb BK316⟩, ⟨be HB⟩⟩
     ·rw [if_neg c15] at H
      exact absurd H (by simp)
    ·rw [if_neg c14] at H
     exact absurd H (by simp)
   ·rw [if_neg c13] at H
    have c13b0 : decide (x13_1 < (t320.length : Int)) = false := decide_eq_false c13
    clear c13
    obtain rfl := Option.some.inj H
    go_wp2
    go_ret
    exact ⟨_, by first | rfl | (simp [errW_none, errW_some] <;> rfl) | (simp [*, errW_none, errW_some] <;> rfl), by (with_reducible repeat (first | apply Kd.R_alloc | apply Kd.R_drewN | apply Kd.R_drew)); exact Kd.R_mono HO_5.out (fun _ hk => trivial), be HB⟩

end Go.Proofs.Ytigafbmdedjgdaa.PFnExactMostBoats
