-- Written by a program out of this seat's translation (functions, and that the code comes to them).
import Derived.Test.YtcollbifdfhfoaaPFnExactIsSafex0
import Derived.Test.YtcollbifdfhfoaaPFnExactIsSafex4
import Derived.Test.YtcollbifdfhfoaaPFnExactIsSafex5
namespace Go.Proofs.Ytcollbifdfhfoaa.PFnExactIsSafe
open Go.RowKit Go.Proofs.YtcollbifdfhfoaaW.PrintWords Go.Proofs.YtcollbifdfhfoaaW.PrintLast Go.Proofs.YtcollbifdfhfoaaW.PrintMore
attribute [local go_sem] max2_int min2_int max_two min_two max_three min_three max_four min_four   -- for this text's walks alone
open Go.Proofs.Ytcollbifdfhfoaa.Bay Go.Proofs.Ytcollbifdfhfoaa.Short
attribute [local go_sem ↓] lv26_eq lv28_eq
attribute [local go_sem] lvv_set lvv_drewN lvv_drew lv26_run BayAt26_set BayAt26_drewN BayAt26_drew lv28_run BayAt28_set BayAt28_drewN BayAt28_drew
set_option linter.unusedVariables false
set_option linter.unusedSimpArgs false

/-! ### impl_shoals: function 124 -/
def impl_shoals.l0 : Nat → List (S36) → List (S36) → Int → Int → Int → Int → (Nat → Int) → Int → Int → Int → Int → Int → Int → Option ((List (S36)))
  | 0, _, _, _, _, _, _, _, _, _, _, _, _, _ => none
  | k + 1, x5, x11, x12, x13, x247000, x247001, x247002, x248000, x248001, x248002, x248003, x248004, x248005 => if x13 < x12 then (if 0 ≤ x13 then (if x13 < (x11.length : Int) then ((impl_depth.f x247000 x247001 x247002 ((rd_T36 x11 x13).f0) ((rd_T36 x11 x13).f1)).bind fun t256 => (if t256 < (wrap64 (x248004)) then (if x5.length < 70368744177664 then (impl_shoals.l0 k (x5 ++ [(⟨(rd_T36 x11 x13).f0, (rd_T36 x11 x13).f1⟩ : S36)]) x11 x12 (wrap64 (x13 + 1)) x247000 x247001 x247002 x248000 x248001 x248002 x248003 x248004 x248005) else (none)) else (impl_shoals.l0 k x5 x11 x12 (wrap64 (x13 + 1)) x247000 x247001 x247002 x248000 x248001 x248002 x248003 x248004 x248005))) else (none)) else (none)) else (some x5)
def impl_shoals.f (k : Nat) (a0_0 : Int) (a0_1 : Int) (a0_2 : (Nat → Int)) (a1_0 : Int) (a1_1 : Int) (a1_2 : Int) (a1_3 : Int) (a1_4 : Int) (a1_5 : Int) : Option ((List (S36))) := (impl_swingPlaces.f k a0_0 a0_1 a0_2 a1_0 a1_1 a1_2 a1_3 a1_4 a1_5).bind fun t251 => (impl_shoals.l0 k (([] : List (S36))) t251 (t251.length : Int) 0 a0_0 a0_1 a0_2 a1_0 a1_1 a1_2 a1_3 a1_4 a1_5)
set_option maxHeartbeats 8000000 in
set_option maxRecDepth 100000 in
theorem impl_shoals.calls (k : Nat) (a0_0 : Int) (a0_1 : Int) (a0_2 : (Nat → Int)) (a1_0 : Int) (a1_1 : Int) (a1_2 : Int) (a1_3 : Int) (a1_4 : Int) (a1_5 : Int) (r : List (S36)) (w : World) (h : impl_shoals.f k a0_0 a0_1 a0_2 a1_0 a1_1 a1_2 a1_3 a1_4 a1_5 = some r) :
    Calls Try.prog 124 #[.agg (csBay a0_0 a0_1 a0_2), .agg #[.int .i8 a1_0, .int .i8 a1_1, .int .i8 a1_2, .int .i8 a1_3, .int .i8 a1_4, .int .i8 a1_5]] w fun e w' => ∃ v0_ : Value, e = .returned (v0_) ∧ Kd.R k36 36 w' w.heap.size (fun _ => True) v0_ r ∧ Below w.heap.size w w' := by
  have hu28 := Try.underlying28
  have hu38 := Try.underlying38
  have hu36 := Try.underlying36
  have HB := am (Below.refl w.heap.size w)
  have H : ((impl_swingPlaces.f k a0_0 a0_1 a0_2 a1_0 a1_1 a1_2 a1_3 a1_4 a1_5).bind fun t251 => (impl_shoals.l0 k (([] : List (S36))) t251 (t251.length : Int) 0 a0_0 a0_1 a0_2 a1_0 a1_1 a1_2 a1_3 a1_4 a1_5)) = some r := h
  clear h
  obtain ⟨y248, hy248⟩ : ∃ y_ : List (S36), y_ = (([] : List (S36))) := ⟨_, rfl⟩
  replace H : ((impl_swingPlaces.f k a0_0 a0_1 a0_2 a1_0 a1_1 a1_2 a1_3 a1_4 a1_5).bind fun t251 => (impl_shoals.l0 k y248 t251 (t251.length : Int) 0 a0_0 a0_1 a0_2 a1_0 a1_1 a1_2 a1_3 a1_4 a1_5)) = some r := by first | (rw [hy248]; with_reducible exact H) | (have H2_ := (Option.bind_some _ _).symm.trans H; rw [hy248]; with_reducible exact H2_) | (have H2_ := (Option.bind_some _ _).symm.trans H; with_reducible exact H2_) | with_reducible exact H | (rw [hy248]; exact H) | exact H
  have Ny248 := am hy248
  clear hy248
  replace H := Option.bind_eq_some_iff.mp H
  obtain ⟨t251, A30, H⟩ := H
  try dsimp only at H
  have A3 := am A30
  clear A30
  have H' := am H
  clear H
  go_enter Try.func124, Try.ntmps124
  go_wp2_with (first | ((with_reducible refine gate_dst (N := 2) rfl ?_); refine bxe (N := 2) (cs := (csBay a0_0 a0_1 a0_2)) (t := 28) ?_; intro gb246 hg w4 hbox hb; have BK246 := am (hbox); have GW246 := am (gN hg (below_size (be HB))); have GE246 := am (gN hg (below_size (be HB))); replace HB := am (below_step (be HB) hb); clear hb hbox hg) | ((with_reducible refine gate_dst (N := 3) rfl ?_); refine bxe (N := 3) (cs := #[.int .i8 a1_0, .int .i8 a1_1, .int .i8 a1_2, .int .i8 a1_3, .int .i8 a1_4, .int .i8 a1_5]) (t := 38) ?_; intro gb247 hg w5 hbox hb; have BK247 := am (hbox); have GW247 := am (gN hg (below_size (be HB))); have GE247 := am (gN hg (below_size (be HB))); have NB246_247 := nL BK246 hg; have NB247_246 := nR BK246 hg; replace BK246 := bB BK246 hb; replace HB := am (below_step (be HB) hb); clear hb hbox hg) | ((with_reducible refine gate_dst (N := 8) rfl ?_); refine Kd.R_lit k36 _ 36 ?hg (N := 8) ?hd (xs := ([] : List (S36))) (inner := []) (ok := fun _ => True) (okp := fun _ => True) ?hr ?hp (fun _ hk => hk) trivial (Below.refl _ _) (Nat.le_refl _) (by simp) ?_; (case hd => rfl); (case hg => rfl); (case hr => first | (go_simp; done) | (go_simp; rfl)); (case hp => exact (Reps.none _ _)); intro v249 w6 ho7 hb hg_ hnew_; clear hg_ hnew_; (first | rw [← Ny248.out] at ho7 | (simp only [Int.reduceToNat] at ho7; rw [← Ny248.out] at ho7)); have HO250 := am (Kd.R_lower ho7 (below_size (be HB))); replace BK246 := bB BK246 hb; replace BK247 := bB BK247 hb; replace HB := am (below_step (be HB) hb); clear hb ho7; have hnb8 := NB246_247.out; have hnc8 := NB247_246.out; have hcz9_0 : w6.cell? ⟨gb246, 0, none⟩ = some (.int .i8 a0_0) := (blk_cell BK246.out 0).trans rfl; have hcz9_1 : w6.cell? ⟨gb246, 1, none⟩ = some (.int .i8 a0_1) := (blk_cell BK246.out 1).trans rfl; have hwz9 := lv28_at BK246.out; have haz9 := at_cells BK246.out; have hyz9 := BayAt28_of BK246.out; have hvz9 := lvv_of BK246.out; have hfz9_0 := blk_frozen BK246.out 0; have hfz9_1 := blk_frozen BK246.out 1; have hfz9_2 := blk_frozen BK246.out 2; obtain ⟨hcz10_0, hcz10_1, hcz10_2, hcz10_3, hcz10_4, hcz10_5, hfz10_0, hfz10_1, hfz10_2, hfz10_3, hfz10_4, hfz10_5⟩ := bx6 BK247) | ((with_reducible refine gate_callee (f := 123) rfl ?_); refine gL (some 11) Try.func123 #[.agg (csBay a0_0 a0_1 a0_2), .agg #[.int .i8 a1_0, .int .i8 a1_1, .int .i8 a1_2, .int .i8 a1_3, .int .i8 a1_4, .int .i8 a1_5]] ?_; (with_reducible refine (impl_swingPlaces.calls k a0_0 a0_1 a0_2 a1_0 a1_1 a1_2 a1_3 a1_4 a1_5 t251 _ A3.out).mono ?_); rintro e w11 ⟨v252, rfl, ho0, hb⟩; refine ⟨_, rfl, ?_⟩; have HO253 := am (Kd.R_lower (Kd.R_new' ho0 (Kd.R_lt (kr HO250))) (below_size (be HB))); replace HO250 := am (Kd.R_elder' (kr HO250) (Kd.R_base ho0) hb); replace BK246 := bB BK246 hb; replace BK247 := bB BK247 hb; replace HB := am (below_step (be HB) hb); (try clear hb); (try clear hb2); (try clear hk); (try clear hi); (try clear ho0); obtain ⟨Ao12, co12, eo12⟩ := Kd.R_slice HO253.out; subst eo12))
  go_loopg [5, 13] k (fun kq v5 v13 w' => ∃ (x5_1 : List (S36)) (x13_1 : Int), v13 = .int .i64 x13_1 ∧ Aside0 (impl_shoals.l0 kq x5_1 t251 (t251.length : Int) x13_1 a0_0 a0_1 a0_2 a1_0 a1_1 a1_2 a1_3 a1_4 a1_5 = some r) ∧ Aside0 (kq ≤ k) ∧ Aside0 (Kd.R k36 36 w' w.heap.size (fun k_ => some k_ ≠ ((.slice Ao12 t251.length co12) : Value).ownBlock) v5 x5_1) ∧ Aside0 (Kd.R k36 36 w' w.heap.size (fun k_ => some k_ ≠ (v5 : Value).ownBlock) (.slice Ao12 t251.length co12) t251) ∧ Aside0 (w'.heap[gb246]? = some (.cells (csBay a0_0 a0_1 a0_2) 28 (0, 0))) ∧ Aside0 (w'.heap[gb247]? = some (.cells #[.int .i8 a1_0, .int .i8 a1_1, .int .i8 a1_2, .int .i8 a1_3, .int .i8 a1_4, .int .i8 a1_5] 38 (0, 0))) ∧ Aside0 (Below w.heap.size w w'))
  case atStart => exact ⟨(y248), (0), vv, H', ⟨Nat.le_refl _⟩, ⟨by (with_reducible repeat (first | apply Kd.R_alloc | apply Kd.R_drewN | apply Kd.R_drew)); exact Kd.R_mono HO250.out (fun _ hk => hk.2)⟩, ⟨by (with_reducible repeat (first | apply Kd.R_alloc | apply Kd.R_drewN | apply Kd.R_drew)); exact Kd.R_mono HO253.out (fun _ hk => hk.2)⟩, ⟨kb BK246⟩, ⟨kb BK247⟩, ⟨be HB⟩⟩
  case round =>
    clear H'
    try clear c1
    try clear p2
    try clear c8
    try clear c12
    try clear hcz10_0
    try clear hcz10_1
    try clear hcz10_2
    try clear hcz10_3
    try clear hcz10_4
    try clear hcz10_5
    try clear hcz9_0
    try clear hcz9_1
    try clear hfz10_0
    try clear hfz10_1
    try clear hfz10_2
    try clear hfz10_3
    try clear hfz10_4
    try clear hfz10_5
    try clear hfz9_0
    try clear hfz9_1
    try clear hfz9_2
    obtain ⟨x5_1, x13_1, rfl, HA, HK1, HO_5, HO_11, BK246, BK247, HB⟩ := hrel
    cases gk with
    | zero => exact absurd HA.out (by simp [impl_shoals.l0])
    | succ k1 =>
      have H := HA.out
      clear HA
      simp only [impl_shoals.l0] at H
      by_cases c13 : x13_1 < (t251.length : Int)
      · rw [if_pos c13] at H
        have c13b0 : decide (x13_1 < (t251.length : Int)) = true := decide_eq_true c13
        clear c13
        by_cases c14 : 0 ≤ x13_1
        · rw [if_pos c14] at H
          have c14b0 : decide (0 ≤ x13_1) = true := decide_eq_true c14
          have c14b1 : 0 ≤ x13_1 := c14
          clear c14
          by_cases c15 : x13_1 < (t251.length : Int)
          · rw [if_pos c15] at H
            have c15b0 : decide (x13_1 < (t251.length : Int)) = true := decide_eq_true c15
            clear c15
            replace H := Option.bind_eq_some_iff.mp H
            obtain ⟨t256, A160, H⟩ := H
            try dsimp only at H
            have A16 := am A160
            clear A160
            by_cases c17 : t256 < (wrap64 (a1_4))
            · rw [if_pos c17] at H
              have c17b0 : decide (t256 < (wrap64 (a1_4))) = true := decide_eq_true c17
              clear c17
              by_cases c18 : x5_1.length < 70368744177664
              · rw [if_pos c18] at H
                have LMc18 := am c18
                clear c18
                obtain ⟨y257, hy257⟩ : ∃ y_ : List (S36), y_ = (x5_1 ++ [(⟨(rd_T36 t251 x13_1).f0, (rd_T36 t251 x13_1).f1⟩ : S36)]) := ⟨_, rfl⟩
                replace H : (impl_shoals.l0 k1 y257 t251 (t251.length : Int) (wrap64 (x13_1 + 1)) a0_0 a0_1 a0_2 a1_0 a1_1 a1_2 a1_3 a1_4 a1_5) = some r := by first | (rw [hy257]; with_reducible exact H) | (have H2_ := (Option.bind_some _ _).symm.trans H; rw [hy257]; with_reducible exact H2_) | (have H2_ := (Option.bind_some _ _).symm.trans H; with_reducible exact H2_) | with_reducible exact H | (rw [hy257]; exact H) | exact H
                have Ny257 := am hy257
                clear hy257
                have H' := am H
                clear H
                have p254 : 0 ≤ (x13_1 : Int) := of_decide_eq_true (by first | (with_reducible assumption) | assumption)
                have q254 : x13_1 < (t251.length : Int) := of_decide_eq_true (by first | (with_reducible assumption) | assumption)
                obtain ⟨ad254, e254, hx254_0, hx254_1⟩ := at_T36 (Kd.R_reads' HO_11.out).2.2 x13_1 p254 q254
                cases e254
                replace p254 := eq_true p254
                replace q254 := eq_true q254
                try go_wp2_with (first | ((with_reducible refine gate_dst (N := 7) rfl ?_); refine bxe (N := 7) (cs := #[.int .i8 0, .int .i8 0]) (t := 36) ?_; intro gb255 hg w19 hbox hb; have BK255 := am (hbox); have GW255 := am (gN hg (below_size (be HB))); have GE255 := am (gN hg (below_size (be HB))); have NB246_255 := nL BK246 hg; have NB255_246 := nR BK246 hg; have NB247_255 := nL BK247 hg; have NB255_247 := nR BK247 hg; replace HO_5 := am (Kd.R_below (Kd.R_elderB (kr HO_5) gb255 (Nat.le_of_eq hg.symm)) hb); replace HO_11 := am (Kd.R_below (Kd.R_elderB (kr HO_11) gb255 (Nat.le_of_eq hg.symm)) hb); replace BK246 := bB BK246 hb; replace BK247 := bB BK247 hb; replace HB := am (below_step (be HB) hb); clear hb hbox hg; have hnb20 := NB255_246.out; have hnc20 := NB246_255.out; have hnb21 := NB255_247.out; have hnc21 := NB247_255.out; obtain ⟨hcz22_0, hcz22_1, hfz22_0, hfz22_1⟩ := bx2 BK255))
                have n0_ : Aside0 (Kd.R k36 36 ((w19.setCell ⟨gb255, 0, none⟩ (.int .i8 ((rd_T36 t251 x13_1).f0))).setCell ⟨gb255, 1, none⟩ (.int .i8 ((rd_T36 t251 x13_1).f1))) w.heap.size (fun k_ => some k_ ≠ (.slice (some ad254) t251.length co12 : Value).ownBlock ∧ k_ ≠ gb255) u5 x5_1) := ⟨by (with_reducible repeat (first | apply Kd.R_alloc | apply Kd.R_drewN | apply Kd.R_drew)); exact Kd.R_mono (Kd.R_far (p := ⟨gb255, 1, none⟩) (Kd.R_far (p := ⟨gb255, 0, none⟩) (Kd.R_mono HO_5.out (fun k_ hk => (⟨hk, hk.2⟩ : _ ∧ k_ ≠ gb255))) (fun _ hk => hk.2) (.int .i8 ((rd_T36 t251 x13_1).f0))) (fun _ hk => hk.2) (.int .i8 ((rd_T36 t251 x13_1).f1))) (fun _ hk => ⟨hk.1.1, hk.1.2⟩)⟩
                have n1_ : Aside0 (Kd.R k36 36 ((w19.setCell ⟨gb255, 0, none⟩ (.int .i8 ((rd_T36 t251 x13_1).f0))).setCell ⟨gb255, 1, none⟩ (.int .i8 ((rd_T36 t251 x13_1).f1))) w.heap.size (fun k_ => some k_ ≠ (u5 : Value).ownBlock ∧ k_ ≠ gb255) (.slice (some ad254) t251.length co12) t251) := ⟨by (with_reducible repeat (first | apply Kd.R_alloc | apply Kd.R_drewN | apply Kd.R_drew)); exact Kd.R_mono (Kd.R_far (p := ⟨gb255, 1, none⟩) (Kd.R_far (p := ⟨gb255, 0, none⟩) (Kd.R_mono HO_11.out (fun k_ hk => (⟨hk, hk.2⟩ : _ ∧ k_ ≠ gb255))) (fun _ hk => hk.2) (.int .i8 ((rd_T36 t251 x13_1).f0))) (fun _ hk => hk.2) (.int .i8 ((rd_T36 t251 x13_1).f1))) (fun _ hk => ⟨hk.1.1, hk.1.2⟩)⟩
                have n2_ : Aside0 (((w19.setCell ⟨gb255, 0, none⟩ (.int .i8 ((rd_T36 t251 x13_1).f0))).setCell ⟨gb255, 1, none⟩ (.int .i8 ((rd_T36 t251 x13_1).f1))).heap[gb246]? = some (.cells (csBay a0_0 a0_1 a0_2) 28 (0, 0))) := ⟨by (with_reducible repeat (first | refine blk_drewN ?_ _ | refine blk_drew ?_ | refine blk_alloc ?_ _)); refine blk_far ?_ NB246_255.out _; (with_reducible repeat (first | refine blk_drewN ?_ _ | refine blk_drew ?_ | refine blk_alloc ?_ _)); refine blk_far ?_ NB246_255.out _; exact kb BK246⟩
                have n3_ : Aside0 (((w19.setCell ⟨gb255, 0, none⟩ (.int .i8 ((rd_T36 t251 x13_1).f0))).setCell ⟨gb255, 1, none⟩ (.int .i8 ((rd_T36 t251 x13_1).f1))).heap[gb247]? = some (.cells #[.int .i8 a1_0, .int .i8 a1_1, .int .i8 a1_2, .int .i8 a1_3, .int .i8 a1_4, .int .i8 a1_5] 38 (0, 0))) := ⟨by (with_reducible repeat (first | refine blk_drewN ?_ _ | refine blk_drew ?_ | refine blk_alloc ?_ _)); refine blk_far ?_ NB247_255.out _; (with_reducible repeat (first | refine blk_drewN ?_ _ | refine blk_drew ?_ | refine blk_alloc ?_ _)); refine blk_far ?_ NB247_255.out _; exact kb BK247⟩
                have n4_ : Aside0 (((w19.setCell ⟨gb255, 0, none⟩ (.int .i8 ((rd_T36 t251 x13_1).f0))).setCell ⟨gb255, 1, none⟩ (.int .i8 ((rd_T36 t251 x13_1).f1))).heap[gb255]? = some (.cells #[.int .i8 ((rd_T36 t251 x13_1).f0), .int .i8 ((rd_T36 t251 x13_1).f1)] 36 (0, 0))) := ⟨by (with_reducible repeat (first | refine blk_drewN ?_ _ | refine blk_drew ?_ | refine blk_alloc ?_ _)); refine blk_put (cs := #[.int .i8 ((rd_T36 t251 x13_1).f0), .int .i8 0]) ?_ 1 _ rfl; (with_reducible repeat (first | refine blk_drewN ?_ _ | refine blk_drew ?_ | refine blk_alloc ?_ _)); refine blk_put (cs := #[.int .i8 0, .int .i8 0]) ?_ 0 _ rfl; exact kb BK255⟩
                have n5_ : Aside0 (Below w.heap.size w ((w19.setCell ⟨gb255, 0, none⟩ (.int .i8 ((rd_T36 t251 x13_1).f0))).setCell ⟨gb255, 1, none⟩ (.int .i8 ((rd_T36 t251 x13_1).f1)))) := ⟨be HB⟩
                (try clear HO_5)
                (try clear HO_11)
                (try clear BK246)
                (try clear BK247)
                (try clear BK255)
                (try clear HB)
                generalize ((w19.setCell ⟨gb255, 0, none⟩ (.int .i8 ((rd_T36 t251 x13_1).f0))).setCell ⟨gb255, 1, none⟩ (.int .i8 ((rd_T36 t251 x13_1).f1))) = w23 at n0_ n1_ n2_ n3_ n4_ n5_ ⊢
                have HO_5 := n0_
                have HO_11 := n1_
                have BK246 := n2_
                have BK247 := n3_
                have BK255 := n4_
                have HB := n5_
                clear n0_ n1_ n2_ n3_ n4_ n5_
                have n0_ := am (Kd.R_drew HO_5.out)
                have n1_ := am (Kd.R_drew HO_11.out)
                have n2_ := am (blk_drew BK246.out)
                have n3_ := am (blk_drew BK247.out)
                have n4_ := am (blk_drew BK255.out)
                have n5_ := am (below_drew1 HB.out)
                clear HO_5
                clear HO_11
                clear BK246
                clear BK247
                clear BK255
                clear HB
                have HO_5 := n0_
                have HO_11 := n1_
                have BK246 := n2_
                have BK247 := n3_
                have BK255 := n4_
                have HB := n5_
                clear n0_ n1_ n2_ n3_ n4_ n5_
                refine start_ (n := 7) (S := fun w' => w'.cell? ⟨gb246, 0, none⟩ = some (.int .i8 a0_0) ∧ w'.cell? ⟨gb246, 1, none⟩ = some (.int .i8 a0_1) ∧ atCells w' gb246 a0_2 ∧ BayAt28 w' gb246 ∧ lvv w' gb246 = .agg (csBay a0_0 a0_1 a0_2) ∧ w'.cell? ⟨gb255, 0, none⟩ = some (.int .i8 ((rd_T36 t251 x13_1).f0)) ∧ w'.cell? ⟨gb255, 1, none⟩ = some (.int .i8 ((rd_T36 t251 x13_1).f1)) ∧ w'.cell? ⟨gb247, 0, none⟩ = some (.int .i8 a1_0) ∧ w'.cell? ⟨gb247, 1, none⟩ = some (.int .i8 a1_1) ∧ w'.cell? ⟨gb247, 2, none⟩ = some (.int .i8 a1_2) ∧ w'.cell? ⟨gb247, 3, none⟩ = some (.int .i8 a1_3) ∧ w'.cell? ⟨gb247, 4, none⟩ = some (.int .i8 a1_4) ∧ w'.cell? ⟨gb247, 5, none⟩ = some (.int .i8 a1_5)) (ds := []) #[false, false, false, false, false, false, false] (by kernel_rfl) rfl rfl ⟨(blk_cell BK246.out 0).trans rfl, (blk_cell BK246.out 1).trans rfl, at_cells BK246.out, BayAt28_of BK246.out, lvv_of BK246.out, (blk_cell BK255.out 0).trans rfl, (blk_cell BK255.out 1).trans rfl, (blk_cell BK247.out 0).trans rfl, (blk_cell BK247.out 1).trans rfl, (blk_cell BK247.out 2).trans rfl, (blk_cell BK247.out 3).trans rfl, (blk_cell BK247.out 4).trans rfl, (blk_cell BK247.out 5).trans rfl⟩ (fun hHeld => ?_)
                generalize w23.drew = w24 at HO_5 HO_11 BK246 BK247 BK255 HB hHeld ⊢
                refine pure_ (i := 3) (N := some 20) (v := ?_) (a' := ?_) #[false, false, false, true, false, false, false] rfl rfl (by kernel_rfl) (fun _ _ _ h => h) (Or.inl ⟨by rfl, ?_⟩) ?_ ?_
                rotate_left
                · intro w'
                  go_simp
                  with_reducible rfl
                rotate_left
                · simp only [Act.put, List.setIfInBounds_toArray, List.set_cons_zero, List.set_cons_succ, i64_w, i32_w]
                  rfl
                refine take_ (i := 0) (N := some 17) (v := ?_) (a' := ?_) #[true, false, false, true, false, false, false] rfl rfl (by kernel_rfl) (fun _ _ _ h => h) (Or.inl ⟨by rfl, ?_⟩) hHeld ?_ ?_
                rotate_left
                · rintro w' ⟨s0, s1, s2, s3, s4, s5, s6, s7, s8, s9, s10, s11, s12⟩
                  go_simp
                  with_reducible rfl
                rotate_left
                · simp only [Act.put, List.setIfInBounds_toArray, List.set_cons_zero, List.set_cons_succ, i64_w, i32_w]
                  rfl
                refine take_ (i := 1) (N := some 18) (v := ?_) (a' := ?_) #[true, true, false, true, false, false, false] rfl rfl (by kernel_rfl) (fun _ _ _ h => h) (Or.inl ⟨by rfl, ?_⟩) hHeld ?_ ?_
                rotate_left
                · rintro w' ⟨s0, s1, s2, s3, s4, s5, s6, s7, s8, s9, s10, s11, s12⟩
                  go_simp
                  with_reducible rfl
                rotate_left
                · simp only [Act.put, List.setIfInBounds_toArray, List.set_cons_zero, List.set_cons_succ, i64_w, i32_w]
                  rfl
                refine take_ (i := 4) (N := some 21) (v := ?_) (a' := ?_) #[true, true, false, true, true, false, false] rfl rfl (by kernel_rfl) (fun _ _ _ h => h) (Or.inl ⟨by rfl, ?_⟩) hHeld ?_ ?_
                rotate_left
                · rintro w' ⟨s0, s1, s2, s3, s4, s5, s6, s7, s8, s9, s10, s11, s12⟩
                  go_simp
                  with_reducible rfl
                rotate_left
                · simp only [Act.put, List.setIfInBounds_toArray, List.set_cons_zero, List.set_cons_succ, i64_w, i32_w]
                  rfl
                refine pure_ (i := 5) (N := some 22) (v := ?_) (a' := ?_) #[true, true, false, true, true, true, false] rfl rfl (by kernel_rfl) (fun _ _ _ h => h) (Or.inl ⟨by rfl, ?_⟩) ?_ ?_
                rotate_left
                · intro w'
                  go_simp
                  with_reducible rfl
                rotate_left
                · simp only [Act.put, List.setIfInBounds_toArray, List.set_cons_zero, List.set_cons_succ, i64_w, i32_w]
                  rfl
                refine one_ (i := 2) (N := some 19) #[true, true, true, true, true, true, false] rfl rfl (by kernel_rfl) (by decide) (fun K hK => ?_)
                refine goes_ Try.func112 (by kernel_rfl) rfl #[.agg (csBay a0_0 a0_1 a0_2), .agg #[.int .i8 ((rd_T36 t251 x13_1).f0), .int .i8 ((rd_T36 t251 x13_1).f1)]] (by rfl) rfl rfl (by (try simp only [List.map_toArray, List.map_cons, List.map_nil]); first | done | rfl | (simp only [List.length_drop, List.length_take]; rfl)) ?_
                with_reducible refine (impl_depth.calls a0_0 a0_1 a0_2 ((rd_T36 t251 x13_1).f0) ((rd_T36 t251 x13_1).f1) t256 _ A16.out).mono ?_
                rintro e w25 ⟨rfl, hb⟩
                refine ⟨_, rfl, ?_⟩
                have n0_ := am (Kd.R_below (kr HO_5) hb)
                have n1_ := am (Kd.R_below (kr HO_11) hb)
                have n2_ := bB BK246 hb
                have n3_ := bB BK247 hb
                have n4_ := bB BK255 hb
                have n5_ := am (below_step (be HB) hb)
                clear HO_5
                clear HO_11
                clear BK246
                clear BK247
                clear BK255
                clear HB
                have HO_5 := n0_
                have HO_11 := n1_
                have BK246 := n2_
                have BK247 := n3_
                have BK255 := n4_
                have HB := n5_
                clear n0_ n1_ n2_ n3_ n4_ n5_
                (try clear hb)
                (try clear hb2)
                (try clear hk)
                (try clear hi)
                refine hK.out _ _ ⟨(blk_cell BK246.out 0).trans rfl, (blk_cell BK246.out 1).trans rfl, at_cells BK246.out, BayAt28_of BK246.out, lvv_of BK246.out, (blk_cell BK255.out 0).trans rfl, (blk_cell BK255.out 1).trans rfl, (blk_cell BK247.out 0).trans rfl, (blk_cell BK247.out 1).trans rfl, (blk_cell BK247.out 2).trans rfl, (blk_cell BK247.out 3).trans rfl, (blk_cell BK247.out 4).trans rfl, (blk_cell BK247.out 5).trans rfl⟩ (fun hHeld => ?_)
                clear hK K
                refine norm_ (a' := ?_) ?_ ?_
                rotate_left
                · show Act.put _ (some 19) _ = _
                  simp only [Act.put, List.setIfInBounds_toArray, List.set_cons_zero, List.set_cons_succ, i64_w, i32_w]
                  rfl
                refine pure_ (i := 6) (N := some 23) (v := ?_) (a' := ?_) #[true, true, true, true, true, true, true] rfl rfl (by kernel_rfl) (fun _ _ _ h => h) (Or.inl ⟨by rfl, ?_⟩) ?_ ?_
                rotate_left
                · intro w'
                  go_simp
                  with_reducible rfl
                rotate_left
                · simp only [Act.put, List.setIfInBounds_toArray, List.set_cons_zero, List.set_cons_succ, i64_w, i32_w]
                  rfl
                refine done_ (by kernel_rfl) ?_
                obtain ⟨hcz26_0, hcz26_1, hfz26_0, hfz26_1⟩ := bx2 BK255
                try go_wp2_with (first | ((with_reducible refine gate_builtin (b := .append) (xs := #[.tmp 24, .tmp 26]) rfl ?_); at_builtin; refine Kd.R_append k36 (w0 := w) w.heap.size rfl (.tmp 24) (.tmp 26) 56 36 (.agg #[(.int .i8 0), (.int .i8 0)]) 2 rfl Try.underlying56 info36 rfl (by decide) (by omega) u5 x5_1 (⟨(rd_T36 t251 x13_1).f0, (rd_T36 t251 x13_1).f1⟩ : S36) [.int .i8 ((rd_T36 t251 x13_1).f0), .int .i8 ((rd_T36 t251 x13_1).f1)] (fun k_ => some k_ ≠ (.slice (some ad254) t251.length co12 : Value).ownBlock ∧ k_ ≠ gb255) (fun _ => False) rfl rfl ?aP (fun _ hk => hk.elim) ?aF ?aO ?aB ?aS ?aL ?_; (case aP => exact k36_mkM _ _ _ (⟨(rd_T36 t251 x13_1).f0, (rd_T36 t251 x13_1).f1⟩ : S36)); (case aB => exact (be HB)); (case aF => exact (fun k_ hk => ⟨Kd.fresh' (Kd.R_lt (kr HO_11)) k_ hk, Kd.freshB (g := gb255) (o := .cells #[.int .i8 ((rd_T36 t251 x13_1).f0), .int .i8 ((rd_T36 t251 x13_1).f1)] 36 (0, 0)) (kb BK255) k_ hk⟩)); (case aO => exact (kr HO_5)); (case aS => exact (below_size (be HB))); (case aL => have := LMc18.out; omega); intro v258 w27 ho hb hg hat; rw [← Ny257.out] at ho; have HO259 := am (ho); replace HO_11 := am (Kd.R_after (ok := (fun k_ => k_ ≠ gb255)) (by (with_reducible repeat (first | apply Kd.R_alloc | apply Kd.R_drewN | apply Kd.R_drew)); exact Kd.R_mono HO_11.out (fun _ hk => ⟨hk.2, hk.1⟩)) hg hat); replace BK246 := am (blk_grown (g := gb246) (o := .cells (csBay a0_0 a0_1 a0_2) 28 (0, 0)) (kb BK246) hg (Kd.R_ne HO_5.out BK246.out (by decide))); replace BK247 := am (blk_grown (g := gb247) (o := .cells #[.int .i8 a1_0, .int .i8 a1_1, .int .i8 a1_2, .int .i8 a1_3, .int .i8 a1_4, .int .i8 a1_5] 38 (0, 0)) (kb BK247) hg (Kd.R_ne HO_5.out BK247.out (by decide))); replace BK255 := am (blk_grown (g := gb255) (o := .cells #[.int .i8 ((rd_T36 t251 x13_1).f0), .int .i8 ((rd_T36 t251 x13_1).f1)] 36 (0, 0)) (kb BK255) hg (Kd.R_away HO_5.out (fun _ hk => hk.2))); replace HB := am (hb); clear HO_5; clear ho hb hg hat))
                go_roundg k1
                case measure => have := HK1.out; omega
                case rel => exact ⟨(y257), (wrap64 (x13_1 + 1)), vv, H', ⟨by have := HK1.out; omega⟩, ⟨by (with_reducible repeat (first | apply Kd.R_alloc | apply Kd.R_drewN | apply Kd.R_drew)); exact Kd.R_mono HO259.out (fun _ hk => hk.1)⟩, ⟨by (with_reducible repeat (first | apply Kd.R_alloc | apply Kd.R_drewN | apply Kd.R_drew)); exact Kd.R_mono HO_11.out (fun _ hk => hk.2)⟩, ⟨kb BK246⟩, ⟨kb BK247⟩, ⟨be HB⟩⟩
              · rw [if_neg c18] at H
                exact absurd H (by simp)
            · rw [if_neg c17] at H
              have c17b0 : decide (t256 < (wrap64 (a1_4))) = false := decide_eq_false c17
              clear c17
              have H' := am H
              clear H
              have p254 : 0 ≤ (x13_1 : Int) := of_decide_eq_true (by first | (with_reducible assumption) | assumption)
              have q254 : x13_1 < (t251.length : Int) := of_decide_eq_true (by first | (with_reducible assumption) | assumption)
              obtain ⟨ad254, e254, hx254_0, hx254_1⟩ := at_T36 (Kd.R_reads' HO_11.out).2.2 x13_1 p254 q254
              cases e254
              replace p254 := eq_true p254
              replace q254 := eq_true q254
              try go_wp2_with (first | ((with_reducible refine gate_dst (N := 7) rfl ?_); refine bxe (N := 7) (cs := #[.int .i8 0, .int .i8 0]) (t := 36) ?_; intro gb255 hg w28 hbox hb; have BK255 := am (hbox); have GW255 := am (gN hg (below_size (be HB))); have GE255 := am (gN hg (below_size (be HB))); have NB246_255 := nL BK246 hg; have NB255_246 := nR BK246 hg; have NB247_255 := nL BK247 hg; have NB255_247 := nR BK247 hg; replace HO_5 := am (Kd.R_below (Kd.R_elderB (kr HO_5) gb255 (Nat.le_of_eq hg.symm)) hb); replace HO_11 := am (Kd.R_below (Kd.R_elderB (kr HO_11) gb255 (Nat.le_of_eq hg.symm)) hb); replace BK246 := bB BK246 hb; replace BK247 := bB BK247 hb; replace HB := am (below_step (be HB) hb); clear hb hbox hg; have hnb29 := NB255_246.out; have hnc29 := NB246_255.out; have hnb30 := NB255_247.out; have hnc30 := NB247_255.out; obtain ⟨hcz31_0, hcz31_1, hfz31_0, hfz31_1⟩ := bx2 BK255))
              have n0_ : Aside0 (Kd.R k36 36 ((w28.setCell ⟨gb255, 0, none⟩ (.int .i8 ((rd_T36 t251 x13_1).f0))).setCell ⟨gb255, 1, none⟩ (.int .i8 ((rd_T36 t251 x13_1).f1))) w.heap.size (fun k_ => some k_ ≠ (.slice (some ad254) t251.length co12 : Value).ownBlock ∧ k_ ≠ gb255) u5 x5_1) := ⟨by (with_reducible repeat (first | apply Kd.R_alloc | apply Kd.R_drewN | apply Kd.R_drew)); exact Kd.R_mono (Kd.R_far (p := ⟨gb255, 1, none⟩) (Kd.R_far (p := ⟨gb255, 0, none⟩) (Kd.R_mono HO_5.out (fun k_ hk => (⟨hk, hk.2⟩ : _ ∧ k_ ≠ gb255))) (fun _ hk => hk.2) (.int .i8 ((rd_T36 t251 x13_1).f0))) (fun _ hk => hk.2) (.int .i8 ((rd_T36 t251 x13_1).f1))) (fun _ hk => ⟨hk.1.1, hk.1.2⟩)⟩
              have n1_ : Aside0 (Kd.R k36 36 ((w28.setCell ⟨gb255, 0, none⟩ (.int .i8 ((rd_T36 t251 x13_1).f0))).setCell ⟨gb255, 1, none⟩ (.int .i8 ((rd_T36 t251 x13_1).f1))) w.heap.size (fun k_ => some k_ ≠ (u5 : Value).ownBlock ∧ k_ ≠ gb255) (.slice (some ad254) t251.length co12) t251) := ⟨by (with_reducible repeat (first | apply Kd.R_alloc | apply Kd.R_drewN | apply Kd.R_drew)); exact Kd.R_mono (Kd.R_far (p := ⟨gb255, 1, none⟩) (Kd.R_far (p := ⟨gb255, 0, none⟩) (Kd.R_mono HO_11.out (fun k_ hk => (⟨hk, hk.2⟩ : _ ∧ k_ ≠ gb255))) (fun _ hk => hk.2) (.int .i8 ((rd_T36 t251 x13_1).f0))) (fun _ hk => hk.2) (.int .i8 ((rd_T36 t251 x13_1).f1))) (fun _ hk => ⟨hk.1.1, hk.1.2⟩)⟩
              have n2_ : Aside0 (((w28.setCell ⟨gb255, 0, none⟩ (.int .i8 ((rd_T36 t251 x13_1).f0))).setCell ⟨gb255, 1, none⟩ (.int .i8 ((rd_T36 t251 x13_1).f1))).heap[gb246]? = some (.cells (csBay a0_0 a0_1 a0_2) 28 (0, 0))) := ⟨by (with_reducible repeat (first | refine blk_drewN ?_ _ | refine blk_drew ?_ | refine blk_alloc ?_ _)); refine blk_far ?_ NB246_255.out _; (with_reducible repeat (first | refine blk_drewN ?_ _ | refine blk_drew ?_ | refine blk_alloc ?_ _)); refine blk_far ?_ NB246_255.out _; exact kb BK246⟩
              have n3_ : Aside0 (((w28.setCell ⟨gb255, 0, none⟩ (.int .i8 ((rd_T36 t251 x13_1).f0))).setCell ⟨gb255, 1, none⟩ (.int .i8 ((rd_T36 t251 x13_1).f1))).heap[gb247]? = some (.cells #[.int .i8 a1_0, .int .i8 a1_1, .int .i8 a1_2, .int .i8 a1_3, .int .i8 a1_4, .int .i8 a1_5] 38 (0, 0))) := ⟨by (with_reducible repeat (first | refine blk_drewN ?_ _ | refine blk_drew ?_ | refine blk_alloc ?_ _)); refine blk_far ?_ NB247_255.out _; (with_reducible repeat (first | refine blk_drewN ?_ _ | refine blk_drew ?_ | refine blk_alloc ?_ _)); refine blk_far ?_ NB247_255.out _; exact kb BK247⟩
              have n4_ : Aside0 (((w28.setCell ⟨gb255, 0, none⟩ (.int .i8 ((rd_T36 t251 x13_1).f0))).setCell ⟨gb255, 1, none⟩ (.int .i8 ((rd_T36 t251 x13_1).f1))).heap[gb255]? = some (.cells #[.int .i8 ((rd_T36 t251 x13_1).f0), .int .i8 ((rd_T36 t251 x13_1).f1)] 36 (0, 0))) := ⟨by (with_reducible repeat (first | refine blk_drewN ?_ _ | refine blk_drew ?_ | refine blk_alloc ?_ _)); refine blk_put (cs := #[.int .i8 ((rd_T36 t251 x13_1).f0), .int .i8 0]) ?_ 1 _ rfl; (with_reducible repeat (first | refine blk_drewN ?_ _ | refine blk_drew ?_ | refine blk_alloc ?_ _)); refine blk_put (cs := #[.int .i8 0, .int .i8 0]) ?_ 0 _ rfl; exact kb BK255⟩
              have n5_ : Aside0 (Below w.heap.size w ((w28.setCell ⟨gb255, 0, none⟩ (.int .i8 ((rd_T36 t251 x13_1).f0))).setCell ⟨gb255, 1, none⟩ (.int .i8 ((rd_T36 t251 x13_1).f1)))) := ⟨be HB⟩
              (try clear HO_5)
              (try clear HO_11)
              (try clear BK246)
              (try clear BK247)
              (try clear BK255)
              (try clear HB)
              generalize ((w28.setCell ⟨gb255, 0, none⟩ (.int .i8 ((rd_T36 t251 x13_1).f0))).setCell ⟨gb255, 1, none⟩ (.int .i8 ((rd_T36 t251 x13_1).f1))) = w32 at n0_ n1_ n2_ n3_ n4_ n5_ ⊢
              have HO_5 := n0_
              have HO_11 := n1_
              have BK246 := n2_
              have BK247 := n3_
              have BK255 := n4_
              have HB := n5_
              clear n0_ n1_ n2_ n3_ n4_ n5_
              have n0_ := am (Kd.R_drew HO_5.out)
              have n1_ := am (Kd.R_drew HO_11.out)
              have n2_ := am (blk_drew BK246.out)
              have n3_ := am (blk_drew BK247.out)
              have n4_ := am (blk_drew BK255.out)
              have n5_ := am (below_drew1 HB.out)
              clear HO_5
              clear HO_11
              clear BK246
              clear BK247
              clear BK255
              clear HB
              have HO_5 := n0_
              have HO_11 := n1_
              have BK246 := n2_
              have BK247 := n3_
              have BK255 := n4_
              have HB := n5_
              clear n0_ n1_ n2_ n3_ n4_ n5_
              refine start_ (n := 7) (S := fun w' => w'.cell? ⟨gb246, 0, none⟩ = some (.int .i8 a0_0) ∧ w'.cell? ⟨gb246, 1, none⟩ = some (.int .i8 a0_1) ∧ atCells w' gb246 a0_2 ∧ BayAt28 w' gb246 ∧ lvv w' gb246 = .agg (csBay a0_0 a0_1 a0_2) ∧ w'.cell? ⟨gb255, 0, none⟩ = some (.int .i8 ((rd_T36 t251 x13_1).f0)) ∧ w'.cell? ⟨gb255, 1, none⟩ = some (.int .i8 ((rd_T36 t251 x13_1).f1)) ∧ w'.cell? ⟨gb247, 0, none⟩ = some (.int .i8 a1_0) ∧ w'.cell? ⟨gb247, 1, none⟩ = some (.int .i8 a1_1) ∧ w'.cell? ⟨gb247, 2, none⟩ = some (.int .i8 a1_2) ∧ w'.cell? ⟨gb247, 3, none⟩ = some (.int .i8 a1_3) ∧ w'.cell? ⟨gb247, 4, none⟩ = some (.int .i8 a1_4) ∧ w'.cell? ⟨gb247, 5, none⟩ = some (.int .i8 a1_5)) (ds := []) #[false, false, false, false, false, false, false] (by kernel_rfl) rfl rfl ⟨(blk_cell BK246.out 0).trans rfl, (blk_cell BK246.out 1).trans rfl, at_cells BK246.out, BayAt28_of BK246.out, lvv_of BK246.out, (blk_cell BK255.out 0).trans rfl, (blk_cell BK255.out 1).trans rfl, (blk_cell BK247.out 0).trans rfl, (blk_cell BK247.out 1).trans rfl, (blk_cell BK247.out 2).trans rfl, (blk_cell BK247.out 3).trans rfl, (blk_cell BK247.out 4).trans rfl, (blk_cell BK247.out 5).trans rfl⟩ (fun hHeld => ?_)
              generalize w32.drew = w33 at HO_5 HO_11 BK246 BK247 BK255 HB hHeld ⊢
              refine pure_ (i := 3) (N := some 20) (v := ?_) (a' := ?_) #[false, false, false, true, false, false, false] rfl rfl (by kernel_rfl) (fun _ _ _ h => h) (Or.inl ⟨by rfl, ?_⟩) ?_ ?_
              rotate_left
              · intro w'
                go_simp
                with_reducible rfl
              rotate_left
              · simp only [Act.put, List.setIfInBounds_toArray, List.set_cons_zero, List.set_cons_succ, i64_w, i32_w]
                rfl
              refine take_ (i := 0) (N := some 17) (v := ?_) (a' := ?_) #[true, false, false, true, false, false, false] rfl rfl (by kernel_rfl) (fun _ _ _ h => h) (Or.inl ⟨by rfl, ?_⟩) hHeld ?_ ?_
              rotate_left
              · rintro w' ⟨s0, s1, s2, s3, s4, s5, s6, s7, s8, s9, s10, s11, s12⟩
                go_simp
                with_reducible rfl
              rotate_left
              · simp only [Act.put, List.setIfInBounds_toArray, List.set_cons_zero, List.set_cons_succ, i64_w, i32_w]
                rfl
              refine take_ (i := 1) (N := some 18) (v := ?_) (a' := ?_) #[true, true, false, true, false, false, false] rfl rfl (by kernel_rfl) (fun _ _ _ h => h) (Or.inl ⟨by rfl, ?_⟩) hHeld ?_ ?_
              rotate_left
              · rintro w' ⟨s0, s1, s2, s3, s4, s5, s6, s7, s8, s9, s10, s11, s12⟩
                go_simp
                with_reducible rfl
              rotate_left
              · simp only [Act.put, List.setIfInBounds_toArray, List.set_cons_zero, List.set_cons_succ, i64_w, i32_w]
                rfl
              refine take_ (i := 4) (N := some 21) (v := ?_) (a' := ?_) #[true, true, false, true, true, false, false] rfl rfl (by kernel_rfl) (fun _ _ _ h => h) (Or.inl ⟨by rfl, ?_⟩) hHeld ?_ ?_
              rotate_left
              · rintro w' ⟨s0, s1, s2, s3, s4, s5, s6, s7, s8, s9, s10, s11, s12⟩
                go_simp
                with_reducible rfl
              rotate_left
              · simp only [Act.put, List.setIfInBounds_toArray, List.set_cons_zero, List.set_cons_succ, i64_w, i32_w]
                rfl
              refine pure_ (i := 5) (N := some 22) (v := ?_) (a' := ?_) #[true, true, false, true, true, true, false] rfl rfl (by kernel_rfl) (fun _ _ _ h => h) (Or.inl ⟨by rfl, ?_⟩) ?_ ?_
              rotate_left
              · intro w'
                go_simp
                with_reducible rfl
              rotate_left
              · simp only [Act.put, List.setIfInBounds_toArray, List.set_cons_zero, List.set_cons_succ, i64_w, i32_w]
                rfl
              refine one_ (i := 2) (N := some 19) #[true, true, true, true, true, true, false] rfl rfl (by kernel_rfl) (by decide) (fun K hK => ?_)
              refine goes_ Try.func112 (by kernel_rfl) rfl #[.agg (csBay a0_0 a0_1 a0_2), .agg #[.int .i8 ((rd_T36 t251 x13_1).f0), .int .i8 ((rd_T36 t251 x13_1).f1)]] (by rfl) rfl rfl (by (try simp only [List.map_toArray, List.map_cons, List.map_nil]); first | done | rfl | (simp only [List.length_drop, List.length_take]; rfl)) ?_
              with_reducible refine (impl_depth.calls a0_0 a0_1 a0_2 ((rd_T36 t251 x13_1).f0) ((rd_T36 t251 x13_1).f1) t256 _ A16.out).mono ?_
              rintro e w34 ⟨rfl, hb⟩
              refine ⟨_, rfl, ?_⟩
              have n0_ := am (Kd.R_below (kr HO_5) hb)
              have n1_ := am (Kd.R_below (kr HO_11) hb)
              have n2_ := bB BK246 hb
              have n3_ := bB BK247 hb
              have n4_ := bB BK255 hb
              have n5_ := am (below_step (be HB) hb)
              clear HO_5
              clear HO_11
              clear BK246
              clear BK247
              clear BK255
              clear HB
              have HO_5 := n0_
              have HO_11 := n1_
              have BK246 := n2_
              have BK247 := n3_
              have BK255 := n4_
              have HB := n5_
              clear n0_ n1_ n2_ n3_ n4_ n5_
              (try clear hb)
              (try clear hb2)
              (try clear hk)
              (try clear hi)
              refine hK.out _ _ ⟨(blk_cell BK246.out 0).trans rfl, (blk_cell BK246.out 1).trans rfl, at_cells BK246.out, BayAt28_of BK246.out, lvv_of BK246.out, (blk_cell BK255.out 0).trans rfl, (blk_cell BK255.out 1).trans rfl, (blk_cell BK247.out 0).trans rfl, (blk_cell BK247.out 1).trans rfl, (blk_cell BK247.out 2).trans rfl, (blk_cell BK247.out 3).trans rfl, (blk_cell BK247.out 4).trans rfl, (blk_cell BK247.out 5).trans rfl⟩ (fun hHeld => ?_)
              clear hK K
              refine norm_ (a' := ?_) ?_ ?_
              rotate_left
              · show Act.put _ (some 19) _ = _
                simp only [Act.put, List.setIfInBounds_toArray, List.set_cons_zero, List.set_cons_succ, i64_w, i32_w]
                rfl
              refine pure_ (i := 6) (N := some 23) (v := ?_) (a' := ?_) #[true, true, true, true, true, true, true] rfl rfl (by kernel_rfl) (fun _ _ _ h => h) (Or.inl ⟨by rfl, ?_⟩) ?_ ?_
              rotate_left
              · intro w'
                go_simp
                with_reducible rfl
              rotate_left
              · simp only [Act.put, List.setIfInBounds_toArray, List.set_cons_zero, List.set_cons_succ, i64_w, i32_w]
                rfl
              refine done_ (by kernel_rfl) ?_
              try go_wp2
              go_roundg k1
              case measure => have := HK1.out; omega
              case rel => exact ⟨(x5_1), (wrap64 (x13_1 + 1)), vv, H', ⟨by have := HK1.out; omega⟩, ⟨by (with_reducible repeat (first | apply Kd.R_alloc | apply Kd.R_drewN | apply Kd.R_drew)); exact Kd.R_mono HO_5.out (fun _ hk => hk.1)⟩, ⟨by (with_reducible repeat (first | apply Kd.R_alloc | apply Kd.R_drewN | apply Kd.R_drew)); exact Kd.R_mono HO_11.out (fun _ hk => hk.1)⟩, ⟨kb BK246⟩, ⟨kb BK247⟩, ⟨be HB⟩⟩
          · rw [if_neg c15] at H
            exact absurd H (by simp)
        · rw [if_neg c14] at H
          exact absurd H (by simp)
      · rw [if_neg c13] at H
        have c13b0 : decide (x13_1 < (t251.length : Int)) = false := decide_eq_false c13
        clear c13
        obtain rfl := Option.some.inj H
        go_wp2
        go_ret
        exact ⟨_, by first | rfl | (simp [errW_none, errW_some] <;> rfl) | (simp [*, errW_none, errW_some] <;> rfl), by (with_reducible repeat (first | apply Kd.R_alloc | apply Kd.R_drewN | apply Kd.R_drew)); exact Kd.R_mono HO_5.out (fun _ hk => trivial), be HB⟩

end Go.Proofs.Ytcollbifdfhfoaa.PFnExactIsSafe
