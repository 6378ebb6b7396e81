-- Written by a program out of this seat's translation (functions, and that the code comes to them).
import Derived.Test.YtcollbifdfhfoaaPFnExactShoalsOfx0
import Derived.Test.YtcollbifdfhfoaaPFnExactShoalsOfx5
namespace Go.Proofs.Ytcollbifdfhfoaa.PFnExactShoalsOf
open Go.RowKit Go.Proofs.YtcollbifdfhfoaaW.PrintWords Go.Proofs.YtcollbifdfhfoaaW.PrintLast Go.Proofs.YtcollbifdfhfoaaW.PrintMore
attribute [local go_sem] max2_int min2_int max_two min_two max_three min_three max_four min_four   -- for this text's walks alone
open Go.Proofs.Ytcollbifdfhfoaa.Bay Go.Proofs.Ytcollbifdfhfoaa.Short
attribute [local go_sem ↓] lv26_eq lv28_eq
attribute [local go_sem] lvv_set lvv_drewN lvv_drew lv26_run BayAt26_set BayAt26_drewN BayAt26_drew lv28_run BayAt28_set BayAt28_drewN BayAt28_drew
set_option linter.unusedVariables false
set_option linter.unusedSimpArgs false

/-! ### impl_swingPlaces: function 123 -/
def impl_swingPlaces.l0 : Nat → Int → List (S36) → List (S36) → Int → Int → Int → Int → Int → Int → Int → Int → Option ((List (S36)))
  | 0, _, _, _, _, _, _, _, _, _, _, _ => none
  | k + 1, x5, x6, x14, x15, x16, x250000, x250001, x250002, x250003, x250004, x250005 => if x16 < x15 then (if 0 ≤ x16 then (if x16 < (x14.length : Int) then ((impl_far.f ((rd_T36 x14 x16).f0) ((rd_T36 x14 x16).f1) x250000 x250001).bind fun t259 => (if t259 ≤ (wrap64 (x5 * x5)) then (if x6.length < 70368744177664 then (impl_swingPlaces.l0 k x5 (x6 ++ [(⟨(rd_T36 x14 x16).f0, (rd_T36 x14 x16).f1⟩ : S36)]) x14 x15 (wrap64 (x16 + 1)) x250000 x250001 x250002 x250003 x250004 x250005) else (none)) else (impl_swingPlaces.l0 k x5 x6 x14 x15 (wrap64 (x16 + 1)) x250000 x250001 x250002 x250003 x250004 x250005))) else (none)) else (none)) else (some x6)
def impl_swingPlaces.f (k : Nat) (a0_0 : Int) (a0_1 : Int) (a0_2 : (Nat → Int)) (a1_0 : Int) (a1_1 : Int) (a1_2 : Int) (a1_3 : Int) (a1_4 : Int) (a1_5 : Int) : Option ((List (S36))) := (impl_swingOf.f k a0_0 a0_1 a0_2 a1_0 a1_1 a1_2 a1_3 a1_4 a1_5).bind fun t250 => ((impl_allPlaces.f k a0_0 a0_1 a0_2).bind fun t254 => (impl_swingPlaces.l0 k t250 (([] : List (S36))) t254 (t254.length : Int) 0 a1_0 a1_1 a1_2 a1_3 a1_4 a1_5))
set_option maxHeartbeats 8000000 in
set_option maxRecDepth 100000 in
theorem impl_swingPlaces.calls (k : Nat) (a0_0 : Int) (a0_1 : Int) (a0_2 : (Nat → Int)) (a1_0 : Int) (a1_1 : Int) (a1_2 : Int) (a1_3 : Int) (a1_4 : Int) (a1_5 : Int) (r : List (S36)) (w : World) (h : impl_swingPlaces.f k a0_0 a0_1 a0_2 a1_0 a1_1 a1_2 a1_3 a1_4 a1_5 = some r) :
    Calls Try.prog 123 #[.agg (csBay a0_0 a0_1 a0_2), .agg #[.int .i8 a1_0, .int .i8 a1_1, .int .i8 a1_2, .int .i8 a1_3, .int .i8 a1_4, .int .i8 a1_5]] w fun e w' => ∃ v0_ : Value, e = .returned (v0_) ∧ Kd.R k36 36 w' w.heap.size (fun _ => True) v0_ r ∧ Below w.heap.size w w' := by
  have hu28 := Try.underlying28
  have hu38 := Try.underlying38
  have hu36 := Try.underlying36
  have HB := am (Below.refl w.heap.size w)
  have H : ((impl_swingOf.f k a0_0 a0_1 a0_2 a1_0 a1_1 a1_2 a1_3 a1_4 a1_5).bind fun t250 => ((impl_allPlaces.f k a0_0 a0_1 a0_2).bind fun t254 => (impl_swingPlaces.l0 k t250 (([] : List (S36))) t254 (t254.length : Int) 0 a1_0 a1_1 a1_2 a1_3 a1_4 a1_5))) = some r := h
  clear h
  replace H := Option.bind_eq_some_iff.mp H
  obtain ⟨t250, A30, H⟩ := H
  try dsimp only at H
  have A3 := am A30
  clear A30
  obtain ⟨y251, hy251⟩ : ∃ y_ : List (S36), y_ = (([] : List (S36))) := ⟨_, rfl⟩
  replace H : ((impl_allPlaces.f k a0_0 a0_1 a0_2).bind fun t254 => (impl_swingPlaces.l0 k t250 y251 t254 (t254.length : Int) 0 a1_0 a1_1 a1_2 a1_3 a1_4 a1_5)) = some r := by first | (rw [hy251]; with_reducible exact H) | (have H2_ := (Option.bind_some _ _).symm.trans H; rw [hy251]; with_reducible exact H2_) | (have H2_ := (Option.bind_some _ _).symm.trans H; with_reducible exact H2_) | with_reducible exact H | (rw [hy251]; exact H) | exact H
  have Ny251 := am hy251
  clear hy251
  replace H := Option.bind_eq_some_iff.mp H
  obtain ⟨t254, A40, H⟩ := H
  try dsimp only at H
  have A4 := am A40
  clear A40
  have H' := am H
  clear H
  go_enter Try.func123, Try.ntmps123
  go_wp2_with (first | ((with_reducible refine gate_dst (N := 2) rfl ?_); refine bxe (N := 2) (cs := (csBay a0_0 a0_1 a0_2)) (t := 28) ?_; intro gb248 hg w5 hbox hb; have BK248 := am (hbox); have GW248 := am (gN hg (below_size (be HB))); have GE248 := am (gN hg (below_size (be HB))); replace HB := am (below_step (be HB) hb); clear hb hbox hg) | ((with_reducible refine gate_dst (N := 3) rfl ?_); refine bxe (N := 3) (cs := #[.int .i8 a1_0, .int .i8 a1_1, .int .i8 a1_2, .int .i8 a1_3, .int .i8 a1_4, .int .i8 a1_5]) (t := 38) ?_; intro gb249 hg w6 hbox hb; have BK249 := am (hbox); have GW249 := am (gN hg (below_size (be HB))); have GE249 := am (gN hg (below_size (be HB))); have NB248_249 := nL BK248 hg; have NB249_248 := nR BK248 hg; replace BK248 := bB BK248 hb; replace HB := am (below_step (be HB) hb); clear hb hbox hg; have hnb7 := NB248_249.out; have hnc7 := NB249_248.out; have hcz8_0 : w6.cell? ⟨gb248, 0, none⟩ = some (.int .i8 a0_0) := (blk_cell BK248.out 0).trans rfl; have hcz8_1 : w6.cell? ⟨gb248, 1, none⟩ = some (.int .i8 a0_1) := (blk_cell BK248.out 1).trans rfl; have hwz8 := lv28_at BK248.out; have haz8 := at_cells BK248.out; have hyz8 := BayAt28_of BK248.out; have hvz8 := lvv_of BK248.out; have hfz8_0 := blk_frozen BK248.out 0; have hfz8_1 := blk_frozen BK248.out 1; have hfz8_2 := blk_frozen BK248.out 2; obtain ⟨hcz9_0, hcz9_1, hcz9_2, hcz9_3, hcz9_4, hcz9_5, hfz9_0, hfz9_1, hfz9_2, hfz9_3, hfz9_4, hfz9_5⟩ := bx6 BK249) | ((with_reducible refine gate_callee (f := 115) rfl ?_); refine gL (some 11) Try.func115 #[.agg (csBay a0_0 a0_1 a0_2), .agg #[.int .i8 a1_0, .int .i8 a1_1, .int .i8 a1_2, .int .i8 a1_3, .int .i8 a1_4, .int .i8 a1_5]] ?_; (with_reducible refine (impl_swingOf.calls k a0_0 a0_1 a0_2 a1_0 a1_1 a1_2 a1_3 a1_4 a1_5 t250 _ A3.out).mono ?_); rintro e w10 ⟨rfl, hb⟩; refine ⟨_, rfl, ?_⟩; replace BK248 := bB BK248 hb; replace BK249 := bB BK249 hb; replace HB := am (below_step (be HB) hb); (try clear hb); (try clear hb2); (try clear hk); (try clear hi)) | ((with_reducible refine gate_dst (N := 12) rfl ?_); refine Kd.R_lit k36 _ 36 ?hg (N := 12) ?hd (xs := ([] : List (S36))) (inner := []) (ok := fun _ => True) (okp := fun _ => True) ?hr ?hp (fun _ hk => hk) trivial (Below.refl _ _) (Nat.le_refl _) (by simp) ?_; (case hd => rfl); (case hg => rfl); (case hr => first | (go_simp; done) | (go_simp; rfl)); (case hp => exact (Reps.none _ _)); intro v252 w11 ho12 hb hg_ hnew_; clear hg_ hnew_; (first | rw [← Ny251.out] at ho12 | (simp only [Int.reduceToNat] at ho12; rw [← Ny251.out] at ho12)); have HO253 := am (Kd.R_lower ho12 (below_size (be HB))); replace BK248 := bB BK248 hb; replace BK249 := bB BK249 hb; replace HB := am (below_step (be HB) hb); clear hb ho12; have hcz13_0 : w11.cell? ⟨gb248, 0, none⟩ = some (.int .i8 a0_0) := (blk_cell BK248.out 0).trans rfl; have hcz13_1 : w11.cell? ⟨gb248, 1, none⟩ = some (.int .i8 a0_1) := (blk_cell BK248.out 1).trans rfl; have hwz13 := lv28_at BK248.out; have haz13 := at_cells BK248.out; have hyz13 := BayAt28_of BK248.out; have hvz13 := lvv_of BK248.out; have hfz13_0 := blk_frozen BK248.out 0; have hfz13_1 := blk_frozen BK248.out 1; have hfz13_2 := blk_frozen BK248.out 2) | ((with_reducible refine gate_callee (f := 111) rfl ?_); refine gL (some 14) Try.func111 #[.agg (csBay a0_0 a0_1 a0_2)] ?_; (with_reducible refine (impl_allPlaces.calls k a0_0 a0_1 a0_2 t254 _ A4.out).mono ?_); rintro e w14 ⟨v255, rfl, ho0, hb⟩; refine ⟨_, rfl, ?_⟩; have HO256 := am (Kd.R_lower (Kd.R_new' ho0 (Kd.R_lt (kr HO253))) (below_size (be HB))); replace HO253 := am (Kd.R_elder' (kr HO253) (Kd.R_base ho0) hb); replace BK248 := bB BK248 hb; replace BK249 := bB BK249 hb; replace HB := am (below_step (be HB) hb); (try clear hb); (try clear hb2); (try clear hk); (try clear hi); (try clear ho0); obtain ⟨Ao15, co15, eo15⟩ := Kd.R_slice HO256.out; subst eo15))
  go_loopg [6, 16] k (fun kq v6 v16 w' => ∃ (x6_1 : List (S36)) (x16_1 : Int), v16 = .int .i64 x16_1 ∧ Aside0 (impl_swingPlaces.l0 kq t250 x6_1 t254 (t254.length : Int) x16_1 a1_0 a1_1 a1_2 a1_3 a1_4 a1_5 = some r) ∧ Aside0 (kq ≤ k) ∧ Aside0 (Kd.R k36 36 w' w.heap.size (fun k_ => some k_ ≠ ((.slice Ao15 t254.length co15) : Value).ownBlock) v6 x6_1) ∧ Aside0 (Kd.R k36 36 w' w.heap.size (fun k_ => some k_ ≠ (v6 : Value).ownBlock) (.slice Ao15 t254.length co15) t254) ∧ Aside0 (w'.heap[gb248]? = some (.cells (csBay a0_0 a0_1 a0_2) 28 (0, 0))) ∧ Aside0 (w'.heap[gb249]? = some (.cells #[.int .i8 a1_0, .int .i8 a1_1, .int .i8 a1_2, .int .i8 a1_3, .int .i8 a1_4, .int .i8 a1_5] 38 (0, 0))) ∧ Aside0 (Below w.heap.size w w'))
  case atStart => exact ⟨(y251), (0), vv, H', ⟨Nat.le_refl _⟩, ⟨by (with_reducible repeat (first | apply Kd.R_alloc | apply Kd.R_drewN | apply Kd.R_drew)); exact Kd.R_mono HO253.out (fun _ hk => hk.2)⟩, ⟨by (with_reducible repeat (first | apply Kd.R_alloc | apply Kd.R_drewN | apply Kd.R_drew)); exact Kd.R_mono HO256.out (fun _ hk => hk.2)⟩, ⟨kb BK248⟩, ⟨kb BK249⟩, ⟨be HB⟩⟩
  case round =>
    clear H'
    try clear c1
    try clear p2
    try clear c7
    try clear c11
    try clear c12
    try clear hcz13_0
    try clear hcz13_1
    try clear hcz8_0
    try clear hcz8_1
    try clear hcz9_0
    try clear hcz9_1
    try clear hcz9_2
    try clear hcz9_3
    try clear hcz9_4
    try clear hcz9_5
    try clear hfz13_0
    try clear hfz13_1
    try clear hfz13_2
    try clear hfz8_0
    try clear hfz8_1
    try clear hfz8_2
    try clear hfz9_0
    try clear hfz9_1
    try clear hfz9_2
    try clear hfz9_3
    try clear hfz9_4
    try clear hfz9_5
    obtain ⟨x6_1, x16_1, rfl, HA, HK1, HO_6, HO_14, BK248, BK249, HB⟩ := hrel
    cases gk with
    | zero => exact absurd HA.out (by simp [impl_swingPlaces.l0])
    | succ k1 =>
      have H := HA.out
      clear HA
      simp only [impl_swingPlaces.l0] at H
      by_cases c16 : x16_1 < (t254.length : Int)
      · rw [if_pos c16] at H
        have c16b0 : decide (x16_1 < (t254.length : Int)) = true := decide_eq_true c16
        clear c16
        by_cases c17 : 0 ≤ x16_1
        · rw [if_pos c17] at H
          have c17b0 : decide (0 ≤ x16_1) = true := decide_eq_true c17
          have c17b1 : 0 ≤ x16_1 := c17
          clear c17
          by_cases c18 : x16_1 < (t254.length : Int)
          · rw [if_pos c18] at H
            have c18b0 : decide (x16_1 < (t254.length : Int)) = true := decide_eq_true c18
            clear c18
            replace H := Option.bind_eq_some_iff.mp H
            obtain ⟨t259, A190, H⟩ := H
            try dsimp only at H
            have A19 := am A190
            clear A190
            by_cases c20 : t259 ≤ (wrap64 (t250 * t250))
            · rw [if_pos c20] at H
              have c20b0 : decide (t259 ≤ (wrap64 (t250 * t250))) = true := decide_eq_true c20
              clear c20
              by_cases c21 : x6_1.length < 70368744177664
              · rw [if_pos c21] at H
                have LMc21 := am c21
                clear c21
                obtain ⟨y260, hy260⟩ : ∃ y_ : List (S36), y_ = (x6_1 ++ [(⟨(rd_T36 t254 x16_1).f0, (rd_T36 t254 x16_1).f1⟩ : S36)]) := ⟨_, rfl⟩
                replace H : (impl_swingPlaces.l0 k1 t250 y260 t254 (t254.length : Int) (wrap64 (x16_1 + 1)) a1_0 a1_1 a1_2 a1_3 a1_4 a1_5) = some r := by first | (rw [hy260]; with_reducible exact H) | (have H2_ := (Option.bind_some _ _).symm.trans H; rw [hy260]; with_reducible exact H2_) | (have H2_ := (Option.bind_some _ _).symm.trans H; with_reducible exact H2_) | with_reducible exact H | (rw [hy260]; exact H) | exact H
                have Ny260 := am hy260
                clear hy260
                have H' := am H
                clear H
                have p257 : 0 ≤ (x16_1 : Int) := of_decide_eq_true (by first | (with_reducible assumption) | assumption)
                have q257 : x16_1 < (t254.length : Int) := of_decide_eq_true (by first | (with_reducible assumption) | assumption)
                obtain ⟨ad257, e257, hx257_0, hx257_1⟩ := at_T36 (Kd.R_reads' HO_14.out).2.2 x16_1 p257 q257
                cases e257
                replace p257 := eq_true p257
                replace q257 := eq_true q257
                go_wp2_with (first | ((with_reducible refine gate_dst (N := 8) rfl ?_); refine bxe (N := 8) (cs := #[.int .i8 0, .int .i8 0]) (t := 36) ?_; intro gb258 hg w22 hbox hb; have BK258 := am (hbox); have GW258 := am (gN hg (below_size (be HB))); have GE258 := am (gN hg (below_size (be HB))); have NB248_258 := nL BK248 hg; have NB258_248 := nR BK248 hg; have NB249_258 := nL BK249 hg; have NB258_249 := nR BK249 hg; replace HO_6 := am (Kd.R_below (Kd.R_elderB (kr HO_6) gb258 (Nat.le_of_eq hg.symm)) hb); replace HO_14 := am (Kd.R_below (Kd.R_elderB (kr HO_14) gb258 (Nat.le_of_eq hg.symm)) hb); replace BK248 := bB BK248 hb; replace BK249 := bB BK249 hb; replace HB := am (below_step (be HB) hb); clear hb hbox hg; have hnb23 := NB258_248.out; have hnc23 := NB248_258.out; have hnb24 := NB258_249.out; have hnc24 := NB249_258.out; obtain ⟨hcz25_0, hcz25_1, hfz25_0, hfz25_1⟩ := bx2 BK258; have hnb26 := NB249_248.out; have hnc26 := NB248_249.out; obtain ⟨hcz27_0, hcz27_1, hcz27_2, hcz27_3, hcz27_4, hcz27_5, hfz27_0, hfz27_1, hfz27_2, hfz27_3, hfz27_4, hfz27_5⟩ := bx6 BK249) | ((with_reducible refine gate_callee (f := 171) rfl ?_); refine gL (some 23) Try.func171 #[.agg #[.int .i8 ((rd_T36 t254 x16_1).f0), .int .i8 ((rd_T36 t254 x16_1).f1)], .agg #[.int .i8 a1_0, .int .i8 a1_1]] ?_; (with_reducible refine (impl_far.calls ((rd_T36 t254 x16_1).f0) ((rd_T36 t254 x16_1).f1) a1_0 a1_1 t259 _ A19.out).mono ?_); rintro e w28 ⟨rfl, hb⟩; refine ⟨_, rfl, ?_⟩; replace HO_6 := am (Kd.R_below (by (with_reducible repeat (first | apply Kd.R_alloc | apply Kd.R_drewN | apply Kd.R_drew)); exact (Kd.R_mono (Kd.R_far (p := ⟨gb258, 1, none⟩) (Kd.R_far (p := ⟨gb258, 0, none⟩) (Kd.R_mono HO_6.out (fun k_ hk => (⟨hk, hk.2⟩ : _ ∧ k_ ≠ gb258))) (fun _ hk => hk.2) (.int .i8 ((rd_T36 t254 x16_1).f0))) (fun _ hk => hk.2) (.int .i8 ((rd_T36 t254 x16_1).f1))) (fun _ h_ => h_.1))) hb); replace HO_14 := am (Kd.R_below (by (with_reducible repeat (first | apply Kd.R_alloc | apply Kd.R_drewN | apply Kd.R_drew)); exact (Kd.R_mono (Kd.R_far (p := ⟨gb258, 1, none⟩) (Kd.R_far (p := ⟨gb258, 0, none⟩) (Kd.R_mono HO_14.out (fun k_ hk => (⟨hk, hk.2⟩ : _ ∧ k_ ≠ gb258))) (fun _ hk => hk.2) (.int .i8 ((rd_T36 t254 x16_1).f0))) (fun _ hk => hk.2) (.int .i8 ((rd_T36 t254 x16_1).f1))) (fun _ h_ => h_.1))) hb); replace BK248 := am (blk_below (g := gb248) (o := .cells (csBay a0_0 a0_1 a0_2) 28 (0, 0)) (by (with_reducible repeat (first | refine blk_drewN ?_ _ | refine blk_drew ?_ | refine blk_alloc ?_ _)); refine blk_far ?_ NB248_258.out _; (with_reducible repeat (first | refine blk_drewN ?_ _ | refine blk_drew ?_ | refine blk_alloc ?_ _)); refine blk_far ?_ NB248_258.out _; exact kb BK248) hb); replace BK249 := am (blk_below (g := gb249) (o := .cells #[.int .i8 a1_0, .int .i8 a1_1, .int .i8 a1_2, .int .i8 a1_3, .int .i8 a1_4, .int .i8 a1_5] 38 (0, 0)) (by (with_reducible repeat (first | refine blk_drewN ?_ _ | refine blk_drew ?_ | refine blk_alloc ?_ _)); refine blk_far ?_ NB249_258.out _; (with_reducible repeat (first | refine blk_drewN ?_ _ | refine blk_drew ?_ | refine blk_alloc ?_ _)); refine blk_far ?_ NB249_258.out _; exact kb BK249) hb); replace BK258 := am (blk_below (g := gb258) (o := .cells #[.int .i8 ((rd_T36 t254 x16_1).f0), .int .i8 ((rd_T36 t254 x16_1).f1)] 36 (0, 0)) (by (with_reducible repeat (first | refine blk_drewN ?_ _ | refine blk_drew ?_ | refine blk_alloc ?_ _)); refine blk_put (cs := #[.int .i8 ((rd_T36 t254 x16_1).f0), .int .i8 0]) ?_ 1 _ rfl; (with_reducible repeat (first | refine blk_drewN ?_ _ | refine blk_drew ?_ | refine blk_alloc ?_ _)); refine blk_put (cs := #[.int .i8 0, .int .i8 0]) ?_ 0 _ rfl; exact kb BK258) hb); replace HB := am (below_step (be HB) hb); (try clear hb); (try clear hb2); (try clear hk); (try clear hi); obtain ⟨hcz29_0, hcz29_1, hfz29_0, hfz29_1⟩ := bx2 BK258) | ((with_reducible refine gate_builtin (b := .append) (xs := #[.tmp 28, .tmp 30]) rfl ?_); at_builtin; refine Kd.R_append k36 (w0 := w) w.heap.size rfl (.tmp 28) (.tmp 30) 56 36 (.agg #[(.int .i8 0), (.int .i8 0)]) 2 rfl Try.underlying56 info36 rfl (by decide) (by omega) u6 x6_1 (⟨(rd_T36 t254 x16_1).f0, (rd_T36 t254 x16_1).f1⟩ : S36) [.int .i8 ((rd_T36 t254 x16_1).f0), .int .i8 ((rd_T36 t254 x16_1).f1)] (fun k_ => some k_ ≠ (.slice (some ad257) t254.length co15 : Value).ownBlock ∧ k_ ≠ gb258) (fun _ => False) rfl rfl ?aP (fun _ hk => hk.elim) ?aF ?aO ?aB ?aS ?aL ?_; (case aP => exact k36_mkM _ _ _ (⟨(rd_T36 t254 x16_1).f0, (rd_T36 t254 x16_1).f1⟩ : S36)); (case aB => exact (be HB)); (case aF => exact (fun k_ hk => ⟨Kd.fresh' (Kd.R_lt (kr HO_14)) k_ hk, Kd.freshB (g := gb258) (o := .cells #[.int .i8 ((rd_T36 t254 x16_1).f0), .int .i8 ((rd_T36 t254 x16_1).f1)] 36 (0, 0)) (kb BK258) k_ hk⟩)); (case aO => exact (kr HO_6)); (case aS => exact (below_size (be HB))); (case aL => have := LMc21.out; omega); intro v261 w30 ho hb hg hat; rw [← Ny260.out] at ho; have HO262 := am (ho); replace HO_14 := am (Kd.R_after (ok := (fun k_ => k_ ≠ gb258)) (by (with_reducible repeat (first | apply Kd.R_alloc | apply Kd.R_drewN | apply Kd.R_drew)); exact Kd.R_mono HO_14.out (fun _ hk => ⟨hk.2, hk.1⟩)) hg hat); replace BK248 := am (blk_grown (g := gb248) (o := .cells (csBay a0_0 a0_1 a0_2) 28 (0, 0)) (kb BK248) hg (Kd.R_ne HO_6.out BK248.out (by decide))); replace BK249 := am (blk_grown (g := gb249) (o := .cells #[.int .i8 a1_0, .int .i8 a1_1, .int .i8 a1_2, .int .i8 a1_3, .int .i8 a1_4, .int .i8 a1_5] 38 (0, 0)) (kb BK249) hg (Kd.R_ne HO_6.out BK249.out (by decide))); replace BK258 := am (blk_grown (g := gb258) (o := .cells #[.int .i8 ((rd_T36 t254 x16_1).f0), .int .i8 ((rd_T36 t254 x16_1).f1)] 36 (0, 0)) (kb BK258) hg (Kd.R_away HO_6.out (fun _ hk => hk.2))); replace HB := am (hb); clear HO_6; clear ho hb hg hat))
                go_roundg k1
                case measure => have := HK1.out; omega
                case rel => exact ⟨(y260), (wrap64 (x16_1 + 1)), vv, H', ⟨by have := HK1.out; omega⟩, ⟨by (with_reducible repeat (first | apply Kd.R_alloc | apply Kd.R_drewN | apply Kd.R_drew)); exact Kd.R_mono HO262.out (fun _ hk => hk.1)⟩, ⟨by (with_reducible repeat (first | apply Kd.R_alloc | apply Kd.R_drewN | apply Kd.R_drew)); exact Kd.R_mono HO_14.out (fun _ hk => hk.2)⟩, ⟨kb BK248⟩, ⟨kb BK249⟩, ⟨be HB⟩⟩
              · rw [if_neg c21] at H
                exact absurd H (by simp)
            · rw [if_neg c20] at H
              have c20b0 : decide (t259 ≤ (wrap64 (t250 * t250))) = false := decide_eq_false c20
              clear c20
              have H' := am H
              clear H
              have p257 : 0 ≤ (x16_1 : Int) := of_decide_eq_true (by first | (with_reducible assumption) | assumption)
              have q257 : x16_1 < (t254.length : Int) := of_decide_eq_true (by first | (with_reducible assumption) | assumption)
              obtain ⟨ad257, e257, hx257_0, hx257_1⟩ := at_T36 (Kd.R_reads' HO_14.out).2.2 x16_1 p257 q257
              cases e257
              replace p257 := eq_true p257
              replace q257 := eq_true q257
              go_wp2_with (first | ((with_reducible refine gate_dst (N := 8) rfl ?_); refine bxe (N := 8) (cs := #[.int .i8 0, .int .i8 0]) (t := 36) ?_; intro gb258 hg w31 hbox hb; have BK258 := am (hbox); have GW258 := am (gN hg (below_size (be HB))); have GE258 := am (gN hg (below_size (be HB))); have NB248_258 := nL BK248 hg; have NB258_248 := nR BK248 hg; have NB249_258 := nL BK249 hg; have NB258_249 := nR BK249 hg; replace HO_6 := am (Kd.R_below (Kd.R_elderB (kr HO_6) gb258 (Nat.le_of_eq hg.symm)) hb); replace HO_14 := am (Kd.R_below (Kd.R_elderB (kr HO_14) gb258 (Nat.le_of_eq hg.symm)) hb); replace BK248 := bB BK248 hb; replace BK249 := bB BK249 hb; replace HB := am (below_step (be HB) hb); clear hb hbox hg; have hnb32 := NB258_248.out; have hnc32 := NB248_258.out; have hnb33 := NB258_249.out; have hnc33 := NB249_258.out; obtain ⟨hcz34_0, hcz34_1, hfz34_0, hfz34_1⟩ := bx2 BK258; have hnb35 := NB249_248.out; have hnc35 := NB248_249.out; obtain ⟨hcz36_0, hcz36_1, hcz36_2, hcz36_3, hcz36_4, hcz36_5, hfz36_0, hfz36_1, hfz36_2, hfz36_3, hfz36_4, hfz36_5⟩ := bx6 BK249) | ((with_reducible refine gate_callee (f := 171) rfl ?_); refine gL (some 23) Try.func171 #[.agg #[.int .i8 ((rd_T36 t254 x16_1).f0), .int .i8 ((rd_T36 t254 x16_1).f1)], .agg #[.int .i8 a1_0, .int .i8 a1_1]] ?_; (with_reducible refine (impl_far.calls ((rd_T36 t254 x16_1).f0) ((rd_T36 t254 x16_1).f1) a1_0 a1_1 t259 _ A19.out).mono ?_); rintro e w37 ⟨rfl, hb⟩; refine ⟨_, rfl, ?_⟩; replace HO_6 := am (Kd.R_below (by (with_reducible repeat (first | apply Kd.R_alloc | apply Kd.R_drewN | apply Kd.R_drew)); exact (Kd.R_mono (Kd.R_far (p := ⟨gb258, 1, none⟩) (Kd.R_far (p := ⟨gb258, 0, none⟩) (Kd.R_mono HO_6.out (fun k_ hk => (⟨hk, hk.2⟩ : _ ∧ k_ ≠ gb258))) (fun _ hk => hk.2) (.int .i8 ((rd_T36 t254 x16_1).f0))) (fun _ hk => hk.2) (.int .i8 ((rd_T36 t254 x16_1).f1))) (fun _ h_ => h_.1))) hb); replace HO_14 := am (Kd.R_below (by (with_reducible repeat (first | apply Kd.R_alloc | apply Kd.R_drewN | apply Kd.R_drew)); exact (Kd.R_mono (Kd.R_far (p := ⟨gb258, 1, none⟩) (Kd.R_far (p := ⟨gb258, 0, none⟩) (Kd.R_mono HO_14.out (fun k_ hk => (⟨hk, hk.2⟩ : _ ∧ k_ ≠ gb258))) (fun _ hk => hk.2) (.int .i8 ((rd_T36 t254 x16_1).f0))) (fun _ hk => hk.2) (.int .i8 ((rd_T36 t254 x16_1).f1))) (fun _ h_ => h_.1))) hb); replace BK248 := am (blk_below (g := gb248) (o := .cells (csBay a0_0 a0_1 a0_2) 28 (0, 0)) (by (with_reducible repeat (first | refine blk_drewN ?_ _ | refine blk_drew ?_ | refine blk_alloc ?_ _)); refine blk_far ?_ NB248_258.out _; (with_reducible repeat (first | refine blk_drewN ?_ _ | refine blk_drew ?_ | refine blk_alloc ?_ _)); refine blk_far ?_ NB248_258.out _; exact kb BK248) hb); replace BK249 := am (blk_below (g := gb249) (o := .cells #[.int .i8 a1_0, .int .i8 a1_1, .int .i8 a1_2, .int .i8 a1_3, .int .i8 a1_4, .int .i8 a1_5] 38 (0, 0)) (by (with_reducible repeat (first | refine blk_drewN ?_ _ | refine blk_drew ?_ | refine blk_alloc ?_ _)); refine blk_far ?_ NB249_258.out _; (with_reducible repeat (first | refine blk_drewN ?_ _ | refine blk_drew ?_ | refine blk_alloc ?_ _)); refine blk_far ?_ NB249_258.out _; exact kb BK249) hb); replace BK258 := am (blk_below (g := gb258) (o := .cells #[.int .i8 ((rd_T36 t254 x16_1).f0), .int .i8 ((rd_T36 t254 x16_1).f1)] 36 (0, 0)) (by (with_reducible repeat (first | refine blk_drewN ?_ _ | refine blk_drew ?_ | refine blk_alloc ?_ _)); refine blk_put (cs := #[.int .i8 ((rd_T36 t254 x16_1).f0), .int .i8 0]) ?_ 1 _ rfl; (with_reducible repeat (first | refine blk_drewN ?_ _ | refine blk_drew ?_ | refine blk_alloc ?_ _)); refine blk_put (cs := #[.int .i8 0, .int .i8 0]) ?_ 0 _ rfl; exact kb BK258) hb); replace HB := am (below_step (be HB) hb); (try clear hb); (try clear hb2); (try clear hk); (try clear hi)))
              go_roundg k1
              case measure => have := HK1.out; omega
              case rel => exact ⟨(x6_1), (wrap64 (x16_1 + 1)), vv, H', ⟨by have := HK1.out; omega⟩, ⟨by (with_reducible repeat (first | apply Kd.R_alloc | apply Kd.R_drewN | apply Kd.R_drew)); exact Kd.R_mono HO_6.out (fun _ hk => hk.1)⟩, ⟨by (with_reducible repeat (first | apply Kd.R_alloc | apply Kd.R_drewN | apply Kd.R_drew)); exact Kd.R_mono HO_14.out (fun _ hk => hk.1)⟩, ⟨kb BK248⟩, ⟨kb BK249⟩, ⟨be HB⟩⟩
          · rw [if_neg c18] at H
            exact absurd H (by simp)
        · rw [if_neg c17] at H
          exact absurd H (by simp)
      · rw [if_neg c16] at H
        have c16b0 : decide (x16_1 < (t254.length : Int)) = false := decide_eq_false c16
        clear c16
        obtain rfl := Option.some.inj H
        go_wp2
        go_ret
        exact ⟨_, by first | rfl | (simp [errW_none, errW_some] <;> rfl) | (simp [*, errW_none, errW_some] <;> rfl), by (with_reducible repeat (first | apply Kd.R_alloc | apply Kd.R_drewN | apply Kd.R_drew)); exact Kd.R_mono HO_6.out (fun _ hk => trivial), be HB⟩

/-! ### impl_shoals: function 124 -/
def impl_shoals.l0 : Nat → List (S36) → List (S36) → Int → Int → Int → Int → (Nat → Int) → Int → Int → Int → Int → Int → Int → Option ((List (S36)))
  | 0, _, _, _, _, _, _, _, _, _, _, _, _, _ => none
  | k + 1, x5, x11, x12, x13, x264000, x264001, x264002, x265000, x265001, x265002, x265003, x265004, x265005 => if x13 < x12 then (if 0 ≤ x13 then (if x13 < (x11.length : Int) then ((impl_depth.f x264000 x264001 x264002 ((rd_T36 x11 x13).f0) ((rd_T36 x11 x13).f1)).bind fun t273 => (if t273 < (wrap64 (x265004)) then (if x5.length < 70368744177664 then (impl_shoals.l0 k (x5 ++ [(⟨(rd_T36 x11 x13).f0, (rd_T36 x11 x13).f1⟩ : S36)]) x11 x12 (wrap64 (x13 + 1)) x264000 x264001 x264002 x265000 x265001 x265002 x265003 x265004 x265005) else (none)) else (impl_shoals.l0 k x5 x11 x12 (wrap64 (x13 + 1)) x264000 x264001 x264002 x265000 x265001 x265002 x265003 x265004 x265005))) else (none)) else (none)) else (some x5)
def impl_shoals.f (k : Nat) (a0_0 : Int) (a0_1 : Int) (a0_2 : (Nat → Int)) (a1_0 : Int) (a1_1 : Int) (a1_2 : Int) (a1_3 : Int) (a1_4 : Int) (a1_5 : Int) : Option ((List (S36))) := (impl_swingPlaces.f k a0_0 a0_1 a0_2 a1_0 a1_1 a1_2 a1_3 a1_4 a1_5).bind fun t268 => (impl_shoals.l0 k (([] : List (S36))) t268 (t268.length : Int) 0 a0_0 a0_1 a0_2 a1_0 a1_1 a1_2 a1_3 a1_4 a1_5)
set_option maxHeartbeats 8000000 in
set_option maxRecDepth 100000 in
theorem impl_shoals.calls (k : Nat) (a0_0 : Int) (a0_1 : Int) (a0_2 : (Nat → Int)) (a1_0 : Int) (a1_1 : Int) (a1_2 : Int) (a1_3 : Int) (a1_4 : Int) (a1_5 : Int) (r : List (S36)) (w : World) (h : impl_shoals.f k a0_0 a0_1 a0_2 a1_0 a1_1 a1_2 a1_3 a1_4 a1_5 = some r) :
    Calls Try.prog 124 #[.agg (csBay a0_0 a0_1 a0_2), .agg #[.int .i8 a1_0, .int .i8 a1_1, .int .i8 a1_2, .int .i8 a1_3, .int .i8 a1_4, .int .i8 a1_5]] w fun e w' => ∃ v0_ : Value, e = .returned (v0_) ∧ Kd.R k36 36 w' w.heap.size (fun _ => True) v0_ r ∧ Below w.heap.size w w' := by
  have hu28 := Try.underlying28
  have hu38 := Try.underlying38
  have hu36 := Try.underlying36
  have HB := am (Below.refl w.heap.size w)
  have H : ((impl_swingPlaces.f k a0_0 a0_1 a0_2 a1_0 a1_1 a1_2 a1_3 a1_4 a1_5).bind fun t268 => (impl_shoals.l0 k (([] : List (S36))) t268 (t268.length : Int) 0 a0_0 a0_1 a0_2 a1_0 a1_1 a1_2 a1_3 a1_4 a1_5)) = some r := h
  clear h
  obtain ⟨y265, hy265⟩ : ∃ y_ : List (S36), y_ = (([] : List (S36))) := ⟨_, rfl⟩
  replace H : ((impl_swingPlaces.f k a0_0 a0_1 a0_2 a1_0 a1_1 a1_2 a1_3 a1_4 a1_5).bind fun t268 => (impl_shoals.l0 k y265 t268 (t268.length : Int) 0 a0_0 a0_1 a0_2 a1_0 a1_1 a1_2 a1_3 a1_4 a1_5)) = some r := by first | (rw [hy265]; with_reducible exact H) | (have H2_ := (Option.bind_some _ _).symm.trans H; rw [hy265]; with_reducible exact H2_) | (have H2_ := (Option.bind_some _ _).symm.trans H; with_reducible exact H2_) | with_reducible exact H | (rw [hy265]; exact H) | exact H
  have Ny265 := am hy265
  clear hy265
  replace H := Option.bind_eq_some_iff.mp H
  obtain ⟨t268, A30, H⟩ := H
  try dsimp only at H
  have A3 := am A30
  clear A30
  have H' := am H
  clear H
  go_enter Try.func124, Try.ntmps124
  go_wp2_with (first | ((with_reducible refine gate_dst (N := 2) rfl ?_); refine bxe (N := 2) (cs := (csBay a0_0 a0_1 a0_2)) (t := 28) ?_; intro gb263 hg w4 hbox hb; have BK263 := am (hbox); have GW263 := am (gN hg (below_size (be HB))); have GE263 := am (gN hg (below_size (be HB))); replace HB := am (below_step (be HB) hb); clear hb hbox hg) | ((with_reducible refine gate_dst (N := 3) rfl ?_); refine bxe (N := 3) (cs := #[.int .i8 a1_0, .int .i8 a1_1, .int .i8 a1_2, .int .i8 a1_3, .int .i8 a1_4, .int .i8 a1_5]) (t := 38) ?_; intro gb264 hg w5 hbox hb; have BK264 := am (hbox); have GW264 := am (gN hg (below_size (be HB))); have GE264 := am (gN hg (below_size (be HB))); have NB263_264 := nL BK263 hg; have NB264_263 := nR BK263 hg; replace BK263 := bB BK263 hb; replace HB := am (below_step (be HB) hb); clear hb hbox hg) | ((with_reducible refine gate_dst (N := 8) rfl ?_); refine Kd.R_lit k36 _ 36 ?hg (N := 8) ?hd (xs := ([] : List (S36))) (inner := []) (ok := fun _ => True) (okp := fun _ => True) ?hr ?hp (fun _ hk => hk) trivial (Below.refl _ _) (Nat.le_refl _) (by simp) ?_; (case hd => rfl); (case hg => rfl); (case hr => first | (go_simp; done) | (go_simp; rfl)); (case hp => exact (Reps.none _ _)); intro v266 w6 ho7 hb hg_ hnew_; clear hg_ hnew_; (first | rw [← Ny265.out] at ho7 | (simp only [Int.reduceToNat] at ho7; rw [← Ny265.out] at ho7)); have HO267 := am (Kd.R_lower ho7 (below_size (be HB))); replace BK263 := bB BK263 hb; replace BK264 := bB BK264 hb; replace HB := am (below_step (be HB) hb); clear hb ho7; have hnb8 := NB263_264.out; have hnc8 := NB264_263.out; have hcz9_0 : w6.cell? ⟨gb263, 0, none⟩ = some (.int .i8 a0_0) := (blk_cell BK263.out 0).trans rfl; have hcz9_1 : w6.cell? ⟨gb263, 1, none⟩ = some (.int .i8 a0_1) := (blk_cell BK263.out 1).trans rfl; have hwz9 := lv28_at BK263.out; have haz9 := at_cells BK263.out; have hyz9 := BayAt28_of BK263.out; have hvz9 := lvv_of BK263.out; have hfz9_0 := blk_frozen BK263.out 0; have hfz9_1 := blk_frozen BK263.out 1; have hfz9_2 := blk_frozen BK263.out 2; obtain ⟨hcz10_0, hcz10_1, hcz10_2, hcz10_3, hcz10_4, hcz10_5, hfz10_0, hfz10_1, hfz10_2, hfz10_3, hfz10_4, hfz10_5⟩ := bx6 BK264) | ((with_reducible refine gate_callee (f := 123) rfl ?_); refine gL (some 11) Try.func123 #[.agg (csBay a0_0 a0_1 a0_2), .agg #[.int .i8 a1_0, .int .i8 a1_1, .int .i8 a1_2, .int .i8 a1_3, .int .i8 a1_4, .int .i8 a1_5]] ?_; (with_reducible refine (impl_swingPlaces.calls k a0_0 a0_1 a0_2 a1_0 a1_1 a1_2 a1_3 a1_4 a1_5 t268 _ A3.out).mono ?_); rintro e w11 ⟨v269, rfl, ho0, hb⟩; refine ⟨_, rfl, ?_⟩; have HO270 := am (Kd.R_lower (Kd.R_new' ho0 (Kd.R_lt (kr HO267))) (below_size (be HB))); replace HO267 := am (Kd.R_elder' (kr HO267) (Kd.R_base ho0) hb); replace BK263 := bB BK263 hb; replace BK264 := bB BK264 hb; replace HB := am (below_step (be HB) hb); (try clear hb); (try clear hb2); (try clear hk); (try clear hi); (try clear ho0); obtain ⟨Ao12, co12, eo12⟩ := Kd.R_slice HO270.out; subst eo12))
  go_loopg [5, 13] k (fun kq v5 v13 w' => ∃ (x5_1 : List (S36)) (x13_1 : Int), v13 = .int .i64 x13_1 ∧ Aside0 (impl_shoals.l0 kq x5_1 t268 (t268.length : Int) x13_1 a0_0 a0_1 a0_2 a1_0 a1_1 a1_2 a1_3 a1_4 a1_5 = some r) ∧ Aside0 (kq ≤ k) ∧ Aside0 (Kd.R k36 36 w' w.heap.size (fun k_ => some k_ ≠ ((.slice Ao12 t268.length co12) : Value).ownBlock) v5 x5_1) ∧ Aside0 (Kd.R k36 36 w' w.heap.size (fun k_ => some k_ ≠ (v5 : Value).ownBlock) (.slice Ao12 t268.length co12) t268) ∧ Aside0 (w'.heap[gb263]? = some (.cells (csBay a0_0 a0_1 a0_2) 28 (0, 0))) ∧ Aside0 (w'.heap[gb264]? = some (.cells #[.int .i8 a1_0, .int .i8 a1_1, .int .i8 a1_2, .int .i8 a1_3, .int .i8 a1_4, .int .i8 a1_5] 38 (0, 0))) ∧ Aside0 (Below w.heap.size w w'))
  case atStart => exact ⟨(y265), (0), vv, H', ⟨Nat.le_refl _⟩, ⟨by (with_reducible repeat (first | apply Kd.R_alloc | apply Kd.R_drewN | apply Kd.R_drew)); exact Kd.R_mono HO267.out (fun _ hk => hk.2)⟩, ⟨by (with_reducible repeat (first | apply Kd.R_alloc | apply Kd.R_drewN | apply Kd.R_drew)); exact Kd.R_mono HO270.out (fun _ hk => hk.2)⟩, ⟨kb BK263⟩, ⟨kb BK264⟩, ⟨be HB⟩⟩
  case round =>
    clear H'
    try clear c1
    try clear p2
    try clear c8
    try clear c12
    try clear hcz10_0
    try clear hcz10_1
    try clear hcz10_2
    try clear hcz10_3
    try clear hcz10_4
    try clear hcz10_5
    try clear hcz9_0
    try clear hcz9_1
    try clear hfz10_0
    try clear hfz10_1
    try clear hfz10_2
    try clear hfz10_3
    try clear hfz10_4
    try clear hfz10_5
    try clear hfz9_0
    try clear hfz9_1
    try clear hfz9_2
    obtain ⟨x5_1, x13_1, rfl, HA, HK1, HO_5, HO_11, BK263, BK264, HB⟩ := hrel
    cases gk with
    | zero => exact absurd HA.out (by simp [impl_shoals.l0])
    | succ k1 =>
      have H := HA.out
      clear HA
      simp only [impl_shoals.l0] at H
      by_cases c13 : x13_1 < (t268.length : Int)
      · rw [if_pos c13] at H
        have c13b0 : decide (x13_1 < (t268.length : Int)) = true := decide_eq_true c13
        clear c13
        by_cases c14 : 0 ≤ x13_1
        · rw [if_pos c14] at H
          have c14b0 : decide (0 ≤ x13_1) = true := decide_eq_true c14
          have c14b1 : 0 ≤ x13_1 := c14
          clear c14
          by_cases c15 : x13_1 < (t268.length : Int)
          · rw [if_pos c15] at H
            have c15b0 : decide (x13_1 < (t268.length : Int)) = true := decide_eq_true c15
            clear c15
            replace H := Option.bind_eq_some_iff.mp H
            obtain ⟨t273, A160, H⟩ := H
            try dsimp only at H
            have A16 := am A160
            clear A160
            by_cases c17 : t273 < (wrap64 (a1_4))
            · rw [if_pos c17] at H
              have c17b0 : decide (t273 < (wrap64 (a1_4))) = true := decide_eq_true c17
              clear c17
              by_cases c18 : x5_1.length < 70368744177664
              · rw [if_pos c18] at H
                have LMc18 := am c18
                clear c18
                obtain ⟨y274, hy274⟩ : ∃ y_ : List (S36), y_ = (x5_1 ++ [(⟨(rd_T36 t268 x13_1).f0, (rd_T36 t268 x13_1).f1⟩ : S36)]) := ⟨_, rfl⟩
                replace H : (impl_shoals.l0 k1 y274 t268 (t268.length : Int) (wrap64 (x13_1 + 1)) a0_0 a0_1 a0_2 a1_0 a1_1 a1_2 a1_3 a1_4 a1_5) = some r := by first | (rw [hy274]; with_reducible exact H) | (have H2_ := (Option.bind_some _ _).symm.trans H; rw [hy274]; with_reducible exact H2_) | (have H2_ := (Option.bind_some _ _).symm.trans H; with_reducible exact H2_) | with_reducible exact H | (rw [hy274]; exact H) | exact H
                have Ny274 := am hy274
                clear hy274
                have H' := am H
                clear H
                have p271 : 0 ≤ (x13_1 : Int) := of_decide_eq_true (by first | (with_reducible assumption) | assumption)
                have q271 : x13_1 < (t268.length : Int) := of_decide_eq_true (by first | (with_reducible assumption) | assumption)
                obtain ⟨ad271, e271, hx271_0, hx271_1⟩ := at_T36 (Kd.R_reads' HO_11.out).2.2 x13_1 p271 q271
                cases e271
                replace p271 := eq_true p271
                replace q271 := eq_true q271
                try go_wp2_with (first | ((with_reducible refine gate_dst (N := 7) rfl ?_); refine bxe (N := 7) (cs := #[.int .i8 0, .int .i8 0]) (t := 36) ?_; intro gb272 hg w19 hbox hb; have BK272 := am (hbox); have GW272 := am (gN hg (below_size (be HB))); have GE272 := am (gN hg (below_size (be HB))); have NB263_272 := nL BK263 hg; have NB272_263 := nR BK263 hg; have NB264_272 := nL BK264 hg; have NB272_264 := nR BK264 hg; replace HO_5 := am (Kd.R_below (Kd.R_elderB (kr HO_5) gb272 (Nat.le_of_eq hg.symm)) hb); replace HO_11 := am (Kd.R_below (Kd.R_elderB (kr HO_11) gb272 (Nat.le_of_eq hg.symm)) hb); replace BK263 := bB BK263 hb; replace BK264 := bB BK264 hb; replace HB := am (below_step (be HB) hb); clear hb hbox hg; have hnb20 := NB272_263.out; have hnc20 := NB263_272.out; have hnb21 := NB272_264.out; have hnc21 := NB264_272.out; obtain ⟨hcz22_0, hcz22_1, hfz22_0, hfz22_1⟩ := bx2 BK272))
                have n0_ : Aside0 (Kd.R k36 36 ((w19.setCell ⟨gb272, 0, none⟩ (.int .i8 ((rd_T36 t268 x13_1).f0))).setCell ⟨gb272, 1, none⟩ (.int .i8 ((rd_T36 t268 x13_1).f1))) w.heap.size (fun k_ => some k_ ≠ (.slice (some ad271) t268.length co12 : Value).ownBlock ∧ k_ ≠ gb272) u5 x5_1) := ⟨by (with_reducible repeat (first | apply Kd.R_alloc | apply Kd.R_drewN | apply Kd.R_drew)); exact Kd.R_mono (Kd.R_far (p := ⟨gb272, 1, none⟩) (Kd.R_far (p := ⟨gb272, 0, none⟩) (Kd.R_mono HO_5.out (fun k_ hk => (⟨hk, hk.2⟩ : _ ∧ k_ ≠ gb272))) (fun _ hk => hk.2) (.int .i8 ((rd_T36 t268 x13_1).f0))) (fun _ hk => hk.2) (.int .i8 ((rd_T36 t268 x13_1).f1))) (fun _ hk => ⟨hk.1.1, hk.1.2⟩)⟩
                have n1_ : Aside0 (Kd.R k36 36 ((w19.setCell ⟨gb272, 0, none⟩ (.int .i8 ((rd_T36 t268 x13_1).f0))).setCell ⟨gb272, 1, none⟩ (.int .i8 ((rd_T36 t268 x13_1).f1))) w.heap.size (fun k_ => some k_ ≠ (u5 : Value).ownBlock ∧ k_ ≠ gb272) (.slice (some ad271) t268.length co12) t268) := ⟨by (with_reducible repeat (first | apply Kd.R_alloc | apply Kd.R_drewN | apply Kd.R_drew)); exact Kd.R_mono (Kd.R_far (p := ⟨gb272, 1, none⟩) (Kd.R_far (p := ⟨gb272, 0, none⟩) (Kd.R_mono HO_11.out (fun k_ hk => (⟨hk, hk.2⟩ : _ ∧ k_ ≠ gb272))) (fun _ hk => hk.2) (.int .i8 ((rd_T36 t268 x13_1).f0))) (fun _ hk => hk.2) (.int .i8 ((rd_T36 t268 x13_1).f1))) (fun _ hk => ⟨hk.1.1, hk.1.2⟩)⟩
                have n2_ : Aside0 (((w19.setCell ⟨gb272, 0, none⟩ (.int .i8 ((rd_T36 t268 x13_1).f0))).setCell ⟨gb272, 1, none⟩ (.int .i8 ((rd_T36 t268 x13_1).f1))).heap[gb263]? = some (.cells (csBay a0_0 a0_1 a0_2) 28 (0, 0))) := ⟨by (with_reducible repeat (first | refine blk_drewN ?_ _ | refine blk_drew ?_ | refine blk_alloc ?_ _)); refine blk_far ?_ NB263_272.out _; (with_reducible repeat (first | refine blk_drewN ?_ _ | refine blk_drew ?_ | refine blk_alloc ?_ _)); refine blk_far ?_ NB263_272.out _; exact kb BK263⟩
                have n3_ : Aside0 (((w19.setCell ⟨gb272, 0, none⟩ (.int .i8 ((rd_T36 t268 x13_1).f0))).setCell ⟨gb272, 1, none⟩ (.int .i8 ((rd_T36 t268 x13_1).f1))).heap[gb264]? = some (.cells #[.int .i8 a1_0, .int .i8 a1_1, .int .i8 a1_2, .int .i8 a1_3, .int .i8 a1_4, .int .i8 a1_5] 38 (0, 0))) := ⟨by (with_reducible repeat (first | refine blk_drewN ?_ _ | refine blk_drew ?_ | refine blk_alloc ?_ _)); refine blk_far ?_ NB264_272.out _; (with_reducible repeat (first | refine blk_drewN ?_ _ | refine blk_drew ?_ | refine blk_alloc ?_ _)); refine blk_far ?_ NB264_272.out _; exact kb BK264⟩
                have n4_ : Aside0 (((w19.setCell ⟨gb272, 0, none⟩ (.int .i8 ((rd_T36 t268 x13_1).f0))).setCell ⟨gb272, 1, none⟩ (.int .i8 ((rd_T36 t268 x13_1).f1))).heap[gb272]? = some (.cells #[.int .i8 ((rd_T36 t268 x13_1).f0), .int .i8 ((rd_T36 t268 x13_1).f1)] 36 (0, 0))) := ⟨by (with_reducible repeat (first | refine blk_drewN ?_ _ | refine blk_drew ?_ | refine blk_alloc ?_ _)); refine blk_put (cs := #[.int .i8 ((rd_T36 t268 x13_1).f0), .int .i8 0]) ?_ 1 _ rfl; (with_reducible repeat (first | refine blk_drewN ?_ _ | refine blk_drew ?_ | refine blk_alloc ?_ _)); refine blk_put (cs := #[.int .i8 0, .int .i8 0]) ?_ 0 _ rfl; exact kb BK272⟩
                have n5_ : Aside0 (Below w.heap.size w ((w19.setCell ⟨gb272, 0, none⟩ (.int .i8 ((rd_T36 t268 x13_1).f0))).setCell ⟨gb272, 1, none⟩ (.int .i8 ((rd_T36 t268 x13_1).f1)))) := ⟨be HB⟩
                (try clear HO_5)
                (try clear HO_11)
                (try clear BK263)
                (try clear BK264)
                (try clear BK272)
                (try clear HB)
                generalize ((w19.setCell ⟨gb272, 0, none⟩ (.int .i8 ((rd_T36 t268 x13_1).f0))).setCell ⟨gb272, 1, none⟩ (.int .i8 ((rd_T36 t268 x13_1).f1))) = w23 at n0_ n1_ n2_ n3_ n4_ n5_ ⊢
                have HO_5 := n0_
                have HO_11 := n1_
                have BK263 := n2_
                have BK264 := n3_
                have BK272 := n4_
                have HB := n5_
                clear n0_ n1_ n2_ n3_ n4_ n5_
                have n0_ := am (Kd.R_drew HO_5.out)
                have n1_ := am (Kd.R_drew HO_11.out)
                have n2_ := am (blk_drew BK263.out)
                have n3_ := am (blk_drew BK264.out)
                have n4_ := am (blk_drew BK272.out)
                have n5_ := am (below_drew1 HB.out)
                clear HO_5
                clear HO_11
                clear BK263
                clear BK264
                clear BK272
                clear HB
                have HO_5 := n0_
                have HO_11 := n1_
                have BK263 := n2_
                have BK264 := n3_
                have BK272 := n4_
                have HB := n5_
                clear n0_ n1_ n2_ n3_ n4_ n5_
                refine start_ (n := 7) (S := fun w' => w'.cell? ⟨gb263, 0, none⟩ = some (.int .i8 a0_0) ∧ w'.cell? ⟨gb263, 1, none⟩ = some (.int .i8 a0_1) ∧ atCells w' gb263 a0_2 ∧ BayAt28 w' gb263 ∧ lvv w' gb263 = .agg (csBay a0_0 a0_1 a0_2) ∧ w'.cell? ⟨gb272, 0, none⟩ = some (.int .i8 ((rd_T36 t268 x13_1).f0)) ∧ w'.cell? ⟨gb272, 1, none⟩ = some (.int .i8 ((rd_T36 t268 x13_1).f1)) ∧ w'.cell? ⟨gb264, 0, none⟩ = some (.int .i8 a1_0) ∧ w'.cell? ⟨gb264, 1, none⟩ = some (.int .i8 a1_1) ∧ w'.cell? ⟨gb264, 2, none⟩ = some (.int .i8 a1_2) ∧ w'.cell? ⟨gb264, 3, none⟩ = some (.int .i8 a1_3) ∧ w'.cell? ⟨gb264, 4, none⟩ = some (.int .i8 a1_4) ∧ w'.cell? ⟨gb264, 5, none⟩ = some (.int .i8 a1_5)) (ds := []) #[false, false, false, false, false, false, false] (by kernel_rfl) rfl rfl ⟨(blk_cell BK263.out 0).trans rfl, (blk_cell BK263.out 1).trans rfl, at_cells BK263.out, BayAt28_of BK263.out, lvv_of BK263.out, (blk_cell BK272.out 0).trans rfl, (blk_cell BK272.out 1).trans rfl, (blk_cell BK264.out 0).trans rfl, (blk_cell BK264.out 1).trans rfl, (blk_cell BK264.out 2).trans rfl, (blk_cell BK264.out 3).trans rfl, (blk_cell BK264.out 4).trans rfl, (blk_cell BK264.out 5).trans rfl⟩ (fun hHeld => ?_)
                generalize w23.drew = w24 at HO_5 HO_11 BK263 BK264 BK272 HB hHeld ⊢
                refine pure_ (i := 3) (N := some 20) (v := ?_) (a' := ?_) #[false, false, false, true, false, false, false] rfl rfl (by kernel_rfl) (fun _ _ _ h => h) (Or.inl ⟨by rfl, ?_⟩) ?_ ?_
                rotate_left
                · intro w'
                  go_simp
                  with_reducible rfl
                rotate_left
                · simp only [Act.put, List.setIfInBounds_toArray, List.set_cons_zero, List.set_cons_succ, i64_w, i32_w]
                  rfl
                refine take_ (i := 0) (N := some 17) (v := ?_) (a' := ?_) #[true, false, false, true, false, false, false] rfl rfl (by kernel_rfl) (fun _ _ _ h => h) (Or.inl ⟨by rfl, ?_⟩) hHeld ?_ ?_
                rotate_left
                · rintro w' ⟨s0, s1, s2, s3, s4, s5, s6, s7, s8, s9, s10, s11, s12⟩
                  go_simp
                  with_reducible rfl
                rotate_left
                · simp only [Act.put, List.setIfInBounds_toArray, List.set_cons_zero, List.set_cons_succ, i64_w, i32_w]
                  rfl
                refine take_ (i := 1) (N := some 18) (v := ?_) (a' := ?_) #[true, true, false, true, false, false, false] rfl rfl (by kernel_rfl) (fun _ _ _ h => h) (Or.inl ⟨by rfl, ?_⟩) hHeld ?_ ?_
                rotate_left
                · rintro w' ⟨s0, s1, s2, s3, s4, s5, s6, s7, s8, s9, s10, s11, s12⟩
                  go_simp
                  with_reducible rfl
                rotate_left
                · simp only [Act.put, List.setIfInBounds_toArray, List.set_cons_zero, List.set_cons_succ, i64_w, i32_w]
                  rfl
                refine take_ (i := 4) (N := some 21) (v := ?_) (a' := ?_) #[true, true, false, true, true, false, false] rfl rfl (by kernel_rfl) (fun _ _ _ h => h) (Or.inl ⟨by rfl, ?_⟩) hHeld ?_ ?_
                rotate_left
                · rintro w' ⟨s0, s1, s2, s3, s4, s5, s6, s7, s8, s9, s10, s11, s12⟩
                  go_simp
                  with_reducible rfl
                rotate_left
                · simp only [Act.put, List.setIfInBounds_toArray, List.set_cons_zero, List.set_cons_succ, i64_w, i32_w]
                  rfl
                refine pure_ (i := 5) (N := some 22) (v := ?_) (a' := ?_) #[true, true, false, true, true, true, false] rfl rfl (by kernel_rfl) (fun _ _ _ h => h) (Or.inl ⟨by rfl, ?_⟩) ?_ ?_
                rotate_left
                · intro w'
                  go_simp
                  with_reducible rfl
                rotate_left
                · simp only [Act.put, List.setIfInBounds_toArray, List.set_cons_zero, List.set_cons_succ, i64_w, i32_w]
                  rfl
                refine one_ (i := 2) (N := some 19) #[true, true, true, true, true, true, false] rfl rfl (by kernel_rfl) (by decide) (fun K hK => ?_)
                refine goes_ Try.func112 (by kernel_rfl) rfl #[.agg (csBay a0_0 a0_1 a0_2), .agg #[.int .i8 ((rd_T36 t268 x13_1).f0), .int .i8 ((rd_T36 t268 x13_1).f1)]] (by rfl) rfl rfl (by (try simp only [List.map_toArray, List.map_cons, List.map_nil]); first | done | rfl | (simp only [List.length_drop, List.length_take]; rfl)) ?_
                with_reducible refine (impl_depth.calls a0_0 a0_1 a0_2 ((rd_T36 t268 x13_1).f0) ((rd_T36 t268 x13_1).f1) t273 _ A16.out).mono ?_
                rintro e w25 ⟨rfl, hb⟩
                refine ⟨_, rfl, ?_⟩
                have n0_ := am (Kd.R_below (kr HO_5) hb)
                have n1_ := am (Kd.R_below (kr HO_11) hb)
                have n2_ := bB BK263 hb
                have n3_ := bB BK264 hb
                have n4_ := bB BK272 hb
                have n5_ := am (below_step (be HB) hb)
                clear HO_5
                clear HO_11
                clear BK263
                clear BK264
                clear BK272
                clear HB
                have HO_5 := n0_
                have HO_11 := n1_
                have BK263 := n2_
                have BK264 := n3_
                have BK272 := n4_
                have HB := n5_
                clear n0_ n1_ n2_ n3_ n4_ n5_
                (try clear hb)
                (try clear hb2)
                (try clear hk)
                (try clear hi)
                refine hK.out _ _ ⟨(blk_cell BK263.out 0).trans rfl, (blk_cell BK263.out 1).trans rfl, at_cells BK263.out, BayAt28_of BK263.out, lvv_of BK263.out, (blk_cell BK272.out 0).trans rfl, (blk_cell BK272.out 1).trans rfl, (blk_cell BK264.out 0).trans rfl, (blk_cell BK264.out 1).trans rfl, (blk_cell BK264.out 2).trans rfl, (blk_cell BK264.out 3).trans rfl, (blk_cell BK264.out 4).trans rfl, (blk_cell BK264.out 5).trans rfl⟩ (fun hHeld => ?_)
                clear hK K
                refine norm_ (a' := ?_) ?_ ?_
                rotate_left
                · show Act.put _ (some 19) _ = _
                  simp only [Act.put, List.setIfInBounds_toArray, List.set_cons_zero, List.set_cons_succ, i64_w, i32_w]
                  rfl
                refine pure_ (i := 6) (N := some 23) (v := ?_) (a' := ?_) #[true, true, true, true, true, true, true] rfl rfl (by kernel_rfl) (fun _ _ _ h => h) (Or.inl ⟨by rfl, ?_⟩) ?_ ?_
                rotate_left
                · intro w'
                  go_simp
                  with_reducible rfl
                rotate_left
                · simp only [Act.put, List.setIfInBounds_toArray, List.set_cons_zero, List.set_cons_succ, i64_w, i32_w]
                  rfl
                refine done_ (by kernel_rfl) ?_
                obtain ⟨hcz26_0, hcz26_1, hfz26_0, hfz26_1⟩ := bx2 BK272
                try go_wp2_with (first | ((with_reducible refine gate_builtin (b := .append) (xs := #[.tmp 24, .tmp 26]) rfl ?_); at_builtin; refine Kd.R_append k36 (w0 := w) w.heap.size rfl (.tmp 24) (.tmp 26) 56 36 (.agg #[(.int .i8 0), (.int .i8 0)]) 2 rfl Try.underlying56 info36 rfl (by decide) (by omega) u5 x5_1 (⟨(rd_T36 t268 x13_1).f0, (rd_T36 t268 x13_1).f1⟩ : S36) [.int .i8 ((rd_T36 t268 x13_1).f0), .int .i8 ((rd_T36 t268 x13_1).f1)] (fun k_ => some k_ ≠ (.slice (some ad271) t268.length co12 : Value).ownBlock ∧ k_ ≠ gb272) (fun _ => False) rfl rfl ?aP (fun _ hk => hk.elim) ?aF ?aO ?aB ?aS ?aL ?_; (case aP => exact k36_mkM _ _ _ (⟨(rd_T36 t268 x13_1).f0, (rd_T36 t268 x13_1).f1⟩ : S36)); (case aB => exact (be HB)); (case aF => exact (fun k_ hk => ⟨Kd.fresh' (Kd.R_lt (kr HO_11)) k_ hk, Kd.freshB (g := gb272) (o := .cells #[.int .i8 ((rd_T36 t268 x13_1).f0), .int .i8 ((rd_T36 t268 x13_1).f1)] 36 (0, 0)) (kb BK272) k_ hk⟩)); (case aO => exact (kr HO_5)); (case aS => exact (below_size (be HB))); (case aL => have := LMc18.out; omega); intro v275 w27 ho hb hg hat; rw [← Ny274.out] at ho; have HO276 := am (ho); replace HO_11 := am (Kd.R_after (ok := (fun k_ => k_ ≠ gb272)) (by (with_reducible repeat (first | apply Kd.R_alloc | apply Kd.R_drewN | apply Kd.R_drew)); exact Kd.R_mono HO_11.out (fun _ hk => ⟨hk.2, hk.1⟩)) hg hat); replace BK263 := am (blk_grown (g := gb263) (o := .cells (csBay a0_0 a0_1 a0_2) 28 (0, 0)) (kb BK263) hg (Kd.R_ne HO_5.out BK263.out (by decide))); replace BK264 := am (blk_grown (g := gb264) (o := .cells #[.int .i8 a1_0, .int .i8 a1_1, .int .i8 a1_2, .int .i8 a1_3, .int .i8 a1_4, .int .i8 a1_5] 38 (0, 0)) (kb BK264) hg (Kd.R_ne HO_5.out BK264.out (by decide))); replace BK272 := am (blk_grown (g := gb272) (o := .cells #[.int .i8 ((rd_T36 t268 x13_1).f0), .int .i8 ((rd_T36 t268 x13_1).f1)] 36 (0, 0)) (kb BK272) hg (Kd.R_away HO_5.out (fun _ hk => hk.2))); replace HB := am (hb); clear HO_5; clear ho hb hg hat))
                go_roundg k1
                case measure => have := HK1.out; omega
                case rel => exact ⟨(y274), (wrap64 (x13_1 + 1)), vv, H', ⟨by have := HK1.out; omega⟩, ⟨by (with_reducible repeat (first | apply Kd.R_alloc | apply Kd.R_drewN | apply Kd.R_drew)); exact Kd.R_mono HO276.out (fun _ hk => hk.1)⟩, ⟨by (with_reducible repeat (first | apply Kd.R_alloc | apply Kd.R_drewN | apply Kd.R_drew)); exact Kd.R_mono HO_11.out (fun _ hk => hk.2)⟩, ⟨kb BK263⟩, ⟨kb BK264⟩, ⟨be HB⟩⟩
              · rw [if_neg c18] at H
                exact absurd H (by simp)
            · rw [if_neg c17] at H
              have c17b0 : decide (t273 < (wrap64 (a1_4))) = false := decide_eq_false c17
              clear c17
              have H' := am H
              clear H
              have p271 : 0 ≤ (x13_1 : Int) := of_decide_eq_true (by first | (with_reducible assumption) | assumption)
              have q271 : x13_1 < (t268.length : Int) := of_decide_eq_true (by first | (with_reducible assumption) | assumption)
              obtain ⟨ad271, e271, hx271_0, hx271_1⟩ := at_T36 (Kd.R_reads' HO_11.out).2.2 x13_1 p271 q271
              cases e271
              replace p271 := eq_true p271
              replace q271 := eq_true q271
              try go_wp2_with (first | ((with_reducible refine gate_dst (N := 7) rfl ?_); refine bxe (N := 7) (cs := #[.int .i8 0, .int .i8 0]) (t := 36) ?_; intro gb272 hg w28 hbox hb; have BK272 := am (hbox); have GW272 := am (gN hg (below_size (be HB))); have GE272 := am (gN hg (below_size (be HB))); have NB263_272 := nL BK263 hg; have NB272_263 := nR BK263 hg; have NB264_272 := nL BK264 hg; have NB272_264 := nR BK264 hg; replace HO_5 := am (Kd.R_below (Kd.R_elderB (kr HO_5) gb272 (Nat.le_of_eq hg.symm)) hb); replace HO_11 := am (Kd.R_below (Kd.R_elderB (kr HO_11) gb272 (Nat.le_of_eq hg.symm)) hb); replace BK263 := bB BK263 hb; replace BK264 := bB BK264 hb; replace HB := am (below_step (be HB) hb); clear hb hbox hg; have hnb29 := NB272_263.out; have hnc29 := NB263_272.out; have hnb30 := NB272_264.out; have hnc30 := NB264_272.out; obtain ⟨hcz31_0, hcz31_1, hfz31_0, hfz31_1⟩ := bx2 BK272))
              have n0_ : Aside0 (Kd.R k36 36 ((w28.setCell ⟨gb272, 0, none⟩ (.int .i8 ((rd_T36 t268 x13_1).f0))).setCell ⟨gb272, 1, none⟩ (.int .i8 ((rd_T36 t268 x13_1).f1))) w.heap.size (fun k_ => some k_ ≠ (.slice (some ad271) t268.length co12 : Value).ownBlock ∧ k_ ≠ gb272) u5 x5_1) := ⟨by (with_reducible repeat (first | apply Kd.R_alloc | apply Kd.R_drewN | apply Kd.R_drew)); exact Kd.R_mono (Kd.R_far (p := ⟨gb272, 1, none⟩) (Kd.R_far (p := ⟨gb272, 0, none⟩) (Kd.R_mono HO_5.out (fun k_ hk => (⟨hk, hk.2⟩ : _ ∧ k_ ≠ gb272))) (fun _ hk => hk.2) (.int .i8 ((rd_T36 t268 x13_1).f0))) (fun _ hk => hk.2) (.int .i8 ((rd_T36 t268 x13_1).f1))) (fun _ hk => ⟨hk.1.1, hk.1.2⟩)⟩
              have n1_ : Aside0 (Kd.R k36 36 ((w28.setCell ⟨gb272, 0, none⟩ (.int .i8 ((rd_T36 t268 x13_1).f0))).setCell ⟨gb272, 1, none⟩ (.int .i8 ((rd_T36 t268 x13_1).f1))) w.heap.size (fun k_ => some k_ ≠ (u5 : Value).ownBlock ∧ k_ ≠ gb272) (.slice (some ad271) t268.length co12) t268) := ⟨by (with_reducible repeat (first | apply Kd.R_alloc | apply Kd.R_drewN | apply Kd.R_drew)); exact Kd.R_mono (Kd.R_far (p := ⟨gb272, 1, none⟩) (Kd.R_far (p := ⟨gb272, 0, none⟩) (Kd.R_mono HO_11.out (fun k_ hk => (⟨hk, hk.2⟩ : _ ∧ k_ ≠ gb272))) (fun _ hk => hk.2) (.int .i8 ((rd_T36 t268 x13_1).f0))) (fun _ hk => hk.2) (.int .i8 ((rd_T36 t268 x13_1).f1))) (fun _ hk => ⟨hk.1.1, hk.1.2⟩)⟩
              have n2_ : Aside0 (((w28.setCell ⟨gb272, 0, none⟩ (.int .i8 ((rd_T36 t268 x13_1).f0))).setCell ⟨gb272, 1, none⟩ (.int .i8 ((rd_T36 t268 x13_1).f1))).heap[gb263]? = some (.cells (csBay a0_0 a0_1 a0_2) 28 (0, 0))) := ⟨by (with_reducible repeat (first | refine blk_drewN ?_ _ | refine blk_drew ?_ | refine blk_alloc ?_ _)); refine blk_far ?_ NB263_272.out _; (with_reducible repeat (first | refine blk_drewN ?_ _ | refine blk_drew ?_ | refine blk_alloc ?_ _)); refine blk_far ?_ NB263_272.out _; exact kb BK263⟩
              have n3_ : Aside0 (((w28.setCell ⟨gb272, 0, none⟩ (.int .i8 ((rd_T36 t268 x13_1).f0))).setCell ⟨gb272, 1, none⟩ (.int .i8 ((rd_T36 t268 x13_1).f1))).heap[gb264]? = some (.cells #[.int .i8 a1_0, .int .i8 a1_1, .int .i8 a1_2, .int .i8 a1_3, .int .i8 a1_4, .int .i8 a1_5] 38 (0, 0))) := ⟨by (with_reducible repeat (first | refine blk_drewN ?_ _ | refine blk_drew ?_ | refine blk_alloc ?_ _)); refine blk_far ?_ NB264_272.out _; (with_reducible repeat (first | refine blk_drewN ?_ _ | refine blk_drew ?_ | refine blk_alloc ?_ _)); refine blk_far ?_ NB264_272.out _; exact kb BK264⟩
              have n4_ : Aside0 (((w28.setCell ⟨gb272, 0, none⟩ (.int .i8 ((rd_T36 t268 x13_1).f0))).setCell ⟨gb272, 1, none⟩ (.int .i8 ((rd_T36 t268 x13_1).f1))).heap[gb272]? = some (.cells #[.int .i8 ((rd_T36 t268 x13_1).f0), .int .i8 ((rd_T36 t268 x13_1).f1)] 36 (0, 0))) := ⟨by (with_reducible repeat (first | refine blk_drewN ?_ _ | refine blk_drew ?_ | refine blk_alloc ?_ _)); refine blk_put (cs := #[.int .i8 ((rd_T36 t268 x13_1).f0), .int .i8 0]) ?_ 1 _ rfl; (with_reducible repeat (first | refine blk_drewN ?_ _ | refine blk_drew ?_ | refine blk_alloc ?_ _)); refine blk_put (cs := #[.int .i8 0, .int .i8 0]) ?_ 0 _ rfl; exact kb BK272⟩
              have n5_ : Aside0 (Below w.heap.size w ((w28.setCell ⟨gb272, 0, none⟩ (.int .i8 ((rd_T36 t268 x13_1).f0))).setCell ⟨gb272, 1, none⟩ (.int .i8 ((rd_T36 t268 x13_1).f1)))) := ⟨be HB⟩
              (try clear HO_5)
              (try clear HO_11)
              (try clear BK263)
              (try clear BK264)
              (try clear BK272)
              (try clear HB)
              generalize ((w28.setCell ⟨gb272, 0, none⟩ (.int .i8 ((rd_T36 t268 x13_1).f0))).setCell ⟨gb272, 1, none⟩ (.int .i8 ((rd_T36 t268 x13_1).f1))) = w32 at n0_ n1_ n2_ n3_ n4_ n5_ ⊢
              have HO_5 := n0_
              have HO_11 := n1_
              have BK263 := n2_
              have BK264 := n3_
              have BK272 := n4_
              have HB := n5_
              clear n0_ n1_ n2_ n3_ n4_ n5_
              have n0_ := am (Kd.R_drew HO_5.out)
              have n1_ := am (Kd.R_drew HO_11.out)
              have n2_ := am (blk_drew BK263.out)
              have n3_ := am (blk_drew BK264.out)
              have n4_ := am (blk_drew BK272.out)
              have n5_ := am (below_drew1 HB.out)
              clear HO_5
              clear HO_11
              clear BK263
              clear BK264
              clear BK272
              clear HB
              have HO_5 := n0_
              have HO_11 := n1_
              have BK263 := n2_
              have BK264 := n3_
              have BK272 := n4_
              have HB := n5_
              clear n0_ n1_ n2_ n3_ n4_ n5_
              refine start_ (n := 7) (S := fun w' => w'.cell? ⟨gb263, 0, none⟩ = some (.int .i8 a0_0) ∧ w'.cell? ⟨gb263, 1, none⟩ = some (.int .i8 a0_1) ∧ atCells w' gb263 a0_2 ∧ BayAt28 w' gb263 ∧ lvv w' gb263 = .agg (csBay a0_0 a0_1 a0_2) ∧ w'.cell? ⟨gb272, 0, none⟩ = some (.int .i8 ((rd_T36 t268 x13_1).f0)) ∧ w'.cell? ⟨gb272, 1, none⟩ = some (.int .i8 ((rd_T36 t268 x13_1).f1)) ∧ w'.cell? ⟨gb264, 0, none⟩ = some (.int .i8 a1_0) ∧ w'.cell? ⟨gb264, 1, none⟩ = some (.int .i8 a1_1) ∧ w'.cell? ⟨gb264, 2, none⟩ = some (.int .i8 a1_2) ∧ w'.cell? ⟨gb264, 3, none⟩ = some (.int .i8 a1_3) ∧ w'.cell? ⟨gb264, 4, none⟩ = some (.int .i8 a1_4) ∧ w'.cell? ⟨gb264, 5, none⟩ = some (.int .i8 a1_5)) (ds := []) #[false, false, false, false, false, false, false] (by kernel_rfl) rfl rfl ⟨(blk_cell BK263.out 0).trans rfl, (blk_cell BK263.out 1).trans rfl, at_cells BK263.out, BayAt28_of BK263.out, lvv_of BK263.out, (blk_cell BK272.out 0).trans rfl, (blk_cell BK272.out 1).trans rfl, (blk_cell BK264.out 0).trans rfl, (blk_cell BK264.out 1).trans rfl, (blk_cell BK264.out 2).trans rfl, (blk_cell BK264.out 3).trans rfl, (blk_cell BK264.out 4).trans rfl, (blk_cell BK264.out 5).trans rfl⟩ (fun hHeld => ?_)
              generalize w32.drew = w33 at HO_5 HO_11 BK263 BK264 BK272 HB hHeld ⊢
              refine pure_ (i := 3) (N := some 20) (v := ?_) (a' := ?_) #[false, false, false, true, false, false, false] rfl rfl (by kernel_rfl) (fun _ _ _ h => h) (Or.inl ⟨by rfl, ?_⟩) ?_ ?_
              rotate_left
              · intro w'
                go_simp
                with_reducible rfl
              rotate_left
              · simp only [Act.put, List.setIfInBounds_toArray, List.set_cons_zero, List.set_cons_succ, i64_w, i32_w]
                rfl
              refine take_ (i := 0) (N := some 17) (v := ?_) (a' := ?_) #[true, false, false, true, false, false, false] rfl rfl (by kernel_rfl) (fun _ _ _ h => h) (Or.inl ⟨by rfl, ?_⟩) hHeld ?_ ?_
              rotate_left
              · rintro w' ⟨s0, s1, s2, s3, s4, s5, s6, s7, s8, s9, s10, s11, s12⟩
                go_simp
                with_reducible rfl
              rotate_left
              · simp only [Act.put, List.setIfInBounds_toArray, List.set_cons_zero, List.set_cons_succ, i64_w, i32_w]
                rfl
              refine take_ (i := 1) (N := some 18) (v := ?_) (a' := ?_) #[true, true, false, true, false, false, false] rfl rfl (by kernel_rfl) (fun _ _ _ h => h) (Or.inl ⟨by rfl, ?_⟩) hHeld ?_ ?_
              rotate_left
              · rintro w' ⟨s0, s1, s2, s3, s4, s5, s6, s7, s8, s9, s10, s11, s12⟩
                go_simp
                with_reducible rfl
              rotate_left
              · simp only [Act.put, List.setIfInBounds_toArray, List.set_cons_zero, List.set_cons_succ, i64_w, i32_w]
                rfl
              refine take_ (i := 4) (N := some 21) (v := ?_) (a' := ?_) #[true, true, false, true, true, false, false] rfl rfl (by kernel_rfl) (fun _ _ _ h => h) (Or.inl ⟨by rfl, ?_⟩) hHeld ?_ ?_
              rotate_left
              · rintro w' ⟨s0, s1, s2, s3, s4, s5, s6, s7, s8, s9, s10, s11, s12⟩
                go_simp
                with_reducible rfl
              rotate_left
              · simp only [Act.put, List.setIfInBounds_toArray, List.set_cons_zero, List.set_cons_succ, i64_w, i32_w]
                rfl
              refine pure_ (i := 5) (N := some 22) (v := ?_) (a' := ?_) #[true, true, false, true, true, true, false] rfl rfl (by kernel_rfl) (fun _ _ _ h => h) (Or.inl ⟨by rfl, ?_⟩) ?_ ?_
              rotate_left
              · intro w'
                go_simp
                with_reducible rfl
              rotate_left
              · simp only [Act.put, List.setIfInBounds_toArray, List.set_cons_zero, List.set_cons_succ, i64_w, i32_w]
                rfl
              refine one_ (i := 2) (N := some 19) #[true, true, true, true, true, true, false] rfl rfl (by kernel_rfl) (by decide) (fun K hK => ?_)
              refine goes_ Try.func112 (by kernel_rfl) rfl #[.agg (csBay a0_0 a0_1 a0_2), .agg #[.int .i8 ((rd_T36 t268 x13_1).f0), .int .i8 ((rd_T36 t268 x13_1).f1)]] (by rfl) rfl rfl (by (try simp only [List.map_toArray, List.map_cons, List.map_nil]); first | done | rfl | (simp only [List.length_drop, List.length_take]; rfl)) ?_
              with_reducible refine (impl_depth.calls a0_0 a0_1 a0_2 ((rd_T36 t268 x13_1).f0) ((rd_T36 t268 x13_1).f1) t273 _ A16.out).mono ?_
              rintro e w34 ⟨rfl, hb⟩
              refine ⟨_, rfl, ?_⟩
              have n0_ := am (Kd.R_below (kr HO_5) hb)
              have n1_ := am (Kd.R_below (kr HO_11) hb)
              have n2_ := bB BK263 hb
              have n3_ := bB BK264 hb
              have n4_ := bB BK272 hb
              have n5_ := am (below_step (be HB) hb)
              clear HO_5
              clear HO_11
              clear BK263
              clear BK264
              clear BK272
              clear HB
              have HO_5 := n0_
              have HO_11 := n1_
              have BK263 := n2_
              have BK264 := n3_
              have BK272 := n4_
              have HB := n5_
              clear n0_ n1_ n2_ n3_ n4_ n5_
              (try clear hb)
              (try clear hb2)
              (try clear hk)
              (try clear hi)
              refine hK.out _ _ ⟨(blk_cell BK263.out 0).trans rfl, (blk_cell BK263.out 1).trans rfl, at_cells BK263.out, BayAt28_of BK263.out, lvv_of BK263.out, (blk_cell BK272.out 0).trans rfl, (blk_cell BK272.out 1).trans rfl, (blk_cell BK264.out 0).trans rfl, (blk_cell BK264.out 1).trans rfl, (blk_cell BK264.out 2).trans rfl, (blk_cell BK264.out 3).trans rfl, (blk_cell BK264.out 4).trans rfl, (blk_cell BK264.out 5).trans rfl⟩ (fun hHeld => ?_)
              clear hK K
              refine norm_ (a' := ?_) ?_ ?_
              rotate_left
              · show Act.put _ (some 19) _ = _
                simp only [Act.put, List.setIfInBounds_toArray, List.set_cons_zero, List.set_cons_succ, i64_w, i32_w]
                rfl
              refine pure_ (i := 6) (N := some 23) (v := ?_) (a' := ?_) #[true, true, true, true, true, true, true] rfl rfl (by kernel_rfl) (fun _ _ _ h => h) (Or.inl ⟨by rfl, ?_⟩) ?_ ?_
              rotate_left
              · intro w'
                go_simp
                with_reducible rfl
              rotate_left
              · simp only [Act.put, List.setIfInBounds_toArray, List.set_cons_zero, List.set_cons_succ, i64_w, i32_w]
                rfl
              refine done_ (by kernel_rfl) ?_
              try go_wp2
              go_roundg k1
              case measure => have := HK1.out; omega
              case rel => exact ⟨(x5_1), (wrap64 (x13_1 + 1)), vv, H', ⟨by have := HK1.out; omega⟩, ⟨by (with_reducible repeat (first | apply Kd.R_alloc | apply Kd.R_drewN | apply Kd.R_drew)); exact Kd.R_mono HO_5.out (fun _ hk => hk.1)⟩, ⟨by (with_reducible repeat (first | apply Kd.R_alloc | apply Kd.R_drewN | apply Kd.R_drew)); exact Kd.R_mono HO_11.out (fun _ hk => hk.1)⟩, ⟨kb BK263⟩, ⟨kb BK264⟩, ⟨be HB⟩⟩
          · rw [if_neg c15] at H
            exact absurd H (by simp)
        · rw [if_neg c14] at H
          exact absurd H (by simp)
      · rw [if_neg c13] at H
        have c13b0 : decide (x13_1 < (t268.length : Int)) = false := decide_eq_false c13
        clear c13
        obtain rfl := Option.some.inj H
        go_wp2
        go_ret
        exact ⟨_, by first | rfl | (simp [errW_none, errW_some] <;> rfl) | (simp [*, errW_none, errW_some] <;> rfl), by (with_reducible repeat (first | apply Kd.R_alloc | apply Kd.R_drewN | apply Kd.R_drew)); exact Kd.R_mono HO_5.out (fun _ hk => trivial), be HB⟩

/-! ### impl_ShoalsOf: function 53 -/
def impl_ShoalsOf.f (k : Nat) (a0_0 : Int) (a0_1 : Int) (a0_2 : (Nat → Int)) (a1_0 : Int) (a1_1 : Int) (a1_2 : Int) (a1_3 : Int) (a1_4 : Int) (a1_5 : Int) : Option ((List (S36)) × Int) := (impl_boatCode.f k a0_0 a0_1 a0_2 a1_0 a1_1 a1_2 a1_3 a1_4 a1_5).bind fun t279 => (if t279 = 0 then ((impl_shoals.f k a0_0 a0_1 a0_2 a1_0 a1_1 a1_2 a1_3 a1_4 a1_5).bind fun t280 => (some (t280, 0))) else (some (([] : List (S36)), t279)))
set_option maxHeartbeats 8000000 in
set_option maxRecDepth 100000 in
theorem impl_ShoalsOf.calls (k : Nat) (a0_0 : Int) (a0_1 : Int) (a0_2 : (Nat → Int)) (a1_0 : Int) (a1_1 : Int) (a1_2 : Int) (a1_3 : Int) (a1_4 : Int) (a1_5 : Int) (r1 : List (S36)) (r2 : Int) (w : World) (h : impl_ShoalsOf.f k a0_0 a0_1 a0_2 a1_0 a1_1 a1_2 a1_3 a1_4 a1_5 = some (r1, r2)) :
    Calls Try.prog 53 #[.agg (csBay a0_0 a0_1 a0_2), .agg #[.int .i8 a1_0, .int .i8 a1_1, .int .i8 a1_2, .int .i8 a1_3, .int .i8 a1_4, .int .i8 a1_5]] w fun e w' => ∃ v0_ : Value, e = .returned (.tuple #[v0_, .int .i64 r2]) ∧ Kd.R k36 36 w' w.heap.size (fun _ => True) v0_ r1 ∧ Below w.heap.size w w' := by
  have hu28 := Try.underlying28
  have hu38 := Try.underlying38
  have HB := am (Below.refl w.heap.size w)
  have H : ((impl_boatCode.f k a0_0 a0_1 a0_2 a1_0 a1_1 a1_2 a1_3 a1_4 a1_5).bind fun t279 => (if t279 = 0 then ((impl_shoals.f k a0_0 a0_1 a0_2 a1_0 a1_1 a1_2 a1_3 a1_4 a1_5).bind fun t280 => (some (t280, 0))) else (some (([] : List (S36)), t279)))) = some (r1, r2) := h
  clear h
  replace H := Option.bind_eq_some_iff.mp H
  obtain ⟨t279, A30, H⟩ := H
  try dsimp only at H
  have A3 := am A30
  clear A30
  by_cases c4 : t279 = 0
  · rw [if_pos c4] at H
    have c4b0 : (t279 == 0) = true := beq_iff_eq.mpr c4
    have c4b1 : (t279 != 0) = false := bne_eq_false_iff_eq.mpr c4
    clear c4
    replace H := Option.bind_eq_some_iff.mp H
    obtain ⟨t280, A50, H⟩ := H
    try dsimp only at H
    have A5 := am A50
    clear A50
    simp only [Option.some.injEq, Prod.mk.injEq] at H
    obtain ⟨rfl, rfl⟩ := H
    go_enter Try.func53, Try.ntmps53
    go_wp2_with (first | ((with_reducible refine gate_dst (N := 2) rfl ?_); refine bxe (N := 2) (cs := (csBay a0_0 a0_1 a0_2)) (t := 28) ?_; intro gb277 hg w6 hbox hb; have BK277 := am (hbox); have GW277 := am (gN hg (below_size (be HB))); have GE277 := am (gN hg (below_size (be HB))); replace HB := am (below_step (be HB) hb); clear hb hbox hg) | ((with_reducible refine gate_dst (N := 3) rfl ?_); refine bxe (N := 3) (cs := #[.int .i8 a1_0, .int .i8 a1_1, .int .i8 a1_2, .int .i8 a1_3, .int .i8 a1_4, .int .i8 a1_5]) (t := 38) ?_; intro gb278 hg w7 hbox hb; have BK278 := am (hbox); have GW278 := am (gN hg (below_size (be HB))); have GE278 := am (gN hg (below_size (be HB))); have NB277_278 := nL BK277 hg; have NB278_277 := nR BK277 hg; replace BK277 := bB BK277 hb; replace HB := am (below_step (be HB) hb); clear hb hbox hg; have hnb8 := NB277_278.out; have hnc8 := NB278_277.out; have hcz9_0 : w7.cell? ⟨gb277, 0, none⟩ = some (.int .i8 a0_0) := (blk_cell BK277.out 0).trans rfl; have hcz9_1 : w7.cell? ⟨gb277, 1, none⟩ = some (.int .i8 a0_1) := (blk_cell BK277.out 1).trans rfl; have hwz9 := lv28_at BK277.out; have haz9 := at_cells BK277.out; have hyz9 := BayAt28_of BK277.out; have hvz9 := lvv_of BK277.out; have hfz9_0 := blk_frozen BK277.out 0; have hfz9_1 := blk_frozen BK277.out 1; have hfz9_2 := blk_frozen BK277.out 2; obtain ⟨hcz10_0, hcz10_1, hcz10_2, hcz10_3, hcz10_4, hcz10_5, hfz10_0, hfz10_1, hfz10_2, hfz10_3, hfz10_4, hfz10_5⟩ := bx6 BK278) | ((with_reducible refine gate_callee (f := 114) rfl ?_); refine gL (some 9) Try.func114 #[.agg (csBay a0_0 a0_1 a0_2), .agg #[.int .i8 a1_0, .int .i8 a1_1, .int .i8 a1_2, .int .i8 a1_3, .int .i8 a1_4, .int .i8 a1_5]] ?_; (with_reducible refine (impl_boatCode.calls k a0_0 a0_1 a0_2 a1_0 a1_1 a1_2 a1_3 a1_4 a1_5 t279 _ A3.out).mono ?_); rintro e w11 ⟨rfl, hb⟩; refine ⟨_, rfl, ?_⟩; replace BK277 := bB BK277 hb; replace BK278 := bB BK278 hb; replace HB := am (below_step (be HB) hb); (try clear hb); (try clear hb2); (try clear hk); (try clear hi); have hcz12_0 : w11.cell? ⟨gb277, 0, none⟩ = some (.int .i8 a0_0) := (blk_cell BK277.out 0).trans rfl; have hcz12_1 : w11.cell? ⟨gb277, 1, none⟩ = some (.int .i8 a0_1) := (blk_cell BK277.out 1).trans rfl; have hwz12 := lv28_at BK277.out; have haz12 := at_cells BK277.out; have hyz12 := BayAt28_of BK277.out; have hvz12 := lvv_of BK277.out; have hfz12_0 := blk_frozen BK277.out 0; have hfz12_1 := blk_frozen BK277.out 1; have hfz12_2 := blk_frozen BK277.out 2; obtain ⟨hcz13_0, hcz13_1, hcz13_2, hcz13_3, hcz13_4, hcz13_5, hfz13_0, hfz13_1, hfz13_2, hfz13_3, hfz13_4, hfz13_5⟩ := bx6 BK278) | ((with_reducible refine gate_callee (f := 124) rfl ?_); refine gL (some 15) Try.func124 #[.agg (csBay a0_0 a0_1 a0_2), .agg #[.int .i8 a1_0, .int .i8 a1_1, .int .i8 a1_2, .int .i8 a1_3, .int .i8 a1_4, .int .i8 a1_5]] ?_; (with_reducible refine (impl_shoals.calls k a0_0 a0_1 a0_2 a1_0 a1_1 a1_2 a1_3 a1_4 a1_5 t280 _ A5.out).mono ?_); rintro e w14 ⟨v281, rfl, ho0, hb⟩; refine ⟨_, rfl, ?_⟩; have HO282 := am (Kd.R_lower ho0 (below_size (be HB))); replace BK277 := bB BK277 hb; replace BK278 := bB BK278 hb; replace HB := am (below_step (be HB) hb); (try clear hb); (try clear hb2); (try clear hk); (try clear hi); (try clear ho0)))
    go_ret2
    exact ⟨_, by first | rfl | (simp [errW_none, errW_some] <;> rfl) | (simp [*, errW_none, errW_some] <;> rfl), by (with_reducible repeat (first | apply Kd.R_alloc | apply Kd.R_drewN | apply Kd.R_drew)); exact HO282.out, be HB⟩
  · rw [if_neg c4] at H
    have c4b0 : (t279 == 0) = false := beq_eq_false_iff_ne.mpr c4
    have c4b1 : (t279 != 0) = true := bne_iff_ne.mpr c4
    simp only [Option.some.injEq, Prod.mk.injEq] at H
    obtain ⟨rfl, rfl⟩ := H
    go_enter Try.func53, Try.ntmps53
    go_wp2_with (first | ((with_reducible refine gate_dst (N := 2) rfl ?_); refine bxe (N := 2) (cs := (csBay a0_0 a0_1 a0_2)) (t := 28) ?_; intro gb277 hg w15 hbox hb; have BK277 := am (hbox); have GW277 := am (gN hg (below_size (be HB))); have GE277 := am (gN hg (below_size (be HB))); replace HB := am (below_step (be HB) hb); clear hb hbox hg) | ((with_reducible refine gate_dst (N := 3) rfl ?_); refine bxe (N := 3) (cs := #[.int .i8 a1_0, .int .i8 a1_1, .int .i8 a1_2, .int .i8 a1_3, .int .i8 a1_4, .int .i8 a1_5]) (t := 38) ?_; intro gb278 hg w16 hbox hb; have BK278 := am (hbox); have GW278 := am (gN hg (below_size (be HB))); have GE278 := am (gN hg (below_size (be HB))); have NB277_278 := nL BK277 hg; have NB278_277 := nR BK277 hg; replace BK277 := bB BK277 hb; replace HB := am (below_step (be HB) hb); clear hb hbox hg; have hnb17 := NB277_278.out; have hnc17 := NB278_277.out; have hcz18_0 : w16.cell? ⟨gb277, 0, none⟩ = some (.int .i8 a0_0) := (blk_cell BK277.out 0).trans rfl; have hcz18_1 : w16.cell? ⟨gb277, 1, none⟩ = some (.int .i8 a0_1) := (blk_cell BK277.out 1).trans rfl; have hwz18 := lv28_at BK277.out; have haz18 := at_cells BK277.out; have hyz18 := BayAt28_of BK277.out; have hvz18 := lvv_of BK277.out; have hfz18_0 := blk_frozen BK277.out 0; have hfz18_1 := blk_frozen BK277.out 1; have hfz18_2 := blk_frozen BK277.out 2; obtain ⟨hcz19_0, hcz19_1, hcz19_2, hcz19_3, hcz19_4, hcz19_5, hfz19_0, hfz19_1, hfz19_2, hfz19_3, hfz19_4, hfz19_5⟩ := bx6 BK278) | ((with_reducible refine gate_callee (f := 114) rfl ?_); refine gL (some 9) Try.func114 #[.agg (csBay a0_0 a0_1 a0_2), .agg #[.int .i8 a1_0, .int .i8 a1_1, .int .i8 a1_2, .int .i8 a1_3, .int .i8 a1_4, .int .i8 a1_5]] ?_; (with_reducible refine (impl_boatCode.calls k a0_0 a0_1 a0_2 a1_0 a1_1 a1_2 a1_3 a1_4 a1_5 t279 _ A3.out).mono ?_); rintro e w20 ⟨rfl, hb⟩; refine ⟨_, rfl, ?_⟩; replace BK277 := bB BK277 hb; replace BK278 := bB BK278 hb; replace HB := am (below_step (be HB) hb); (try clear hb); (try clear hb2); (try clear hk); (try clear hi)))
    go_ret2
    exact ⟨_, by first | rfl | (simp [errW_none, errW_some] <;> rfl) | (simp [*, errW_none, errW_some] <;> rfl), by first | exact Kd.R_nil _ _ _ _ _ | exact Kd.N_nil _ _ _ _ _ | exact Kd.V_nil _ _ _ _ _ | exact Kd.Q_nil _ _ _ _ _ | exact Kd.S_nil _ _ _ _ _, be HB⟩

end Go.Proofs.Ytcollbifdfhfoaa.PFnExactShoalsOf
