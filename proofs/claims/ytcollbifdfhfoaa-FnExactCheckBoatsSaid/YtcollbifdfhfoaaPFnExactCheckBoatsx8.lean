-- Written by a program out of this seat's translation (functions, and that the code comes to them).
import Derived.Test.YtcollbifdfhfoaaPFnExactCheckBoatsx0
import Derived.Test.YtcollbifdfhfoaaPFnExactCheckBoatsx6
import Derived.Test.YtcollbifdfhfoaaPFnExactCheckBoatsx7
namespace Go.Proofs.Ytcollbifdfhfoaa.PFnExactCheckBoats
open Go.RowKit Go.Proofs.YtcollbifdfhfoaaW.PrintWords Go.Proofs.YtcollbifdfhfoaaW.PrintLast Go.Proofs.YtcollbifdfhfoaaW.PrintMore
attribute [local go_sem] max2_int min2_int max_two min_two max_three min_three max_four min_four   -- for this text's walks alone
open Go.Proofs.Ytcollbifdfhfoaa.Bay Go.Proofs.Ytcollbifdfhfoaa.Short
attribute [local go_sem ↓] lv26_eq lv28_eq
attribute [local go_sem] lvv_set lvv_drewN lvv_drew lv26_run BayAt26_set BayAt26_drewN BayAt26_drew lv28_run BayAt28_set BayAt28_drewN BayAt28_drew
set_option linter.unusedVariables false
set_option linter.unusedSimpArgs false

/-! ### impl_swingPlaces: function 123 -/
def impl_swingPlaces.l0 : Nat → Int → List (S36) → List (S36) → Int → Int → Int → Int → Int → Int → Int → Int → Option ((List (S36)))
 | 0, _, _, _, _, _, _, _, _, _, _, _ => none
 | k + 1, x5, x6, x14, x15, x16, x272000, x272001, x272002, x272003, x272004, x272005 => if x16 < x15 then (if 0 ≤ x16 then (if x16 < (x14.length : Int) then ((impl_far.f ((rd_T36 x14 x16).f0) ((rd_T36 x14 x16).f1) x272000 x272001).bind fun t281 => (if t281 ≤ (wrap64 (x5 * x5)) then (if x6.length < 70368744177664 then (impl_swingPlaces.l0 k x5 (x6 ++ [(⟨(rd_T36 x14 x16).f0, (rd_T36 x14 x16).f1⟩ : S36)]) x14 x15 (wrap64 (x16 + 1)) x272000 x272001 x272002 x272003 x272004 x272005) else (none)) else (impl_swingPlaces.l0 k x5 x6 x14 x15 (wrap64 (x16 + 1)) x272000 x272001 x272002 x272003 x272004 x272005))) else (none)) else (none)) else (some x6)
def impl_swingPlaces.f (k : Nat) (a0_0 : Int) (a0_1 : Int) (a0_2 : (Nat → Int)) (a1_0 : Int) (a1_1 : Int) (a1_2 : Int) (a1_3 : Int) (a1_4 : Int) (a1_5 : Int) : Option ((List (S36))) := (impl_swingOf.f k a0_0 a0_1 a0_2 a1_0 a1_1 a1_2 a1_3 a1_4 a1_5).bind fun t272 => ((impl_allPlaces.f k a0_0 a0_1 a0_2).bind fun t276 => (impl_swingPlaces.l0 k t272 (([] : List (S36))) t276 (t276.length : Int) 0 a1_0 a1_1 a1_2 a1_3 a1_4 a1_5))
set_option maxHeartbeats 8000000 in
set_option maxRecDepth 100000 in
theorem impl_swingPlaces.calls (k : Nat) (a0_0 : Int) (a0_1 : Int) (a0_2 : (Nat → Int)) (a1_0 : Int) (a1_1 : Int) (a1_2 : Int) (a1_3 : Int) (a1_4 : Int) (a1_5 : Int) (r : List (S36)) (w : World) (h : impl_swingPlaces.f k a0_0 a0_1 a0_2 a1_0 a1_1 a1_2 a1_3 a1_4 a1_5 = some r) :
  Calls Try.prog 123 #[.agg (csBay a0_0 a0_1 a0_2), .agg #[.int .i8 a1_0, .int .i8 a1_1, .int .i8 a1_2, .int .i8 a1_3, .int .i8 a1_4, .int .i8 a1_5]] w fun e w' => ∃ v0_ : Value, e = .returned (v0_) ∧ Kd.R k36 36 w' w.heap.size (fun _ => True) v0_ r ∧ Below w.heap.size w w' := by
 have hu28 := Try.underlying28
 have hu38 := Try.underlying38
 have hu36 := Try.underlying36
 have HB := am (Below.refl w.heap.size w)
 have H : ((impl_swingOf.f k a0_0 a0_1 a0_2 a1_0 a1_1 a1_2 a1_3 a1_4 a1_5).bind fun t272 => ((impl_allPlaces.f k a0_0 a0_1 a0_2).bind fun t276 => (impl_swingPlaces.l0 k t272 (([] : List (S36))) t276 (t276.length : Int) 0 a1_0 a1_1 a1_2 a1_3 a1_4 a1_5))) = some r := h
 clear h
 replace H := Option.bind_eq_some_iff.mp H
 obtain ⟨t272, A30, H⟩ := H
 try dsimp only at H
 have A3 := am A30
 clear A30
 obtain ⟨y273, hy273⟩ : ∃ y_ : List (S36), y_ = (([] : List (S36))) := ⟨_, rfl⟩
 replace H : ((impl_allPlaces.f k a0_0 a0_1 a0_2).bind fun t276 => (impl_swingPlaces.l0 k t272 y273 t276 (t276.length : Int) 0 a1_0 a1_1 a1_2 a1_3 a1_4 a1_5)) = some r := by first | (rw [hy273]; with_reducible exact H) | (have H2_ := (Option.bind_some _ _).symm.trans H; rw [hy273]; with_reducible exact H2_) | (have H2_ := (Option.bind_some _ _).symm.trans H; with_reducible exact H2_) | with_reducible exact H | (rw [hy273]; exact H) | exact H
 have Ny273 := am hy273
 clear hy273
 replace H := Option.bind_eq_some_iff.mp H
 obtain ⟨t276, A40, H⟩ := H
 try dsimp only at H
 have A4 := am A40
 clear A40
 have H' := am H
 clear H
 go_enter Try.func123, Try.ntmps123
 go_wp2_with (first | ((with_reducible refine gate_dst (N := 2) rfl ?_); refine bxe (N := 2) (cs := (csBay a0_0 a0_1 a0_2)) (t := 28) ?_; intro gb270 hg w5 hbox hb; have BK270 := am (hbox); have GW270 := am (gN hg (below_size (be HB))); have GE270 := am (gN hg (below_size (be HB))); replace HB := am (below_step (be HB) hb); clear hb hbox hg) | ((with_reducible refine gate_dst (N := 3) rfl ?_); refine bxe (N := 3) (cs := #[.int .i8 a1_0, .int .i8 a1_1, .int .i8 a1_2, .int .i8 a1_3, .int .i8 a1_4, .int .i8 a1_5]) (t := 38) ?_; intro gb271 hg w6 hbox hb; have BK271 := am (hbox); have GW271 := am (gN hg (below_size (be HB))); have GE271 := am (gN hg (below_size (be HB))); have NB270_271 := nL BK270 hg; have NB271_270 := nR BK270 hg; replace BK270 := bB BK270 hb; replace HB := am (below_step (be HB) hb); clear hb hbox hg; have hnb7 := NB270_271.out; have hnc7 := NB271_270.out; have hcz8_0 : w6.cell? ⟨gb270, 0, none⟩ = some (.int .i8 a0_0) := (blk_cell BK270.out 0).trans rfl; have hcz8_1 : w6.cell? ⟨gb270, 1, none⟩ = some (.int .i8 a0_1) := (blk_cell BK270.out 1).trans rfl; have hwz8 := lv28_at BK270.out; have haz8 := at_cells BK270.out; have hyz8 := BayAt28_of BK270.out; have hvz8 := lvv_of BK270.out; have hfz8_0 := blk_frozen BK270.out 0; have hfz8_1 := blk_frozen BK270.out 1; have hfz8_2 := blk_frozen BK270.out 2; obtain ⟨hcz9_0, hcz9_1, hcz9_2, hcz9_3, hcz9_4, hcz9_5, hfz9_0, hfz9_1, hfz9_2, hfz9_3, hfz9_4, hfz9_5⟩ := bx6 BK271) | ((with_reducible refine gate_callee (f := 115) rfl ?_); refine gL (some 11) Try.func115 #[.agg (csBay a0_0 a0_1 a0_2), .agg #[.int .i8 a1_0, .int .i8 a1_1, .int .i8 a1_2, .int .i8 a1_3, .int .i8 a1_4, .int .i8 a1_5]] ?_; (with_reducible refine (impl_swingOf.calls k a0_0 a0_1 a0_2 a1_0 a1_1 a1_2 a1_3 a1_4 a1_5 t272 _ A3.out).mono ?_); rintro e w10 ⟨rfl, hb⟩; refine ⟨_, rfl, ?_⟩; replace BK270 := bB BK270 hb; replace BK271 := bB BK271 hb; replace HB := am (below_step (be HB) hb); (try clear hb); (try clear hb2); (try clear hk); (try clear hi)) | ((with_reducible refine gate_dst (N := 12) rfl ?_); refine Kd.R_lit k36 _ 36 ?hg (N := 12) ?hd (xs := ([] : List (S36))) (inner := []) (ok := fun _ => True) (okp := fun _ => True) ?hr ?hp (fun _ hk => hk) trivial (Below.refl _ _) (Nat.le_refl _) (by simp) ?_; (case hd => rfl); (case hg => rfl); (case hr => first | (go_simp; done) | (go_simp; rfl)); (case hp => exact (Reps.none _ _)); intro v274 w11 ho12 hb hg_ hnew_; clear hg_ hnew_; (first | rw [← Ny273.out] at ho12 | (simp only [Int.reduceToNat] at ho12; rw [← Ny273.out] at ho12)); have HO275 := am (Kd.R_lower ho12 (below_size (be HB))); replace BK270 := bB BK270 hb; replace BK271 := bB BK271 hb; replace HB := am (below_step (be HB) hb); clear hb ho12; have hcz13_0 : w11.cell? ⟨gb270, 0, none⟩ = some (.int .i8 a0_0) := (blk_cell BK270.out 0).trans rfl; have hcz13_1 : w11.cell? ⟨gb270, 1, none⟩ = some (.int .i8 a0_1) := (blk_cell BK270.out 1).trans rfl; have hwz13 := lv28_at BK270.out; have haz13 := at_cells BK270.out; have hyz13 := BayAt28_of BK270.out; have hvz13 := lvv_of BK270.out; have hfz13_0 := blk_frozen BK270.out 0; have hfz13_1 := blk_frozen BK270.out 1; have hfz13_2 := blk_frozen BK270.out 2) | ((with_reducible refine gate_callee (f := 111) rfl ?_); refine gL (some 14) Try.func111 #[.agg (csBay a0_0 a0_1 a0_2)] ?_; (with_reducible refine (impl_allPlaces.calls k a0_0 a0_1 a0_2 t276 _ A4.out).mono ?_); rintro e w14 ⟨v277, rfl, ho0, hb⟩; refine ⟨_, rfl, ?_⟩; have HO278 := am (Kd.R_lower (Kd.R_new' ho0 (Kd.R_lt (kr HO275))) (below_size (be HB))); replace HO275 := am (Kd.R_elder' (kr HO275) (Kd.R_base ho0) hb); replace BK270 := bB BK270 hb; replace BK271 := bB BK271 hb; replace HB := am (below_step (be HB) hb); (try clear hb); (try clear hb2); (try clear hk); (try clear hi); (try clear ho0); obtain ⟨Ao15, co15, eo15⟩ := Kd.R_slice HO278.out; subst eo15))
 go_loopg [6, 16] k (fun kq v6 v16 w' => ∃ (x6_1 : List (S36)) (x16_1 : Int), v16 = .int .i64 x16_1 ∧ Aside0 (impl_swingPlaces.l0 kq t272 x6_1 t276 (t276.length : Int) x16_1 a1_0 a1_1 a1_2 a1_3 a1_4 a1_5 = some r) ∧ Aside0 (kq ≤ k) ∧ Aside0 (Kd.R k36 36 w' w.heap.size (fun k_ => some k_ ≠ ((.slice Ao15 t276.length co15) : Value).ownBlock) v6 x6_1) ∧ Aside0 (Kd.R k36 36 w' w.heap.size (fun k_ => some k_ ≠ (v6 : Value).ownBlock) (.slice Ao15 t276.length co15) t276) ∧ Aside0 (w'.heap[gb270]? = some (.cells (csBay a0_0 a0_1 a0_2) 28 (0, 0))) ∧ Aside0 (w'.heap[gb271]? = some (.cells #[.int .i8 a1_0, .int .i8 a1_1, .int .i8 a1_2, .int .i8 a1_3, .int .i8 a1_4, .int .i8 a1_5] 38 (0, 0))) ∧ Aside0 (Below w.heap.size w w'))
 case atStart => exact ⟨(y273), (0), vv, H', ⟨Nat.le_refl _⟩, ⟨by (with_reducible repeat (first | apply Kd.R_alloc | apply Kd.R_drewN | apply Kd.R_drew)); exact Kd.R_mono HO275.out (fun _ hk => hk.2)⟩, ⟨by (with_reducible repeat (first | apply Kd.R_alloc | apply Kd.R_drewN | apply Kd.R_drew)); exact Kd.R_mono HO278.out (fun _ hk => hk.2)⟩, ⟨kb BK270⟩, ⟨kb BK271⟩, ⟨be HB⟩⟩
 case round =>
  clear H'
  try clear c1
  try clear p2
  try clear c7
  try clear c11
  try clear c12
  try clear hcz13_0
  try clear hcz13_1
  try clear hcz8_0
  try clear hcz8_1
  try clear hcz9_0
  try clear hcz9_1
  try clear hcz9_2
  try clear hcz9_3
  try clear hcz9_4
  try clear hcz9_5
  try clear hfz13_0
  try clear hfz13_1
  try clear hfz13_2
  try clear hfz8_0
  try clear hfz8_1
  try clear hfz8_2
  try clear hfz9_0
  try clear hfz9_1
  try clear hfz9_2
  try clear hfz9_3
  try clear hfz9_4
  try clear hfz9_5
  obtain ⟨x6_1, x16_1, rfl, HA, HK1, HO_6, HO_14, BK270, BK271, HB⟩ := hrel
  cases gk with
  | zero => exact absurd HA.out (by simp [impl_swingPlaces.l0])
  | succ k1 =>
   have H := HA.out
   clear HA
   simp only [impl_swingPlaces.l0] at H
   by_cases c16 : x16_1 < (t276.length : Int)
   ·rw [if_pos c16] at H
    have c16b0 : decide (x16_1 < (t276.length : Int)) = true := decide_eq_true c16
    clear c16
    by_cases c17 : 0 ≤ x16_1
    ·rw [if_pos c17] at H
     have c17b0 : decide (0 ≤ x16_1) = true := decide_eq_true c17
     have c17b1 : 0 ≤ x16_1 := c17
     clear c17
     by_cases c18 : x16_1 < (t276.length : Int)
     ·rw [if_pos c18] at H
      have c18b0 : decide (x16_1 < (t276.length : Int)) = true := decide_eq_true c18
      clear c18
      replace H := Option.bind_eq_some_iff.mp H
      obtain ⟨t281, A190, H⟩ := H
      try dsimp only at H
      have A19 := am A190
      clear A190
      by_cases c20 : t281 ≤ (wrap64 (t272 * t272))
      ·rw [if_pos c20] at H
       have c20b0 : decide (t281 ≤ (wrap64 (t272 * t272))) = true := decide_eq_true c20
       clear c20
       by_cases c21 : x6_1.length < 70368744177664
       ·rw [if_pos c21] at H
        have LMc21 := am c21
        clear c21
        obtain ⟨y282, hy282⟩ : ∃ y_ : List (S36), y_ = (x6_1 ++ [(⟨(rd_T36 t276 x16_1).f0, (rd_T36 t276 x16_1).f1⟩ : S36)]) := ⟨_, rfl⟩
        replace H : (impl_swingPlaces.l0 k1 t272 y282 t276 (t276.length : Int) (wrap64 (x16_1 + 1)) a1_0 a1_1 a1_2 a1_3 a1_4 a1_5) = some r := by first | (rw [hy282]; with_reducible exact H) | (have H2_ := (Option.bind_some _ _).symm.trans H; rw [hy282]; with_reducible exact H2_) | (have H2_ := (Option.bind_some _ _).symm.trans H; with_reducible exact H2_) | with_reducible exact H | (rw [hy282]; exact H) | exact H
        have Ny282 := am hy282
        clear hy282
        have H' := am H
        clear H
        have p279 : 0 ≤ (x16_1 : Int) := of_decide_eq_true (by first | (with_reducible assumption) | assumption)
        have q279 : x16_1 < (t276.length : Int) := of_decide_eq_true (by first | (with_reducible assumption) | assumption)
        obtain ⟨ad279, e279, hx279_0, hx279_1⟩ := at_T36 (Kd.R_reads' HO_14.out).2.2 x16_1 p279 q279
        cases e279
        replace p279 := eq_true p279
        replace q279 := eq_true q279
        go_wp2_with (first | ((with_reducible refine gate_dst (N := 8) rfl ?_); refine bxe (N := 8) (cs := #[.int .i8 0, .int .i8 0]) (t := 36) ?_; intro gb280 hg w22 hbox hb; have BK280 := am (hbox); have GW280 := am (gN hg (below_size (be HB))); have GE280 := am (gN hg (below_size (be HB))); have NB270_280 := nL BK270 hg; have NB280_270 := nR BK270 hg; have NB271_280 := nL BK271 hg; have NB280_271 := nR BK271 hg; replace HO_6 := am (Kd.R_below (Kd.R_elderB (kr HO_6) gb280 (Nat.le_of_eq hg.symm)) hb); replace HO_14 := am (Kd.R_below (Kd.R_elderB (kr HO_14) gb280 (Nat.le_of_eq hg.symm)) hb); replace BK270 := bB BK270 hb; replace BK271 := bB BK271 hb; replace HB := am (below_step (be HB) hb); clear hb hbox hg; have hnb23 := NB280_270.out; have hnc23 := NB270_280.out; have hnb24 := NB280_271.out; have hnc24 := NB271_280.out; obtain ⟨hcz25_0, hcz25_1, hfz25_0, hfz25_1⟩ := bx2 BK280; have hnb26 := NB271_270.out; have hnc26 := NB270_271.out; obtain ⟨hcz27_0, hcz27_1, hcz27_2, hcz27_3, hcz27_4, hcz27_5, hfz27_0, hfz27_1, hfz27_2, hfz27_3, hfz27_4, hfz27_5⟩ := bx6 BK271) | ((with_reducible refine gate_callee (f := 171) rfl ?_); refine gL (some 23) Try.func171 #[.agg #[.int .i8 ((rd_T36 t276 x16_1).f0), .int .i8 ((rd_T36 t276 x16_1).f1)], .agg #[.int .i8 a1_0, .int .i8 a1_1]] ?_; (with_reducible refine (impl_far.calls ((rd_T36 t276 x16_1).f0) ((rd_T36 t276 x16_1).f1) a1_0 a1_1 t281 _ A19.out).mono ?_); rintro e w28 ⟨rfl, hb⟩; refine ⟨_, rfl, ?_⟩; replace HO_6 := am (Kd.R_below (by (with_reducible repeat (first | apply Kd.R_alloc | apply Kd.R_drewN | apply Kd.R_drew)); exact (Kd.R_mono (Kd.R_far (p := ⟨gb280, 1, none⟩) (Kd.R_far (p := ⟨gb280, 0, none⟩) (Kd.R_mono HO_6.out (fun k_ hk => (⟨hk, hk.2⟩ : _ ∧ k_ ≠ gb280))) (fun _ hk => hk.2) (.int .i8 ((rd_T36 t276 x16_1).f0))) (fun _ hk => hk.2) (.int .i8 ((rd_T36 t276 x16_1).f1))) (fun _ h_ => h_.1))) hb); replace HO_14 := am (Kd.R_below (by (with_reducible repeat (first | apply Kd.R_alloc | apply Kd.R_drewN | apply Kd.R_drew)); exact (Kd.R_mono (Kd.R_far (p := ⟨gb280, 1, none⟩) (Kd.R_far (p := ⟨gb280, 0, none⟩) (Kd.R_mono HO_14.out (fun k_ hk => (⟨hk, hk.2⟩ : _ ∧ k_ ≠ gb280))) (fun _ hk => hk.2) (.int .i8 ((rd_T36 t276 x16_1).f0))) (fun _ hk => hk.2) (.int .i8 ((rd_T36 t276 x16_1).f1))) (fun _ h_ => h_.1))) hb); replace BK270 := am (blk_below (g := gb270) (o := .cells (csBay a0_0 a0_1 a0_2) 28 (0, 0)) (by (with_reducible repeat (first | refine blk_drewN ?_ _ | refine blk_drew ?_ | refine blk_alloc ?_ _)); refine blk_far ?_ NB270_280.out _; (with_reducible repeat (first | refine blk_drewN ?_ _ | refine blk_drew ?_ | refine blk_alloc ?_ _)); refine blk_far ?_ NB270_280.out _; exact kb BK270) hb); replace BK271 := am (blk_below (g := gb271) (o := .cells #[.int .i8 a1_0, .int .i8 a1_1, .int .i8 a1_2, .int .i8 a1_3, .int .i8 a1_4, .int .i8 a1_5] 38 (0, 0)) (by (with_reducible repeat (first | refine blk_drewN ?_ _ | refine blk_drew ?_ | refine blk_alloc ?_ _)); refine blk_far ?_ NB271_280.out _; (with_reducible repeat (first | refine blk_drewN ?_ _ | refine blk_drew ?_ | refine blk_alloc ?_ _)); refine blk_far ?_ NB271_280.out _; exact kb BK271) hb); replace BK280 := am (blk_below (g := gb280) (o := .cells #[.int .i8 ((rd_T36 t276 x16_1).f0), .int .i8 ((rd_T36 t276 x16_1).f1)] 36 (0, 0)) (by (with_reducible repeat (first | refine blk_drewN ?_ _ | refine blk_drew ?_ | refine blk_alloc ?_ _)); refine blk_put (cs := #[.int .i8 ((rd_T36 t276 x16_1).f0), .int .i8 0]) ?_ 1 _ rfl; (with_reducible repeat (first | refine blk_drewN ?_ _ | refine blk_drew ?_ | refine blk_alloc ?_ _)); refine blk_put (cs := #[.int .i8 0, .int .i8 0]) ?_ 0 _ rfl; exact kb BK280) hb); replace HB := am (below_step (be HB) hb); (try clear hb); (try clear hb2); (try clear hk); (try clear hi); obtain ⟨hcz29_0, hcz29_1, hfz29_0, hfz29_1⟩ := bx2 BK280) | ((with_reducible refine gate_builtin (b := .append) (xs := #[.tmp 28, .tmp 30]) rfl ?_); at_builtin; refine Kd.R_append k36 (w0 := w) w.heap.size rfl (.tmp 28) (.tmp 30) 56 36 (.agg #[(.int .i8 0), (.int .i8 0)]) 2 rfl Try.underlying56 info36 rfl (by decide) (by omega) u6 x6_1 (⟨(rd_T36 t276 x16_1).f0, (rd_T36 t276 x16_1).f1⟩ : S36) [.int .i8 ((rd_T36 t276 x16_1).f0), .int .i8 ((rd_T36 t276 x16_1).f1)] (fun k_ => some k_ ≠ (.slice (some ad279) t276.length co15 : Value).ownBlock ∧ k_ ≠ gb280) (fun _ => False) rfl rfl ?aP (fun _ hk => hk.elim) ?aF ?aO ?aB ?aS ?aL ?_; (case aP => exact k36_mkM _ _ _ (⟨(rd_T36 t276 x16_1).f0, (rd_T36 t276 x16_1).f1⟩ : S36)); (case aB => exact (be HB)); (case aF => exact (fun k_ hk => ⟨Kd.fresh' (Kd.R_lt (kr HO_14)) k_ hk, Kd.freshB (g := gb280) (o := .cells #[.int .i8 ((rd_T36 t276 x16_1).f0), .int .i8 ((rd_T36 t276 x16_1).f1)] 36 (0, 0)) (kb BK280) k_ hk⟩)); (case aO => exact (kr HO_6)); (case aS => exact (below_size (be HB))); (case aL => have := LMc21.out; omega); intro v283 w30 ho hb hg hat; rw [← Ny282.out] at ho; have HO284 := am (ho); replace HO_14 := am (Kd.R_after (ok := (fun k_ => k_ ≠ gb280)) (by (with_reducible repeat (first | apply Kd.R_alloc | apply Kd.R_drewN | apply Kd.R_drew)); exact Kd.R_mono HO_14.out (fun _ hk => ⟨hk.2, hk.1⟩)) hg hat); replace BK270 := am (blk_grown (g := gb270) (o := .cells (csBay a0_0 a0_1 a0_2) 28 (0, 0)) (kb BK270) hg (Kd.R_ne HO_6.out BK270.out (by decide))); replace BK271 := am (blk_grown (g := gb271) (o := .cells #[.int .i8 a1_0, .int .i8 a1_1, .int .i8 a1_2, .int .i8 a1_3, .int .i8 a1_4, .int .i8 a1_5] 38 (0, 0)) (kb BK271) hg (Kd.R_ne HO_6.out BK271.out (by decide))); replace BK280 := am (blk_grown (g := gb280) (o := .cells #[.int .i8 ((rd_T36 t276 x16_1).f0), .int .i8 ((rd_T36 t276 x16_1).f1)] 36 (0, 0)) (kb BK280) hg (Kd.R_away HO_6.out (fun _ hk => hk.2))); replace HB := am (hb); clear HO_6; clear ho hb hg hat))
        go_roundg k1
        case measure => have := HK1.out; omega
        case rel => exact ⟨(y282), (wrap64 (x16_1 + 1)), vv, H', ⟨by have := HK1.out; omega⟩, ⟨by (with_reducible repeat (first | apply Kd.R_alloc | apply Kd.R_drewN | apply Kd.R_drew)); exact Kd.R_mono HO284.out (fun _ hk => hk.1)⟩, ⟨by (with_reducible repeat (first | apply Kd.R_alloc | apply Kd.R_drewN | apply Kd.R_drew)); exact Kd.R_mono HO_14.out (fun _ hk => hk.2)⟩, ⟨kb BK270⟩, ⟨kb BK271⟩, ⟨be HB⟩⟩
       ·rw [if_neg c21] at H
        exact absurd H (by simp)
      ·rw [if_neg c20] at H
       have c20b0 : decide (t281 ≤ (wrap64 (t272 * t272))) = false := decide_eq_false c20
       clear c20
       have H' := am H
       clear H
       have p279 : 0 ≤ (x16_1 : Int) := of_decide_eq_true (by first | (with_reducible assumption) | assumption)
       have q279 : x16_1 < (t276.length : Int) := of_decide_eq_true (by first | (with_reducible assumption) | assumption)
       obtain ⟨ad279, e279, hx279_0, hx279_1⟩ := at_T36 (Kd.R_reads' HO_14.out).2.2 x16_1 p279 q279
       cases e279
       replace p279 := eq_true p279
       replace q279 := eq_true q279
       go_wp2_with (first | ((with_reducible refine gate_dst (N := 8) rfl ?_); refine bxe (N := 8) (cs := #[.int .i8 0, .int .i8 0]) (t := 36) ?_; intro gb280 hg w31 hbox hb; have BK280 := am (hbox); have GW280 := am (gN hg (below_size (be HB))); have GE280 := am (gN hg (below_size (be HB))); have NB270_280 := nL BK270 hg; have NB280_270 := nR BK270 hg; have NB271_280 := nL BK271 hg; have NB280_271 := nR BK271 hg; replace HO_6 := am (Kd.R_below (Kd.R_elderB (kr HO_6) gb280 (Nat.le_of_eq hg.symm)) hb); replace HO_14 := am (Kd.R_below (Kd.R_elderB (kr HO_14) gb280 (Nat.le_of_eq hg.symm)) hb); replace BK270 := bB BK270 hb; replace BK271 := bB BK271 hb; replace HB := am (below_step (be HB) hb); clear hb hbox hg; have hnb32 := NB280_270.out; have hnc32 := NB270_280.out; have hnb33 := NB280_271.out; have hnc33 := NB271_280.out; obtain ⟨hcz34_0, hcz34_1, hfz34_0, hfz34_1⟩ := bx2 BK280; have hnb35 := NB271_270.out; have hnc35 := NB270_271.out; obtain ⟨hcz36_0, hcz36_1, hcz36_2, hcz36_3, hcz36_4, hcz36_5, hfz36_0, hfz36_1, hfz36_2, hfz36_3, hfz36_4, hfz36_5⟩ := bx6 BK271) | ((with_reducible refine gate_callee (f := 171) rfl ?_); refine gL (some 23) Try.func171 #[.agg #[.int .i8 ((rd_T36 t276 x16_1).f0), .int .i8 ((rd_T36 t276 x16_1).f1)], .agg #[.int .i8 a1_0, .int .i8 a1_1]] ?_; (with_reducible refine (impl_far.calls ((rd_T36 t276 x16_1).f0) ((rd_T36 t276 x16_1).f1) a1_0 a1_1 t281 _ A19.out).mono ?_); rintro e w37 ⟨rfl, hb⟩; refine ⟨_, rfl, ?_⟩; replace HO_6 := am (Kd.R_below (by (with_reducible repeat (first | apply Kd.R_alloc | apply Kd.R_drewN | apply Kd.R_drew)); exact (Kd.R_mono (Kd.R_far (p := ⟨gb280, 1, none⟩) (Kd.R_far (p := ⟨gb280, 0, none⟩) (Kd.R_mono HO_6.out (fun k_ hk => (⟨hk, hk.2⟩ : _ ∧ k_ ≠ gb280))) (fun _ hk => hk.2) (.int .i8 ((rd_T36 t276 x16_1).f0))) (fun _ hk => hk.2) (.int .i8 ((rd_T36 t276 x16_1).f1))) (fun _ h_ => h_.1))) hb); replace HO_14 := am (Kd.R_below (by (with_reducible repeat (first | apply Kd.R_alloc | apply Kd.R_drewN | apply Kd.R_drew)); exact (Kd.R_mono (Kd.R_far (p := ⟨gb280, 1, none⟩) (Kd.R_far (p := ⟨gb280, 0, none⟩) (Kd.R_mono HO_14.out (fun k_ hk => (⟨hk, hk.2⟩ : _ ∧ k_ ≠ gb280))) (fun _ hk => hk.2) (.int .i8 ((rd_T36 t276 x16_1).f0))) (fun _ hk => hk.2) (.int .i8 ((rd_T36 t276 x16_1).f1))) (fun _ h_ => h_.1))) hb); replace BK270 := am (blk_below (g := gb270) (o := .cells (csBay a0_0 a0_1 a0_2) 28 (0, 0)) (by (with_reducible repeat (first | refine blk_drewN ?_ _ | refine blk_drew ?_ | refine blk_alloc ?_ _)); refine blk_far ?_ NB270_280.out _; (with_reducible repeat (first | refine blk_drewN ?_ _ | refine blk_drew ?_ | refine blk_alloc ?_ _)); refine blk_far ?_ NB270_280.out _; exact kb BK270) hb); replace BK271 := am (blk_below (g := gb271) (o := .cells #[.int .i8 a1_0, .int .i8 a1_1, .int .i8 a1_2, .int .i8 a1_3, .int .i8 a1_4, .int .i8 a1_5] 38 (0, 0)) (by (with_reducible repeat (first | refine blk_drewN ?_ _ | refine blk_drew ?_ | refine blk_alloc ?_ _)); refine blk_far ?_ NB271_280.out _; (with_reducible repeat (first | refine blk_drewN ?_ _ | refine blk_drew ?_ | refine blk_alloc ?_ _)); refine blk_far ?_ NB271_280.out _; exact kb BK271) hb); replace BK280 := am (blk_below (g := gb280) (o := .cells #[.int .i8 ((rd_T36 t276 x16_1).f0), .int .i8 ((rd_T36 t276 x16_1).f1)] 36 (0, 0)) (by (with_reducible repeat (first | refine blk_drewN ?_ _ | refine blk_drew ?_ | refine blk_alloc ?_ _)); refine blk_put (cs := #[.int .i8 ((rd_T36 t276 x16_1).f0), .int .i8 0]) ?_ 1 _ rfl; (with_reducible repeat (first | refine blk_drewN ?_ _ | refine blk_drew ?_ | refine blk_alloc ?_ _)); refine blk_put (cs := #[.int .i8 0, .int .i8 0]) ?_ 0 _ rfl; exact kb BK280) hb); replace HB := am (below_step (be HB) hb); (try clear hb); (try clear hb2); (try clear hk); (try clear hi)))
       go_roundg k1
       case measure => have := HK1.out; omega
       case rel => exact ⟨(x6_1), (wrap64 (x16_1 + 1)), vv, H', ⟨by have := HK1.out; omega⟩, ⟨by (with_reducible repeat (first | apply Kd.R_alloc | apply Kd.R_drewN | apply Kd.R_drew)); exact Kd.R_mono HO_6.out (fun _ hk => hk.1)⟩, ⟨by (with_reducible repeat (first | apply Kd.R_alloc | apply Kd.R_drewN | apply Kd.R_drew)); exact Kd.R_mono HO_14.out (fun _ hk => hk.1)⟩, ⟨kb BK270⟩, ⟨kb BK271⟩, ⟨be HB⟩⟩
     ·rw [if_neg c18] at H
      exact absurd H (by simp)
    ·rw [if_neg c17] at H
     exact absurd H (by simp)
   ·rw [if_neg c16] at H
    have c16b0 : decide (x16_1 < (t276.length : Int)) = false := decide_eq_false c16
    clear c16
    obtain rfl := Option.some.inj H
    go_wp2
    go_ret
    exact ⟨_, by first | rfl | (simp [errW_none, errW_some] <;> rfl) | (simp [*, errW_none, errW_some] <;> rfl), by (with_reducible repeat (first | apply Kd.R_alloc | apply Kd.R_drewN | apply Kd.R_drew)); exact Kd.R_mono HO_6.out (fun _ hk => trivial), be HB⟩

/-! ### impl_shoals: function 124 -/
def impl_shoals.l0 : Nat → List (S36) → List (S36) → Int → Int → Int → Int → (Nat → Int) → Int → Int → Int → Int → Int → Int → Option ((List (S36)))
 | 0, _, _, _, _, _, _, _, _, _, _, _, _, _ => none
 | k + 1, x5, x11, x12, x13, x286000, x286001, x286002, x287000, x287001, x287002, x287003, x287004, x287005 => if x13 < x12 then (if 0 ≤ x13 then (if x13 < (x11.length : Int) then ((impl_depth.f x286000 x286001 x286002 ((rd_T36 x11 x13).f0) ((rd_T36 x11 x13).f1)).bind fun t295 => (if t295 < (wrap64 (x287004)) then (if x5.length < 70368744177664 then (impl_shoals.l0 k (x5 ++ [(⟨(rd_T36 x11 x13).f0, (rd_T36 x11 x13).f1⟩ : S36)]) x11 x12 (wrap64 (x13 + 1)) x286000 x286001 x286002 x287000 x287001 x287002 x287003 x287004 x287005) else (none)) else (impl_shoals.l0 k x5 x11 x12 (wrap64 (x13 + 1)) x286000 x286001 x286002 x287000 x287001 x287002 x287003 x287004 x287005))) else (none)) else (none)) else (some x5)
def impl_shoals.f (k : Nat) (a0_0 : Int) (a0_1 : Int) (a0_2 : (Nat → Int)) (a1_0 : Int) (a1_1 : Int) (a1_2 : Int) (a1_3 : Int) (a1_4 : Int) (a1_5 : Int) : Option ((List (S36))) := (impl_swingPlaces.f k a0_0 a0_1 a0_2 a1_0 a1_1 a1_2 a1_3 a1_4 a1_5).bind fun t290 => (impl_shoals.l0 k (([] : List (S36))) t290 (t290.length : Int) 0 a0_0 a0_1 a0_2 a1_0 a1_1 a1_2 a1_3 a1_4 a1_5)
set_option maxHeartbeats 8000000 in
set_option maxRecDepth 100000 in
theorem impl_shoals.calls (k : Nat) (a0_0 : Int) (a0_1 : Int) (a0_2 : (Nat → Int)) (a1_0 : Int) (a1_1 : Int) (a1_2 : Int) (a1_3 : Int) (a1_4 : Int) (a1_5 : Int) (r : List (S36)) (w : World) (h : impl_shoals.f k a0_0 a0_1 a0_2 a1_0 a1_1 a1_2 a1_3 a1_4 a1_5 = some r) :
  Calls Try.prog 124 #[.agg (csBay a0_0 a0_1 a0_2), .agg #[.int .i8 a1_0, .int .i8 a1_1, .int .i8 a1_2, .int .i8 a1_3, .int .i8 a1_4, .int .i8 a1_5]] w fun e w' => ∃ v0_ : Value, e = .returned (v0_) ∧ Kd.R k36 36 w' w.heap.size (fun _ => True) v0_ r ∧ Below w.heap.size w w' := by
 have hu28 := Try.underlying28
 have hu38 := Try.underlying38
 have hu36 := Try.underlying36
 have HB := am (Below.refl w.heap.size w)
 have H : ((impl_swingPlaces.f k a0_0 a0_1 a0_2 a1_0 a1_1 a1_2 a1_3 a1_4 a1_5).bind fun t290 => (impl_shoals.l0 k (([] : List (S36))) t290 (t290.length : Int) 0 a0_0 a0_1 a0_2 a1_0 a1_1 a1_2 a1_3 a1_4 a1_5)) = some r := h
 clear h
 obtain ⟨y287, hy287⟩ : ∃ y_ : List (S36), y_ = (([] : List (S36))) := ⟨_, rfl⟩
 replace H : ((impl_swingPlaces.f k a0_0 a0_1 a0_2 a1_0 a1_1 a1_2 a1_3 a1_4 a1_5).bind fun t290 => (impl_shoals.l0 k y287 t290 (t290.length : Int) 0 a0_0 a0_1 a0_2 a1_0 a1_1 a1_2 a1_3 a1_4 a1_5)) = some r := by first | (rw [hy287]; with_reducible exact H) | (have H2_ := (Option.bind_some _ _).symm.trans H; rw [hy287]; with_reducible exact H2_) | (have H2_ := (Option.bind_some _ _).symm.trans H; with_reducible exact H2_) | with_reducible exact H | (rw [hy287]; exact H) | exact H
 have Ny287 := am hy287
 clear hy287
 replace H := Option.bind_eq_some_iff.mp H
 obtain ⟨t290, A30, H⟩ := H
 try dsimp only at H
 have A3 := am A30
 clear A30
 have H' := am H
 clear H
 go_enter Try.func124, Try.ntmps124
 go_wp2_with (first | ((with_reducible refine gate_dst (N := 2) rfl ?_); refine bxe (N := 2) (cs := (csBay a0_0 a0_1 a0_2)) (t := 28) ?_; intro gb285 hg w4 hbox hb; have BK285 := am (hbox); have GW285 := am (gN hg (below_size (be HB))); have GE285 := am (gN hg (below_size (be HB))); replace HB := am (below_step (be HB) hb); clear hb hbox hg) | ((with_reducible refine gate_dst (N := 3) rfl ?_); refine bxe (N := 3) (cs := #[.int .i8 a1_0, .int .i8 a1_1, .int .i8 a1_2, .int .i8 a1_3, .int .i8 a1_4, .int .i8 a1_5]) (t := 38) ?_; intro gb286 hg w5 hbox hb; have BK286 := am (hbox); have GW286 := am (gN hg (below_size (be HB))); have GE286 := am (gN hg (below_size (be HB))); have NB285_286 := nL BK285 hg; have NB286_285 := nR BK285 hg; replace BK285 := bB BK285 hb; replace HB := am (below_step (be HB) hb); clear hb hbox hg) | ((with_reducible refine gate_dst (N := 8) rfl ?_); refine Kd.R_lit k36 _ 36 ?hg (N := 8) ?hd (xs := ([] : List (S36))) (inner := []) (ok := fun _ => True) (okp := fun _ => True) ?hr ?hp (fun _ hk => hk) trivial (Below.refl _ _) (Nat.le_refl _) (by simp) ?_; (case hd => rfl); (case hg => rfl); (case hr => first | (go_simp; done) | (go_simp; rfl)); (case hp => exact (Reps.none _ _)); intro v288 w6 ho7 hb hg_ hnew_; clear hg_ hnew_; (first | rw [← Ny287.out] at ho7 | (simp only [Int.reduceToNat] at ho7; rw [← Ny287.out] at ho7)); have HO289 := am (Kd.R_lower ho7 (below_size (be HB))); replace BK285 := bB BK285 hb; replace BK286 := bB BK286 hb; replace HB := am (below_step (be HB) hb); clear hb ho7; have hnb8 := NB285_286.out; have hnc8 := NB286_285.out; have hcz9_0 : w6.cell? ⟨gb285, 0, none⟩ = some (.int .i8 a0_0) := (blk_cell BK285.out 0).trans rfl; have hcz9_1 : w6.cell? ⟨gb285, 1, none⟩ = some (.int .i8 a0_1) := (blk_cell BK285.out 1).trans rfl; have hwz9 := lv28_at BK285.out; have haz9 := at_cells BK285.out; have hyz9 := BayAt28_of BK285.out; have hvz9 := lvv_of BK285.out; have hfz9_0 := blk_frozen BK285.out 0; have hfz9_1 := blk_frozen BK285.out 1; have hfz9_2 := blk_frozen BK285.out 2; obtain ⟨hcz10_0, hcz10_1, hcz10_2, hcz10_3, hcz10_4, hcz10_5, hfz10_0, hfz10_1, hfz10_2, hfz10_3, hfz10_4, hfz10_5⟩ := bx6 BK286) | ((with_reducible refine gate_callee (f := 123) rfl ?_); refine gL (some 11) Try.func123 #[.agg (csBay a0_0 a0_1 a0_2), .agg #[.int .i8 a1_0, .int .i8 a1_1, .int .i8 a1_2, .int .i8 a1_3, .int .i8 a1_4, .int .i8 a1_5]] ?_; (with_reducible refine (impl_swingPlaces.calls k a0_0 a0_1 a0_2 a1_0 a1_1 a1_2 a1_3 a1_4 a1_5 t290 _ A3.out).mono ?_); rintro e w11 ⟨v291, rfl, ho0, hb⟩; refine ⟨_, rfl, ?_⟩; have HO292 := am (Kd.R_lower (Kd.R_new' ho0 (Kd.R_lt (kr HO289))) (below_size (be HB))); replace HO289 := am (Kd.R_elder' (kr HO289) (Kd.R_base ho0) hb); replace BK285 := bB BK285 hb; replace BK286 := bB BK286 hb; replace HB := am (below_step (be HB) hb); (try clear hb); (try clear hb2); (try clear hk); (try clear hi); (try clear ho0); obtain ⟨Ao12, co12, eo12⟩ := Kd.R_slice HO292.out; subst eo12))
 go_loopg [5, 13] k (fun kq v5 v13 w' => ∃ (x5_1 : List (S36)) (x13_1 : Int), v13 = .int .i64 x13_1 ∧ Aside0 (impl_shoals.l0 kq x5_1 t290 (t290.length : Int) x13_1 a0_0 a0_1 a0_2 a1_0 a1_1 a1_2 a1_3 a1_4 a1_5 = some r) ∧ Aside0 (kq ≤ k) ∧ Aside0 (Kd.R k36 36 w' w.heap.size (fun k_ => some k_ ≠ ((.slice Ao12 t290.length co12) : Value).ownBlock) v5 x5_1) ∧ Aside0 (Kd.R k36 36 w' w.heap.size (fun k_ => some k_ ≠ (v5 : Value).ownBlock) (.slice Ao12 t290.length co12) t290) ∧ Aside0 (w'.heap[gb285]? = some (.cells (csBay a0_0 a0_1 a0_2) 28 (0, 0))) ∧ Aside0 (w'.heap[gb286]? = some (.cells #[.int .i8 a1_0, .int .i8 a1_1, .int .i8 a1_2, .int .i8 a1_3, .int .i8 a1_4, .int .i8 a1_5] 38 (0, 0))) ∧ Aside0 (Below w.heap.size w w'))
 case atStart => exact ⟨(y287), (0), vv, H', ⟨Nat.le_refl _⟩, ⟨by (with_reducible repeat (first | apply Kd.R_alloc | apply Kd.R_drewN | apply Kd.R_drew)); exact Kd.R_mono HO289.out (fun _ hk => hk.2)⟩, ⟨by (with_reducible repeat (first | apply Kd.R_alloc | apply Kd.R_drewN | apply Kd.R_drew)); exact Kd.R_mono HO292.out (fun _ hk => hk.2)⟩, ⟨kb BK285⟩, ⟨kb BK286⟩, ⟨be HB⟩⟩
 case round =>
  clear H'
  try clear c1
  try clear p2
  try clear c8
  try clear c12
  try clear hcz10_0
  try clear hcz10_1
  try clear hcz10_2
  try clear hcz10_3
  try clear hcz10_4
  try clear hcz10_5
  try clear hcz9_0
  try clear hcz9_1
  try clear hfz10_0
  try clear hfz10_1
  try clear hfz10_2
  try clear hfz10_3
  try clear hfz10_4
  try clear hfz10_5
  try clear hfz9_0
  try clear hfz9_1
  try clear hfz9_2
  obtain ⟨x5_1, x13_1, rfl, HA, HK1, HO_5, HO_11, BK285, BK286, HB⟩ := hrel
  cases gk with
  | zero => exact absurd HA.out (by simp [impl_shoals.l0])
  | succ k1 =>
   have H := HA.out
   clear HA
   simp only [impl_shoals.l0] at H
   by_cases c13 : x13_1 < (t290.length : Int)
   ·rw [if_pos c13] at H
    have c13b0 : decide (x13_1 < (t290.length : Int)) = true := decide_eq_true c13
    clear c13
    by_cases c14 : 0 ≤ x13_1
    ·rw [if_pos c14] at H
     have c14b0 : decide (0 ≤ x13_1) = true := decide_eq_true c14
     have c14b1 : 0 ≤ x13_1 := c14
     clear c14
     by_cases c15 : x13_1 < (t290.length : Int)
     ·rw [if_pos c15] at H
      have c15b0 : decide (x13_1 < (t290.length : Int)) = true := decide_eq_true c15
      clear c15
      replace H := Option.bind_eq_some_iff.mp H
      obtain ⟨t295, A160, H⟩ := H
      try dsimp only at H
      have A16 := am A160
      clear A160
      by_cases c17 : t295 < (wrap64 (a1_4))
      ·rw [if_pos c17] at H
       have c17b0 : decide (t295 < (wrap64 (a1_4))) = true := decide_eq_true c17
       clear c17
       by_cases c18 : x5_1.length < 70368744177664
       ·rw [if_pos c18] at H
        have LMc18 := am c18
        clear c18
        obtain ⟨y296, hy296⟩ : ∃ y_ : List (S36), y_ = (x5_1 ++ [(⟨(rd_T36 t290 x13_1).f0, (rd_T36 t290 x13_1).f1⟩ : S36)]) := ⟨_, rfl⟩
        replace H : (impl_shoals.l0 k1 y296 t290 (t290.length : Int) (wrap64 (x13_1 + 1)) a0_0 a0_1 a0_2 a1_0 a1_1 a1_2 a1_3 a1_4 a1_5) = some r := by first | (rw [hy296]; with_reducible exact H) | (have H2_ := (Option.bind_some _ _).symm.trans H; rw [hy296]; with_reducible exact H2_) | (have H2_ := (Option.bind_some _ _).symm.trans H; with_reducible exact H2_) | with_reducible exact H | (rw [hy296]; exact H) | exact H
        have Ny296 := am hy296
        clear hy296
        have H' := am H
        clear H
        have p293 : 0 ≤ (x13_1 : Int) := of_decide_eq_true (by first | (with_reducible assumption) | assumption)
        have q293 : x13_1 < (t290.length : Int) := of_decide_eq_true (by first | (with_reducible assumption) | assumption)
        obtain ⟨ad293, e293, hx293_0, hx293_1⟩ := at_T36 (Kd.R_reads' HO_11.out).2.2 x13_1 p293 q293
        cases e293
        replace p293 := eq_true p293
        replace q293 := eq_true q293
        try go_wp2_with (first | ((with_reducible refine gate_dst (N := 7) rfl ?_); refine bxe (N := 7) (cs := #[.int .i8 0, .int .i8 0]) (t := 36) ?_; intro gb294 hg w19 hbox hb; have BK294 := am (hbox); have GW294 := am (gN hg (below_size (be HB))); have GE294 := am (gN hg (below_size (be HB))); have NB285_294 := nL BK285 hg; have NB294_285 := nR BK285 hg; have NB286_294 := nL BK286 hg; have NB294_286 := nR BK286 hg; replace HO_5 := am (Kd.R_below (Kd.R_elderB (kr HO_5) gb294 (Nat.le_of_eq hg.symm)) hb); replace HO_11 := am (Kd.R_below (Kd.R_elderB (kr HO_11) gb294 (Nat.le_of_eq hg.symm)) hb); replace BK285 := bB BK285 hb; replace BK286 := bB BK286 hb; replace HB := am (below_step (be HB) hb); clear hb hbox hg; have hnb20 := NB294_285.out; have hnc20 := NB285_294.out; have hnb21 := NB294_286.out; have hnc21 := NB286_294.out; obtain ⟨hcz22_0, hcz22_1, hfz22_0, hfz22_1⟩ := bx2 BK294))
        have n0_ : Aside0 (Kd.R k36 36 ((w19.setCell ⟨gb294, 0, none⟩ (.int .i8 ((rd_T36 t290 x13_1).f0))).setCell ⟨gb294, 1, none⟩ (.int .i8 ((rd_T36 t290 x13_1).f1))) w.heap.size (fun k_ => some k_ ≠ (.slice (some ad293) t290.length co12 : Value).ownBlock ∧ k_ ≠ gb294) u5 x5_1) := ⟨by (with_reducible repeat (first | apply Kd.R_alloc | apply Kd.R_drewN | apply Kd.R_drew)); exact Kd.R_mono (Kd.R_far (p := ⟨gb294, 1, none⟩) (Kd.R_far (p := ⟨gb294, 0, none⟩) (Kd.R_mono HO_5.out (fun k_ hk => (⟨hk, hk.2⟩ : _ ∧ k_ ≠ gb294))) (fun _ hk => hk.2) (.int .i8 ((rd_T36 t290 x13_1).f0))) (fun _ hk => hk.2) (.int .i8 ((rd_T36 t290 x13_1).f1))) (fun _ hk => ⟨hk.1.1, hk.1.2⟩)⟩
        have n1_ : Aside0 (Kd.R k36 36 ((w19.setCell ⟨gb294, 0, none⟩ (.int .i8 ((rd_T36 t290 x13_1).f0))).setCell ⟨gb294, 1, none⟩ (.int .i8 ((rd_T36 t290 x13_1).f1))) w.heap.size (fun k_ => some k_ ≠ (u5 : Value).ownBlock ∧ k_ ≠ gb294) (.slice (some ad293) t290.length co12) t290) := ⟨by (with_reducible repeat (first | apply Kd.R_alloc | apply Kd.R_drewN | apply Kd.R_drew)); exact Kd.R_mono (Kd.R_far (p := ⟨gb294, 1, none⟩) (Kd.R_far (p := ⟨gb294, 0, none⟩) (Kd.R_mono HO_11.out (fun k_ hk => (⟨hk, hk.2⟩ : _ ∧ k_ ≠ gb294))) (fun _ hk => hk.2) (.int .i8 ((rd_T36 t290 x13_1).f0))) (fun _ hk => hk.2) (.int .i8 ((rd_T36 t290 x13_1).f1))) (fun _ hk => ⟨hk.1.1, hk.1.2⟩)⟩
        have n2_ : Aside0 (((w19.setCell ⟨gb294, 0, none⟩ (.int .i8 ((rd_T36 t290 x13_1).f0))).setCell ⟨gb294, 1, none⟩ (.int .i8 ((rd_T36 t290 x13_1).f1))).heap[gb285]? = some (.cells (csBay a0_0 a0_1 a0_2) 28 (0, 0))) := ⟨by (with_reducible repeat (first | refine blk_drewN ?_ _ | refine blk_drew ?_ | refine blk_alloc ?_ _)); refine blk_far ?_ NB285_294.out _; (with_reducible repeat (first | refine blk_drewN ?_ _ | refine blk_drew ?_ | refine blk_alloc ?_ _)); refine blk_far ?_ NB285_294.out _; exact kb BK285⟩
        have n3_ : Aside0 (((w19.setCell ⟨gb294, 0, none⟩ (.int .i8 ((rd_T36 t290 x13_1).f0))).setCell ⟨gb294, 1, none⟩ (.int .i8 ((rd_T36 t290 x13_1).f1))).heap[gb286]? = some (.cells #[.int .i8 a1_0, .int .i8 a1_1, .int .i8 a1_2, .int .i8 a1_3, .int .i8 a1_4, .int .i8 a1_5] 38 (0, 0))) := ⟨by (with_reducible repeat (first | refine blk_drewN ?_ _ | refine blk_drew ?_ | refine blk_alloc ?_ _)); refine blk_far ?_ NB286_294.out _; (with_reducible repeat (first | refine blk_drewN ?_ _ | refine blk_drew ?_ | refine blk_alloc ?_ _)); refine blk_far ?_ NB286_294.out _; exact kb BK286⟩
        have n4_ : Aside0 (((w19.setCell ⟨gb294, 0, none⟩ (.int .i8 ((rd_T36 t290 x13_1).f0))).setCell ⟨gb294, 1, none⟩ (.int .i8 ((rd_T36 t290 x13_1).f1))).heap[gb294]? = some (.cells #[.int .i8 ((rd_T36 t290 x13_1).f0), .int .i8 ((rd_T36 t290 x13_1).f1)] 36 (0, 0))) := ⟨by (with_reducible repeat (first | refine blk_drewN ?_ _ | refine blk_drew ?_ | refine blk_alloc ?_ _)); refine blk_put (cs := #[.int .i8 ((rd_T36 t290 x13_1).f0), .int .i8 0]) ?_ 1 _ rfl; (with_reducible repeat (first | refine blk_drewN ?_ _ | refine blk_drew ?_ | refine blk_alloc ?_ _)); refine blk_put (cs := #[.int .i8 0, .int .i8 0]) ?_ 0 _ rfl; exact kb BK294⟩
        have n5_ : Aside0 (Below w.heap.size w ((w19.setCell ⟨gb294, 0, none⟩ (.int .i8 ((rd_T36 t290 x13_1).f0))).setCell ⟨gb294, 1, none⟩ (.int .i8 ((rd_T36 t290 x13_1).f1)))) := ⟨be HB⟩
        (try clear HO_5)
        (try clear HO_11)
        (try clear BK285)
        (try clear BK286)
        (try clear BK294)
        (try clear HB)
        generalize ((w19.setCell ⟨gb294, 0, none⟩ (.int .i8 ((rd_T36 t290 x13_1).f0))).setCell ⟨gb294, 1, none⟩ (.int .i8 ((rd_T36 t290 x13_1).f1))) = w23 at n0_ n1_ n2_ n3_ n4_ n5_ ⊢
        have HO_5 := n0_
        have HO_11 := n1_
        have BK285 := n2_
        have BK286 := n3_
        have BK294 := n4_
        have HB := n5_
        clear n0_ n1_ n2_ n3_ n4_ n5_
        have n0_ := am (Kd.R_drew HO_5.out)
        have n1_ := am (Kd.R_drew HO_11.out)
        have n2_ := am (blk_drew BK285.out)
        have n3_ := am (blk_drew BK286.out)
        have n4_ := am (blk_drew BK294.out)
        have n5_ := am (below_drew1 HB.out)
        clear HO_5
        clear HO_11
        clear BK285
        clear BK286
        clear BK294
        clear HB
        have HO_5 := n0_
        have HO_11 := n1_
        have BK285 := n2_
        have BK286 := n3_
        have BK294 := n4_
        have HB := n5_
        clear n0_ n1_ n2_ n3_ n4_ n5_
        refine start_ (n := 7) (S := fun w' => w'.cell? ⟨gb285, 0, none⟩ = some (.int .i8 a0_0) ∧ w'.cell? ⟨gb285, 1, none⟩ = some (.int .i8 a0_1) ∧ atCells w' gb285 a0_2 ∧ BayAt28 w' gb285 ∧ lvv w' gb285 = .agg (csBay a0_0 a0_1 a0_2) ∧ w'.cell? ⟨gb294, 0, none⟩ = some (.int .i8 ((rd_T36 t290 x13_1).f0)) ∧ w'.cell? ⟨gb294, 1, none⟩ = some (.int .i8 ((rd_T36 t290 x13_1).f1)) ∧ w'.cell? ⟨gb286, 0, none⟩ = some (.int .i8 a1_0) ∧ w'.cell? ⟨gb286, 1, none⟩ = some (.int .i8 a1_1) ∧ w'.cell? ⟨gb286, 2, none⟩ = some (.int .i8 a1_2) ∧ w'.cell? ⟨gb286, 3, none⟩ = some (.int .i8 a1_3) ∧ w'.cell? ⟨gb286, 4, none⟩ = some (.int .i8 a1_4) ∧ w'.cell? ⟨gb286, 5, none⟩ = some (.int .i8 a1_5)) (ds := []) #[false, false, false, false, false, false, false] (by kernel_rfl) rfl rfl ⟨(blk_cell BK285.out 0).trans rfl, (blk_cell BK285.out 1).trans rfl, at_cells BK285.out, BayAt28_of BK285.out, lvv_of BK285.out, (blk_cell BK294.out 0).trans rfl, (blk_cell BK294.out 1).trans rfl, (blk_cell BK286.out 0).trans rfl, (blk_cell BK286.out 1).trans rfl, (blk_cell BK286.out 2).trans rfl, (blk_cell BK286.out 3).trans rfl, (blk_cell BK286.out 4).trans rfl, (blk_cell BK286.out 5).trans rfl⟩ (fun hHeld => ?_)
        generalize w23.drew = w24 at HO_5 HO_11 BK285 BK286 BK294 HB hHeld ⊢
        refine pure_ (i := 3) (N := some 20) (v := ?_) (a' := ?_) #[false, false, false, true, false, false, false] rfl rfl (by kernel_rfl) (fun _ _ _ h => h) (Or.inl ⟨by rfl, ?_⟩) ?_ ?_
        rotate_left
        ·intro w'
         go_simp
         with_reducible rfl
        rotate_left
        ·simp only [Act.put, List.setIfInBounds_toArray, List.set_cons_zero, List.set_cons_succ, i64_w, i32_w]
         rfl
        refine take_ (i := 0) (N := some 17) (v := ?_) (a' := ?_) #[true, false, false, true, false, false, false] rfl rfl (by kernel_rfl) (fun _ _ _ h => h) (Or.inl ⟨by rfl, ?_⟩) hHeld ?_ ?_
        rotate_left
        ·rintro w' ⟨s0, s1, s2, s3, s4, s5, s6, s7, s8, s9, s10, s11, s12⟩
         go_simp
         with_reducible rfl
        rotate_left
        ·simp only [Act.put, List.setIfInBounds_toArray, List.set_cons_zero, List.set_cons_succ, i64_w, i32_w]
         rfl
        refine take_ (i := 1) (N := some 18) (v := ?_) (a' := ?_) #[true, true, false, true, false, false, false] rfl rfl (by kernel_rfl) (fun _ _ _ h => h) (Or.inl ⟨by rfl, ?_⟩) hHeld ?_ ?_
        rotate_left
        ·rintro w' ⟨s0, s1, s2, s3, s4, s5, s6, s7, s8, s9, s10, s11, s12⟩
         go_simp
         with_reducible rfl
        rotate_left
        ·simp only [Act.put, List.setIfInBounds_toArray, List.set_cons_zero, List.set_cons_succ, i64_w, i32_w]
         rfl
        refine take_ (i := 4) (N := some 21) (v := ?_) (a' := ?_) #[true, true, false, true, true, false, false] rfl rfl (by kernel_rfl) (fun _ _ _ h => h) (Or.inl ⟨by rfl, ?_⟩) hHeld ?_ ?_
        rotate_left
        ·rintro w' ⟨s0, s1, s2, s3, s4, s5, s6, s7, s8, s9, s10, s11, s12⟩
         go_simp
         with_reducible rfl
        rotate_left
        ·simp only [Act.put, List.setIfInBounds_toArray, List.set_cons_zero, List.set_cons_succ, i64_w, i32_w]
         rfl
        refine pure_ (i := 5) (N := some 22) (v := ?_) (a' := ?_) #[true, true, false, true, true, true, false] rfl rfl (by kernel_rfl) (fun _ _ _ h => h) (Or.inl ⟨by rfl, ?_⟩) ?_ ?_
        rotate_left
        ·intro w'
         go_simp
         with_reducible rfl
        rotate_left
        ·simp only [Act.put, List.setIfInBounds_toArray, List.set_cons_zero, List.set_cons_succ, i64_w, i32_w]
         rfl
        refine one_ (i := 2) (N := some 19) #[true, true, true, true, true, true, false] rfl rfl (by kernel_rfl) (by decide) (fun K hK => ?_)
        refine goes_ Try.func112 (by kernel_rfl) rfl #[.agg (csBay a0_0 a0_1 a0_2), .agg #[.int .i8 ((rd_T36 t290 x13_1).f0), .int .i8 ((rd_T36 t290 x13_1).f1)]] (by rfl) rfl rfl (by (try simp only [List.map_toArray, List.map_cons, List.map_nil]); first | done | rfl | (simp only [List.length_drop, List.length_take]; rfl)) ?_
        with_reducible refine (impl_depth.calls a0_0 a0_1 a0_2 ((rd_T36 t290 x13_1).f0) ((rd_T36 t290 x13_1).f1) t295 _ A16.out).mono ?_
        rintro e w25 ⟨rfl, hb⟩
        refine ⟨_, rfl, ?_⟩
        have n0_ := am (Kd.R_below (kr HO_5) hb)
        have n1_ := am (Kd.R_below (kr HO_11) hb)
        have n2_ := bB BK285 hb
        have n3_ := bB BK286 hb
        have n4_ := bB BK294 hb
        have n5_ := am (below_step (be HB) hb)
        clear HO_5
        clear HO_11
        clear BK285
        clear BK286
        clear BK294
        clear HB
        have HO_5 := n0_
        have HO_11 := n1_
        have BK285 := n2_
        have BK286 := n3_
        have BK294 := n4_
        have HB := n5_
        clear n0_ n1_ n2_ n3_ n4_ n5_
        (try clear hb)
        (try clear hb2)
        (try clear hk)
        (try clear hi)
        refine hK.out _ _ ⟨(blk_cell BK285.out 0).trans rfl, (blk_cell BK285.out 1).trans rfl, at_cells BK285.out, BayAt28_of BK285.out, lvv_of BK285.out, (blk_cell BK294.out 0).trans rfl, (blk_cell BK294.out 1).trans rfl, (blk_cell BK286.out 0).trans rfl, (blk_cell BK286.out 1).trans rfl, (blk_cell BK286.out 2).trans rfl, (blk_cell BK286.out 3).trans rfl, (blk_cell BK286.out 4).trans rfl, (blk_cell BK286.out 5).trans rfl⟩ (fun hHeld => ?_)
        clear hK K
        refine norm_ (a' := ?_) ?_ ?_
        rotate_left
        ·show Act.put _ (some 19) _ = _
         simp only [Act.put, List.setIfInBounds_toArray, List.set_cons_zero, List.set_cons_succ, i64_w, i32_w]
         rfl
        refine pure_ (i := 6) (N := some 23) (v := ?_) (a' := ?_) #[true, true, true, true, true, true, true] rfl rfl (by kernel_rfl) (fun _ _ _ h => h) (Or.inl ⟨by rfl, ?_⟩) ?_ ?_
        rotate_left
        ·intro w'
         go_simp
         with_reducible rfl
        rotate_left
        ·simp only [Act.put, List.setIfInBounds_toArray, List.set_cons_zero, List.set_cons_succ, i64_w, i32_w]
         rfl
        refine done_ (by kernel_rfl) ?_
        obtain ⟨hcz26_0, hcz26_1, hfz26_0, hfz26_1⟩ := bx2 BK294
        try go_wp2_with (first | ((with_reducible refine gate_builtin (b := .append) (xs := #[.tmp 24, .tmp 26]) rfl ?_); at_builtin; refine Kd.R_append k36 (w0 := w) w.heap.size rfl (.tmp 24) (.tmp 26) 56 36 (.agg #[(.int .i8 0), (.int .i8 0)]) 2 rfl Try.underlying56 info36 rfl (by decide) (by omega) u5 x5_1 (⟨(rd_T36 t290 x13_1).f0, (rd_T36 t290 x13_1).f1⟩ : S36) [.int .i8 ((rd_T36 t290 x13_1).f0), .int .i8 ((rd_T36 t290 x13_1).f1)] (fun k_ => some k_ ≠ (.slice (some ad293) t290.length co12 : Value).ownBlock ∧ k_ ≠ gb294) (fun _ => False) rfl rfl ?aP (fun _ hk => hk.elim) ?aF ?aO ?aB ?aS ?aL ?_; (case aP => exact k36_mkM _ _ _ (⟨(rd_T36 t290 x13_1).f0, (rd_T36 t290 x13_1).f1⟩ : S36)); (case aB => exact (be HB)); (case aF => exact (fun k_ hk => ⟨Kd.fresh' (Kd.R_lt (kr HO_11)) k_ hk, Kd.freshB (g := gb294) (o := .cells #[.int .i8 ((rd_T36 t290 x13_1).f0), .int .i8 ((rd_T36 t290 x13_1).f1)] 36 (0, 0)) (kb BK294) k_ hk⟩)); (case aO => exact (kr HO_5)); (case aS => exact (below_size (be HB))); (case aL => have := LMc18.out; omega); intro v297 w27 ho hb hg hat; rw [← Ny296.out] at ho; have HO298 := am (ho); replace HO_11 := am (Kd.R_after (ok := (fun k_ => k_ ≠ gb294)) (by (with_reducible repeat (first | apply Kd.R_alloc | apply Kd.R_drewN | apply Kd.R_drew)); exact Kd.R_mono HO_11.out (fun _ hk => ⟨hk.2, hk.1⟩)) hg hat); replace BK285 := am (blk_grown (g := gb285) (o := .cells (csBay a0_0 a0_1 a0_2) 28 (0, 0)) (kb BK285) hg (Kd.R_ne HO_5.out BK285.out (by decide))); replace BK286 := am (blk_grown (g := gb286) (o := .cells #[.int .i8 a1_0, .int .i8 a1_1, .int .i8 a1_2, .int .i8 a1_3, .int .i8 a1_4, .int .i8 a1_5] 38 (0, 0)) (kb BK286) hg (Kd.R_ne HO_5.out BK286.out (by decide))); replace BK294 := am (blk_grown (g := gb294) (o := .cells #[.int .i8 ((rd_T36 t290 x13_1).f0), .int .i8 ((rd_T36 t290 x13_1).f1)] 36 (0, 0)) (kb BK294) hg (Kd.R_away HO_5.out (fun _ hk => hk.2))); replace HB := am (hb); clear HO_5; clear ho hb hg hat))
        go_roundg k1
        case measure => have := HK1.out; omega
        case rel => exact ⟨(y296), (wrap64 (x13_1 + 1)), vv, H', ⟨by have := HK1.out; omega⟩, ⟨by (with_reducible repeat (first | apply Kd.R_alloc | apply Kd.R_drewN | apply Kd.R_drew)); exact Kd.R_mono HO298.out (fun _ hk => hk.1)⟩, ⟨by (with_reducible repeat (first | apply Kd.R_alloc | apply Kd.R_drewN | apply Kd.R_drew)); exact Kd.R_mono HO_11.out (fun _ hk => hk.2)⟩, ⟨kb BK285⟩, ⟨kb BK286⟩, ⟨be HB⟩⟩
       ·rw [if_neg c18] at H
        exact absurd H (by simp)
      ·rw [if_neg c17] at H
       have c17b0 : decide (t295 < (wrap64 (a1_4))) = false := decide_eq_false c17
       clear c17
       have H' := am H
       clear H
       have p293 : 0 ≤ (x13_1 : Int) := of_decide_eq_true (by first | (with_reducible assumption) | assumption)
       have q293 : x13_1 < (t290.length : Int) := of_decide_eq_true (by first | (with_reducible assumption) | assumption)
       obtain ⟨ad293, e293, hx293_0, hx293_1⟩ := at_T36 (Kd.R_reads' HO_11.out).2.2 x13_1 p293 q293
       cases e293
       replace p293 := eq_true p293
       replace q293 := eq_true q293
       try go_wp2_with (first | ((with_reducible refine gate_dst (N := 7) rfl ?_); refine bxe (N := 7) (cs := #[.int .i8 0, .int .i8 0]) (t := 36) ?_; intro gb294 hg w28 hbox hb; have BK294 := am (hbox); have GW294 := am (gN hg (below_size (be HB))); have GE294 := am (gN hg (below_size (be HB))); have NB285_294 := nL BK285 hg; have NB294_285 := nR BK285 hg; have NB286_294 := nL BK286 hg; have NB294_286 := nR BK286 hg; replace HO_5 := am (Kd.R_below (Kd.R_elderB (kr HO_5) gb294 (Nat.le_of_eq hg.symm)) hb); replace HO_11 := am (Kd.R_below (Kd.R_elderB (kr HO_11) gb294 (Nat.le_of_eq hg.symm)) hb); replace BK285 := bB BK285 hb; replace BK286 := bB BK286 hb; replace HB := am (below_step (be HB) hb); clear hb hbox hg; have hnb29 := NB294_285.out; have hnc29 := NB285_294.out; have hnb30 := NB294_286.out; have hnc30 := NB286_294.out; obtain ⟨hcz31_0, hcz31_1, hfz31_0, hfz31_1⟩ := bx2 BK294))
       have n0_ : Aside0 (Kd.R k36 36 ((w28.setCell ⟨gb294, 0, none⟩ (.int .i8 ((rd_T36 t290 x13_1).f0))).setCell ⟨gb294, 1, none⟩ (.int .i8 ((rd_T36 t290 x13_1).f1))) w.heap.size (fun k_ => some k_ ≠ (.slice (some ad293) t290.length co12 : Value).ownBlock ∧ k_ ≠ gb294) u5 x5_1) := ⟨by (with_reducible repeat (first | apply Kd.R_alloc | apply Kd.R_drewN | apply Kd.R_drew)); exact Kd.R_mono (Kd.R_far (p := ⟨gb294, 1, none⟩) (Kd.R_far (p := ⟨gb294, 0, none⟩) (Kd.R_mono HO_5.out (fun k_ hk => (⟨hk, hk.2⟩ : _ ∧ k_ ≠ gb294))) (fun _ hk => hk.2) (.int .i8 ((rd_T36 t290 x13_1).f0))) (fun _ hk => hk.2) (.int .i8 ((rd_T36 t290 x13_1).f1))) (fun _ hk => ⟨hk.1.1, hk.1.2⟩)⟩
       have n1_ : Aside0 (Kd.R k36 36 ((w28.setCell ⟨gb294, 0, none⟩ (.int .i8 ((rd_T36 t290 x13_1).f0))).setCell ⟨gb294, 1, none⟩ (.int .i8 ((rd_T36 t290 x13_1).f1))) w.heap.size (fun k_ => some k_ ≠ (u5 : Value).ownBlock ∧ k_ ≠ gb294) (.slice (some ad293) t290.length co12) t290) := ⟨by (with_reducible repeat (first | apply Kd.R_alloc | apply Kd.R_drewN | apply Kd.R_drew)); exact Kd.R_mono (Kd.R_far (p := ⟨gb294, 1, none⟩) (Kd.R_far (p := ⟨gb294, 0, none⟩) (Kd.R_mono HO_11.out (fun k_ hk => (⟨hk, hk.2⟩ : _ ∧ k_ ≠ gb294))) (fun _ hk => hk.2) (.int .i8 ((rd_T36 t290 x13_1).f0))) (fun _ hk => hk.2) (.int .i8 ((rd_T36 t290 x13_1).f1))) (fun _ hk => ⟨hk.1.1, hk.1.2⟩)⟩
       have n2_ : Aside0 (((w28.setCell ⟨gb294, 0, none⟩ (.int .i8 ((rd_T36 t290 x13_1).f0))).setCell ⟨gb294, 1, none⟩ (.int .i8 ((rd_T36 t290 x13_1).f1))).heap[gb285]? = some (.cells (csBay a0_0 a0_1 a0_2) 28 (0, 0))) := ⟨by (with_reducible repeat (first | refine blk_drewN ?_ _ | refine blk_drew ?_ | refine blk_alloc ?_ _)); refine blk_far ?_ NB285_294.out _; (with_reducible repeat (first | refine blk_drewN ?_ _ | refine blk_drew ?_ | refine blk_alloc ?_ _)); refine blk_far ?_ NB285_294.out _; exact kb BK285⟩
       have n3_ : Aside0 (((w28.setCell ⟨gb294, 0, none⟩ (.int .i8 ((rd_T36 t290 x13_1).f0))).setCell ⟨gb294, 1, none⟩ (.int .i8 ((rd_T36 t290 x13_1).f1))).heap[gb286]? = some (.cells #[.int .i8 a1_0, .int .i8 a1_1, .int .i8 a1_2, .int .i8 a1_3, .int .i8 a1_4, .int .i8 a1_5] 38 (0, 0))) := ⟨by (with_reducible repeat (first | refine blk_drewN ?_ _ | refine blk_drew ?_ | refine blk_alloc ?_ _)); refine blk_far ?_ NB286_294.out _; (with_reducible repeat (first | refine blk_drewN ?_ _ | refine blk_drew ?_ | refine blk_alloc ?_ _)); refine blk_far ?_ NB286_294.out _; exact kb BK286⟩
       have n4_ : Aside0 (((w28.setCell ⟨gb294, 0, none⟩ (.int .i8 ((rd_T36 t290 x13_1).f0))).setCell ⟨gb294, 1, none⟩ (.int .i8 ((rd_T36 t290 x13_1).f1))).heap[gb294]? = some (.cells #[.int .i8 ((rd_T36 t290 x13_1).f0), .int .i8 ((rd_T36 t290 x13_1).f1)] 36 (0, 0))) := ⟨by (with_reducible repeat (first | refine blk_drewN ?_ _ | refine blk_drew ?_ | refine blk_alloc ?_ _)); refine blk_put (cs := #[.int .i8 ((rd_T36 t290 x13_1).f0), .int .i8 0]) ?_ 1 _ rfl; (with_reducible repeat (first | refine blk_drewN ?_ _ | refine blk_drew ?_ | refine blk_alloc ?_ _)); refine blk_put (cs := #[.int .i8 0, .int .i8 0]) ?_ 0 _ rfl; exact kb BK294⟩
       have n5_ : Aside0 (Below w.heap.size w ((w28.setCell ⟨gb294, 0, none⟩ (.int .i8 ((rd_T36 t290 x13_1).f0))).setCell ⟨gb294, 1, none⟩ (.int .i8 ((rd_T36 t290 x13_1).f1)))) := ⟨be HB⟩
       (try clear HO_5)
       (try clear HO_11)
       (try clear BK285)
       (try clear BK286)
       (try clear BK294)
       (try clear HB)
       generalize ((w28.setCell ⟨gb294, 0, none⟩ (.int .i8 ((rd_T36 t290 x13_1).f0))).setCell ⟨gb294, 1, none⟩ (.int .i8 ((rd_T36 t290 x13_1).f1))) = w32 at n0_ n1_ n2_ n3_ n4_ n5_ ⊢
       have HO_5 := n0_
       have HO_11 := n1_
       have BK285 := n2_
       have BK286 := n3_
       have BK294 := n4_
       have HB := n5_
       clear n0_ n1_ n2_ n3_ n4_ n5_
       have n0_ := am (Kd.R_drew HO_5.out)
       have n1_ := am (Kd.R_drew HO_11.out)
       have n2_ := am (blk_drew BK285.out)
       have n3_ := am (blk_drew BK286.out)
       have n4_ := am (blk_drew BK294.out)
       have n5_ := am (below_drew1 HB.out)
       clear HO_5
       clear HO_11
       clear BK285
       clear BK286
       clear BK294
       clear HB
       have HO_5 := n0_
       have HO_11 := n1_
       have BK285 := n2_
       have BK286 := n3_
       have BK294 := n4_
       have HB := n5_
       clear n0_ n1_ n2_ n3_ n4_ n5_
       refine start_ (n := 7) (S := fun w' => w'.cell? ⟨gb285, 0, none⟩ = some (.int .i8 a0_0) ∧ w'.cell? ⟨gb285, 1, none⟩ = some (.int .i8 a0_1) ∧ atCells w' gb285 a0_2 ∧ BayAt28 w' gb285 ∧ lvv w' gb285 = .agg (csBay a0_0 a0_1 a0_2) ∧ w'.cell? ⟨gb294, 0, none⟩ = some (.int .i8 ((rd_T36 t290 x13_1).f0)) ∧ w'.cell? ⟨gb294, 1, none⟩ = some (.int .i8 ((rd_T36 t290 x13_1).f1)) ∧ w'.cell? ⟨gb286, 0, none⟩ = some (.int .i8 a1_0) ∧ w'.cell? ⟨gb286, 1, none⟩ = some (.int .i8 a1_1) ∧ w'.cell? ⟨gb286, 2, none⟩ = some (.int .i8 a1_2) ∧ w'.cell? ⟨gb286, 3, none⟩ = some (.int .i8 a1_3) ∧ w'.cell? ⟨gb286, 4, none⟩ = some (.int .i8 a1_4) ∧ w'.cell? ⟨gb286, 5, none⟩ = some (.int .i8 a1_5)) (ds := []) #[false, false, false, false, false, false, false] (by kernel_rfl) rfl rfl ⟨(blk_cell BK285.out 0).trans rfl, (blk_cell BK285.out 1).trans rfl, at_cells BK285.out, BayAt28_of BK285.out, lvv_of BK285.out, (blk_cell BK294.out 0).trans rfl, (blk_cell BK294.out 1).trans rfl, (blk_cell BK286.out 0).trans rfl, (blk_cell BK286.out 1).trans rfl, (blk_cell BK286.out 2).trans rfl, (blk_cell BK286.out 3).trans rfl, (blk_cell BK286.out 4).trans rfl, (blk_cell BK286.out 5).trans rfl⟩ (fun hHeld => ?_)
       generalize w32.drew = w33 at HO_5 HO_11 BK285 BK286 BK294 HB hHeld ⊢
       refine pure_ (i := 3) (N := some 20) (v := ?_) (a' := ?_) #[false, false, false, true, false, false, false] rfl rfl (by kernel_rfl) (fun _ _ _ h => h) (Or.inl ⟨by rfl, ?_⟩) ?_ ?_
       rotate_left
       ·intro w'
        go_simp
        with_reducible rfl
       rotate_left
       ·simp only [Act.put, List.setIfInBounds_toArray, List.set_cons_zero, List.set_cons_succ, i64_w, i32_w]
        rfl
       refine take_ (i := 0) (N := some 17) (v := ?_) (a' := ?_) #[true, false, false, true, false, false, false] rfl rfl (by kernel_rfl) (fun _ _ _ h => h) (Or.inl ⟨by rfl, ?_⟩) hHeld ?_ ?_
       rotate_left
       ·rintro w' ⟨s0, s1, s2, s3, s4, s5, s6, s7, s8, s9, s10, s11, s12⟩
        go_simp
        with_reducible rfl
       rotate_left
       ·simp only [Act.put, List.setIfInBounds_toArray, List.set_cons_zero, List.set_cons_succ, i64_w, i32_w]
        rfl
       refine take_ (i := 1) (N := some 18) (v := ?_) (a' := ?_) #[true, true, false, true, false, false, false] rfl rfl (by kernel_rfl) (fun _ _ _ h => h) (Or.inl ⟨by rfl, ?_⟩) hHeld ?_ ?_
       rotate_left
       ·rintro w' ⟨s0, s1, s2, s3, s4, s5, s6, s7, s8, s9, s10, s11, s12⟩
        go_simp
        with_reducible rfl
       rotate_left
       ·simp only [Act.put, List.setIfInBounds_toArray, List.set_cons_zero, List.set_cons_succ, i64_w, i32_w]
        rfl
       refine take_ (i := 4) (N := some 21) (v := ?_) (a' := ?_) #[true, true, false, true, true, false, false] rfl rfl (by kernel_rfl) (fun _ _ _ h => h) (Or.inl ⟨by rfl, ?_⟩) hHeld ?_ ?_
       rotate_left
       ·rintro w' ⟨s0, s1, s2, s3, s4, s5, s6, s7, s8, s9, s10, s11, s12⟩
        go_simp
        with_reducible rfl
       rotate_left
       ·simp only [Act.put, List.setIfInBounds_toArray, List.set_cons_zero, List.set_cons_succ, i64_w, i32_w]
        rfl
       refine pure_ (i := 5) (N := some 22) (v := ?_) (a' := ?_) #[true, true, false, true, true, true, false] rfl rfl (by kernel_rfl) (fun _ _ _ h => h) (Or.inl ⟨by rfl, ?_⟩) ?_ ?_
       rotate_left
       ·intro w'
        go_simp
        with_reducible rfl
       rotate_left
       ·simp only [Act.put, List.setIfInBounds_toArray, List.set_cons_zero, List.set_cons_succ, i64_w, i32_w]
        rfl
       refine one_ (i := 2) (N := some 19) #[true, true, true, true, true, true, false] rfl rfl (by kernel_rfl) (by decide) (fun K hK => ?_)
       refine goes_ Try.func112 (by kernel_rfl) rfl #[.agg (csBay a0_0 a0_1 a0_2), .agg #[.int .i8 ((rd_T36 t290 x13_1).f0), .int .i8 ((rd_T36 t290 x13_1).f1)]] (by rfl) rfl rfl (by (try simp only [List.map_toArray, List.map_cons, List.map_nil]); first | done | rfl | (simp only [List.length_drop, List.length_take]; rfl)) ?_
       with_reducible refine (impl_depth.calls a0_0 a0_1 a0_2 ((rd_T36 t290 x13_1).f0) ((rd_T36 t290 x13_1).f1) t295 _ A16.out).mono ?_
       rintro e w34 ⟨rfl, hb⟩
       refine ⟨_, rfl, ?_⟩
       have n0_ := am (Kd.R_below (kr HO_5) hb)
       have n1_ := am (Kd.R_below (kr HO_11) hb)
       have n2_ := bB BK285 hb
       have n3_ := bB BK286 hb
       have n4_ := bB BK294 hb
       have n5_ := am (below_step (be HB) hb)
       clear HO_5
       clear HO_11
       clear BK285
       clear BK286
       clear BK294
       clear HB
       have HO_5 := n0_
       have HO_11 := n1_
       have BK285 := n2_
       have BK286 := n3_
       have BK294 := n4_
       have HB := n5_
       clear n0_ n1_ n2_ n3_ n4_ n5_
       (try clear hb)
       (try clear hb2)
       (try clear hk)
       (try clear hi)
       refine hK.out _ _ ⟨(blk_cell BK285.out 0).trans rfl, (blk_cell BK285.out 1).trans rfl, at_cells BK285.out, BayAt28_of BK285.out, lvv_of BK285.out, (blk_cell BK294.out 0).trans rfl, (blk_cell BK294.out 1).trans rfl, (blk_cell BK286.out 0).trans rfl, (blk_cell BK286.out 1).trans rfl, (blk_cell BK286.out 2).trans rfl, (blk_cell BK286.out 3).trans rfl, (blk_cell BK286.out 4).trans rfl, (blk_cell BK286.out 5).trans rfl⟩ (fun hHeld => ?_)
       clear hK K
       refine norm_ (a' := ?_) ?_ ?_
       rotate_left
       ·show Act.put _ (some 19) _ = _
        simp only [Act.put, List.setIfInBounds_toArray, List.set_cons_zero, List.set_cons_succ, i64_w, i32_w]
        rfl
       refine pure_ (i := 6) (N := some 23) (v := ?_) (a' := ?_) #[true, true, true, true, true, true, true] rfl rfl (by kernel_rfl) (fun _ _ _ h => h) (Or.inl ⟨by rfl, ?_⟩) ?_ ?_
       rotate_left
       ·intro w'
        go_simp
        with_reducible rfl
       rotate_left
       ·simp only [Act.put, List.setIfInBounds_toArray, List.set_cons_zero, List.set_cons_succ, i64_w, i32_w]
        rfl
       refine done_ (by kernel_rfl) ?_
       try go_wp2
       go_roundg k1
       case measure => have := HK1.out; omega
       case rel => exact ⟨(x5_1), (wrap64 (x13_1 + 1)), vv, H', ⟨by have := HK1.out; omega⟩, ⟨by (with_reducible repeat (first | apply Kd.R_alloc | apply Kd.R_drewN | apply Kd.R_drew)); exact Kd.R_mono HO_5.out (fun _ hk => hk.1)⟩, ⟨by (with_reducible repeat (first | apply Kd.R_alloc | apply Kd.R_drewN | apply Kd.R_drew)); exact Kd.R_mono HO_11.out (fun _ hk => hk.1)⟩, ⟨kb BK285⟩, ⟨kb BK286⟩, ⟨be HB⟩⟩
     ·rw [if_neg c15] at H
      exact absurd H (by simp)
    ·rw [if_neg c14] at H
     exact absurd H (by simp)
   ·rw [if_neg c13] at H
    have c13b0 : decide (x13_1 < (t290.length : Int)) = false := decide_eq_false c13
    clear c13
    obtain rfl := Option.some.inj H
    go_wp2
    go_ret
    exact ⟨_, by first | rfl | (simp [errW_none, errW_some] <;> rfl) | (simp [*, errW_none, errW_some] <;> rfl), by (with_reducible repeat (first | apply Kd.R_alloc | apply Kd.R_drewN | apply Kd.R_drew)); exact Kd.R_mono HO_5.out (fun _ hk => trivial), be HB⟩

end Go.Proofs.Ytcollbifdfhfoaa.PFnExactCheckBoats
