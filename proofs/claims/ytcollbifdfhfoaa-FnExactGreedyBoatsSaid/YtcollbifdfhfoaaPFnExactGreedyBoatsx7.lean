-- Written by a program out of this seat's translation (functions, and that the code comes to them).
import Derived.Test.YtcollbifdfhfoaaPFnExactGreedyBoatsx0
import Derived.Test.YtcollbifdfhfoaaPFnExactGreedyBoatsx3
import Derived.Test.YtcollbifdfhfoaaPFnExactGreedyBoatsx4
import Derived.Test.YtcollbifdfhfoaaPFnExactGreedyBoatsx6
namespace Go.Proofs.Ytcollbifdfhfoaa.PFnExactGreedyBoats
open Go.RowKit Go.Proofs.YtcollbifdfhfoaaW.PrintWords Go.Proofs.YtcollbifdfhfoaaW.PrintLast Go.Proofs.YtcollbifdfhfoaaW.PrintMore
attribute [local go_sem] max2_int min2_int max_two min_two max_three min_three max_four min_four   -- for this text's walks alone
open Go.Proofs.Ytcollbifdfhfoaa.Bay Go.Proofs.Ytcollbifdfhfoaa.Short
attribute [local go_sem ↓] lv26_eq lv28_eq
attribute [local go_sem] lvv_set lvv_drewN lvv_drew lv26_run BayAt26_set BayAt26_drewN BayAt26_drew lv28_run BayAt28_set BayAt28_drewN BayAt28_drew
set_option linter.unusedVariables false
set_option linter.unusedSimpArgs false

/-! ### spec_GreedyBoats: function 64 -/
def spec_GreedyBoats.l0 : Nat → List (S38) → List Int → Int → Int → Int → (Nat → Int) → Option (List Int × Int)
 | 0, _, _, _, _, _, _ => none
 | k + 1, x1, x6, x8, x244000, x244001, x244002 => if x8 < (x1.length : Int) then ((some (([] : List Int) : List Int)).bind fun y251 => (if y251.length + x6.length < 17592186044416 then ((some (y251 ++ x6 : List Int)).bind fun y254 => (if y254.length < 17592186044416 then ((spec_l01Chosen.f k x1 (y254 ++ [x8])).bind fun t260 => ((spec_l01Right.f k x244000 x244001 x244002 t260).bind fun bt263 => (if bt263.1 = true then (if x6.length < 17592186044416 then (spec_GreedyBoats.l0 k x1 (x6 ++ [x8]) (wrap64 (x8 + 1)) bt263.2.1 bt263.2.2.1 bt263.2.2.2) else (none)) else (spec_GreedyBoats.l0 k x1 x6 (wrap64 (x8 + 1)) bt263.2.1 bt263.2.2.1 bt263.2.2.2)))) else (none))) else (none))) else (some (x6, 0))
def spec_GreedyBoats.f (k : Nat) (a0_0 : Int) (a0_1 : Int) (a0_2 : (Nat → Int)) (l1 : List (S38)) : Option (List Int × Int) := (some (([] : List Int) : List Int)).bind fun y244 => ((spec_l01Asked.f k a0_0 a0_1 a0_2 l1).bind fun bt247 => (if bt247.1 = 0 then (spec_GreedyBoats.l0 k l1 y244 0 bt247.2.1 bt247.2.2.1 bt247.2.2.2) else (some (y244, bt247.1))))
set_option maxHeartbeats 8000000 in
set_option maxRecDepth 100000 in
theorem spec_GreedyBoats.calls (k : Nat) (a0_0 : Int) (a0_1 : Int) (a0_2 : (Nat → Int)) (A1 : Option Addr) (c1 : Nat) (l1 : List (S38)) (r1 : List Int) (r2 : Int) (w : World) (hr1 : Kd.C k38 w A1 l1.length l1) (hc1 : l1.length ≤ c1) (h : spec_GreedyBoats.f k a0_0 a0_1 a0_2 l1 = some (r1, r2)) :
  Calls Try.prog 64 #[.agg (csBay a0_0 a0_1 a0_2), .slice A1 l1.length c1] w fun e w' => ∃ v0_ : Value, e = .returned (.tuple #[v0_, .int .i64 r2]) ∧ Kd.R (Kd.int .i64) 2 w' w.heap.size (fun _ => True) v0_ r1 ∧ Below w.heap.size w w' := by
 have hu28 := Try.underlying28
 have HR1 := am hr1
 have HC1 := am hc1
 clear hr1 hc1
 have HB := am (Below.refl w.heap.size w)
 have H : ((some (([] : List Int) : List Int)).bind fun y244 => ((spec_l01Asked.f k a0_0 a0_1 a0_2 l1).bind fun bt247 => (if bt247.1 = 0 then (spec_GreedyBoats.l0 k l1 y244 0 bt247.2.1 bt247.2.2.1 bt247.2.2.2) else (some (y244, bt247.1))))) = some (r1, r2) := h
 clear h
 obtain ⟨y244, hy244⟩ : ∃ y_ : List Int, y_ = (([] : List Int)) := ⟨_, rfl⟩
 replace H : ((spec_l01Asked.f k a0_0 a0_1 a0_2 l1).bind fun bt247 => (if bt247.1 = 0 then (spec_GreedyBoats.l0 k l1 y244 0 bt247.2.1 bt247.2.2.1 bt247.2.2.2) else (some (y244, bt247.1)))) = some (r1, r2) := by first | (rw [hy244]; with_reducible exact H) | (have H2_ := (Option.bind_some _ _).symm.trans H; rw [hy244]; with_reducible exact H2_) | (have H2_ := (Option.bind_some _ _).symm.trans H; with_reducible exact H2_) | with_reducible exact H | (rw [hy244]; exact H) | exact H
 have Ny244 := am hy244
 clear hy244
 replace H := Option.bind_eq_some_iff.mp H
 obtain ⟨⟨t247, t248, t249, t250⟩, A30, H⟩ := H
 try dsimp only at H
 have A3 := am A30
 clear A30
 by_cases c4 : t247 = 0
 ·rw [if_pos c4] at H
  have c4b0 : (t247 == 0) = true := beq_iff_eq.mpr c4
  have c4b1 : (t247 != 0) = false := bne_eq_false_iff_eq.mpr c4
  clear c4
  have H' := am H
  clear H
  go_enter Try.func64, Try.ntmps64
  go_wp2_with (first | ((with_reducible refine gate_dst (N := 2) rfl ?_); refine bxe (N := 2) (cs := (csBay a0_0 a0_1 a0_2)) (t := 28) ?_; intro gb243 hg w5 hbox hb; have HI243 := am ((show IsS28 w w5 gb243 a0_0 a0_1 a0_2 from ⟨hbox, by rw [hg]; exact (below_size (be HB))⟩)); have GW243 := am (gN hg (below_size (be HB))); have GE243 := am (gN hg (below_size (be HB))); replace HB := am (below_step (be HB) hb); clear hb hbox hg) | ((with_reducible refine gate_dst (N := 9) rfl ?_); refine Kd.R_lit (Kd.int .i64) _ 2 ?hg (N := 9) ?hd (xs := ([] : List Int)) (inner := []) (ok := fun _ => True) (okp := fun _ => True) ?hr ?hp (fun _ hk => hk) trivial (Below.refl _ _) (Nat.le_refl _) (by simp) ?_; (case hd => rfl); (case hg => rfl); (case hr => first | (go_simp; done) | (go_simp; rfl)); (case hp => exact (Reps.none _ _)); intro v245 w6 ho7 hb hg_ hnew_; clear hg_ hnew_; (first | rw [← Ny244.out] at ho7 | (simp only [Int.reduceToNat] at ho7; rw [← Ny244.out] at ho7)); have HO246 := am (Kd.R_lower ho7 (below_size (be HB))); replace HI243 := am (IsS28.below (si28 HI243) hb); replace HB := am (below_step (be HB) hb); clear hb ho7) | ((with_reducible refine gate_callee (f := 117) rfl ?_); refine gL (some 11) Try.func117 #[.pointer (some ⟨gb243, 0, none⟩), .slice A1 l1.length c1] ?_; (with_reducible refine (spec_l01Asked.calls k gb243 a0_0 a0_1 a0_2 _ _ l1 t247 t248 t249 t250 w _ ?side1 ?side2 ?side3 ?side4 A3.out).mono ?_); (case side1 => exact si28 HI243); (case side2 => exact be HB); (case side3 => exact Kd.C_foot_came k38_heap HR1.out (be HB) (IsS28.ge HI243.out)); (case side4 => exact HC1.out); rintro e w8 ⟨rfl, hi, hb, hk⟩; refine ⟨_, rfl, ?_⟩; replace HO246 := am (Kd.R_mono (Kd.R_keep (IsS28.apart (show IsS28 w _ gb243 a0_0 a0_1 a0_2 from si28 HI243) (kr HO246) (by decide)) hk (fun _ h => h.2)) (fun _ h => h.1)); replace HB := am (hb); replace HI243 := am (hi); (try clear hb); (try clear hb2); (try clear hk); (try clear hi)))
  go_loopg [6, 8] k (fun kq v6 v8 w' => ∃ (x6_1 : List Int) (x8_1 : Int) (x244000_1 : Int) (x244001_1 : Int) (x244002_1 : (Nat → Int)), v8 = .int .i64 x8_1 ∧ Aside0 (spec_GreedyBoats.l0 kq l1 x6_1 x8_1 x244000_1 x244001_1 x244002_1 = some (r1, r2)) ∧ Aside0 (kq ≤ k) ∧ Aside0 (Kd.R (Kd.int .i64) 2 w' w.heap.size (fun _ => True) v6 x6_1) ∧ Aside0 (IsS28 w w' gb243 x244000_1 x244001_1 x244002_1) ∧ Aside0 (Below w.heap.size w w'))
  case atStart => exact ⟨(y244), (0), (t248), (t249), (t250), vv, H', ⟨Nat.le_refl _⟩, ⟨kr HO246⟩, ⟨si28 HI243⟩, ⟨be HB⟩⟩
  case round =>
   clear H'
   try clear c1
   try clear p2
   try clear c4
   try clear c4b0
   try clear c4b1
   try clear c6
   obtain ⟨x6_1, x8_1, x244000_1, x244001_1, x244002_1, rfl, HA, HK1, HO_6, HI243, HB⟩ := hrel
   cases gk with
   | zero => exact absurd HA.out (by simp [spec_GreedyBoats.l0])
   | succ k1 =>
    have H := HA.out
    clear HA
    simp only [spec_GreedyBoats.l0] at H
    by_cases c9 : x8_1 < (l1.length : Int)
    ·rw [if_pos c9] at H
     have c9b0 : decide (x8_1 < (l1.length : Int)) = true := decide_eq_true c9
     clear c9
     obtain ⟨y251, hy251⟩ : ∃ y_ : List Int, y_ = (([] : List Int)) := ⟨_, rfl⟩
     replace H : (if y251.length + x6_1.length < 17592186044416 then ((some (y251 ++ x6_1 : List Int)).bind fun y254 => (if y254.length < 17592186044416 then ((spec_l01Chosen.f k1 l1 (y254 ++ [x8_1])).bind fun t260 => ((spec_l01Right.f k1 x244000_1 x244001_1 x244002_1 t260).bind fun bt263 => (if bt263.1 = true then (if x6_1.length < 17592186044416 then (spec_GreedyBoats.l0 k1 l1 (x6_1 ++ [x8_1]) (wrap64 (x8_1 + 1)) bt263.2.1 bt263.2.2.1 bt263.2.2.2) else (none)) else (spec_GreedyBoats.l0 k1 l1 x6_1 (wrap64 (x8_1 + 1)) bt263.2.1 bt263.2.2.1 bt263.2.2.2)))) else (none))) else (none)) = some (r1, r2) := by first | (rw [hy251]; with_reducible exact H) | (have H2_ := (Option.bind_some _ _).symm.trans H; rw [hy251]; with_reducible exact H2_) | (have H2_ := (Option.bind_some _ _).symm.trans H; with_reducible exact H2_) | with_reducible exact H | (rw [hy251]; exact H) | exact H
     have Ny251 := am hy251
     clear hy251
     by_cases c10 : y251.length + x6_1.length < 17592186044416
     ·rw [if_pos c10] at H
      have LMc10 := am c10
      clear c10
      obtain ⟨y254, hy254⟩ : ∃ y_ : List Int, y_ = (y251 ++ x6_1) := ⟨_, rfl⟩
      replace H : (if y254.length < 17592186044416 then ((spec_l01Chosen.f k1 l1 (y254 ++ [x8_1])).bind fun t260 => ((spec_l01Right.f k1 x244000_1 x244001_1 x244002_1 t260).bind fun bt263 => (if bt263.1 = true then (if x6_1.length < 17592186044416 then (spec_GreedyBoats.l0 k1 l1 (x6_1 ++ [x8_1]) (wrap64 (x8_1 + 1)) bt263.2.1 bt263.2.2.1 bt263.2.2.2) else (none)) else (spec_GreedyBoats.l0 k1 l1 x6_1 (wrap64 (x8_1 + 1)) bt263.2.1 bt263.2.2.1 bt263.2.2.2)))) else (none)) = some (r1, r2) := by first | (rw [hy254]; with_reducible exact H) | (have H2_ := (Option.bind_some _ _).symm.trans H; rw [hy254]; with_reducible exact H2_) | (have H2_ := (Option.bind_some _ _).symm.trans H; with_reducible exact H2_) | with_reducible exact H | (rw [hy254]; exact H) | exact H
      have Ny254 := am hy254
      clear hy254
      by_cases c11 : y254.length < 17592186044416
      ·rw [if_pos c11] at H
       have LMc11 := am c11
       clear c11
       obtain ⟨y257, hy257⟩ : ∃ y_ : List Int, y_ = (y254 ++ [x8_1]) := ⟨_, rfl⟩
       replace H : ((spec_l01Chosen.f k1 l1 y257).bind fun t260 => ((spec_l01Right.f k1 x244000_1 x244001_1 x244002_1 t260).bind fun bt263 => (if bt263.1 = true then (if x6_1.length < 17592186044416 then (spec_GreedyBoats.l0 k1 l1 (x6_1 ++ [x8_1]) (wrap64 (x8_1 + 1)) bt263.2.1 bt263.2.2.1 bt263.2.2.2) else (none)) else (spec_GreedyBoats.l0 k1 l1 x6_1 (wrap64 (x8_1 + 1)) bt263.2.1 bt263.2.2.1 bt263.2.2.2)))) = some (r1, r2) := by first | (rw [hy257]; with_reducible exact H) | (have H2_ := (Option.bind_some _ _).symm.trans H; rw [hy257]; with_reducible exact H2_) | (have H2_ := (Option.bind_some _ _).symm.trans H; with_reducible exact H2_) | with_reducible exact H | (rw [hy257]; exact H) | exact H
       have Ny257 := am hy257
       clear hy257
       replace H := Option.bind_eq_some_iff.mp H
       obtain ⟨t260, A120, H⟩ := H
       try dsimp only at H
       have A12 := am A120
       clear A120
       replace H := Option.bind_eq_some_iff.mp H
       obtain ⟨⟨t263, t264, t265, t266⟩, A130, H⟩ := H
       try dsimp only at H
       have A13 := am A130
       clear A130
       by_cases c14 : t263 = true
       ·subst c14
        rw [if_pos rfl] at H
        by_cases c15 : x6_1.length < 17592186044416
        ·rw [if_pos c15] at H
         have LMc15 := am c15
         clear c15
         obtain ⟨y267, hy267⟩ : ∃ y_ : List Int, y_ = (x6_1 ++ [x8_1]) := ⟨_, rfl⟩
         replace H : (spec_GreedyBoats.l0 k1 l1 y267 (wrap64 (x8_1 + 1)) t264 t265 t266) = some (r1, r2) := by first | (rw [hy267]; with_reducible exact H) | (have H2_ := (Option.bind_some _ _).symm.trans H; rw [hy267]; with_reducible exact H2_) | (have H2_ := (Option.bind_some _ _).symm.trans H; with_reducible exact H2_) | with_reducible exact H | (rw [hy267]; exact H) | exact H
         have Ny267 := am hy267
         clear hy267
         have H' := am H
         clear H
         go_wp2_with (first | ((with_reducible refine gate_dst (N := 23) rfl ?_); refine Kd.R_lit (Kd.int .i64) _ 2 ?hg (N := 23) ?hd (xs := ([] : List Int)) (inner := []) (ok := fun _ => True) (okp := fun _ => True) ?hr ?hp (fun _ hk => hk) trivial (Below.refl _ _) (Nat.le_refl _) (by simp) ?_; (case hd => rfl); (case hg => rfl); (case hr => first | (go_simp; done) | (go_simp; rfl)); (case hp => exact (Reps.none _ _)); intro v252 w16 ho17 hb hg_ hnew_; clear hg_ hnew_; (first | rw [← Ny251.out] at ho17 | (simp only [Int.reduceToNat] at ho17; rw [← Ny251.out] at ho17)); have HO253 := am (Kd.R_lower (Kd.R_new' ho17 (Kd.R_lt (kr HO_6))) (below_size (be HB))); replace HO_6 := am (Kd.R_elder' (kr HO_6) (Kd.R_base ho17) hb); replace HI243 := am (IsS28.below (si28 HI243) hb); replace HB := am (below_step (be HB) hb); clear hb ho17; obtain ⟨Ao19, co19, eo19⟩ := Kd.R_slice HO_6.out; subst eo19) | ((with_reducible refine gate_builtin (b := .append) (xs := #[.tmp 23, .tmp 24]) rfl ?_); at_builtin; refine Kd.R_append_rows (Kd.int .i64) (w0 := w) w.heap.size rfl (.tmp 23) (.tmp 24) 71 2 (.int .i64 0) 8 rfl Try.underlying71 info2 rfl (by decide) (by omega) v252 y251 x6_1 _ _ _ (fun k_ => some k_ ≠ (.slice Ao19 x6_1.length co19 : Value).ownBlock) (fun _ => False) rfl rfl ?aO ?aR (fun _ _ h => h) (fun _ h => h.elim) ?aF ?aB ?aS ?aL ?_; (case aR => repeat (first | exact (Kd.R_reads' HO_6.out).2.2 | (with_reducible refine Kd.C_alloc ?_ _) | (with_reducible refine Kd.C_drewN ?_ _) | (with_reducible refine Kd.C_drew ?_))); (case aB => exact (be HB)); (case aF => exact (fun k_ hk => Kd.fresh' (Kd.R_lt (kr HO_6)) k_ hk)); (case aO => exact (by (with_reducible repeat (first | apply Kd.R_alloc | apply Kd.R_drewN | apply Kd.R_drew)); exact Kd.R_mono HO253.out (fun _ hk => hk.2))); (case aS => exact (below_size (be HB))); (case aL => have := LMc10.out; omega); intro v255 w18 ho hb hg hat; rw [← Ny254.out] at ho; have HO256 := am (ho); replace HO_6 := am (Kd.R_after (ok := (fun _ => True)) (kr HO_6) hg hat); replace HI243 := am (IsS28.grown (si28 HI243) hg (IsS28.own_ne HI243.out HO253.out (by decide))); replace HB := am (hb); clear HO253; clear ho hb hg hat) | ((with_reducible refine gate_builtin (b := .append) (xs := #[.tmp 25, .tmp 27]) rfl ?_); at_builtin; refine Kd.R_append (Kd.int .i64) (w0 := w) w.heap.size rfl (.tmp 25) (.tmp 27) 71 2 (.int .i64 0) 8 rfl Try.underlying71 info2 rfl (by decide) (by omega) v255 y254 x8_1 [.int .i64 x8_1] (fun k_ => some k_ ≠ (.slice Ao19 x6_1.length co19 : Value).ownBlock) (fun _ => False) rfl rfl ?aP (fun _ hk => hk.elim) ?aF ?aO ?aB ?aS ?aL ?_; (case aP => exact rfl); (case aB => exact (be HB)); (case aF => exact (fun k_ hk => Kd.fresh' (Kd.R_lt (kr HO_6)) k_ hk)); (case aO => exact (kr HO256)); (case aS => exact (below_size (be HB))); (case aL => have := LMc11.out; omega); intro v258 w20 ho hb hg hat; rw [← Ny257.out] at ho; have HO259 := am (ho); replace HO_6 := am (Kd.R_after (ok := (fun _ => True)) (kr HO_6) hg hat); replace HI243 := am (IsS28.grown (si28 HI243) hg (IsS28.own_ne HI243.out HO256.out (by decide))); replace HB := am (hb); clear HO256; clear ho hb hg hat; obtain ⟨Ao21, co21, eo21⟩ := Kd.R_slice HO259.out; subst eo21) | ((with_reducible refine gate_callee (f := 133) rfl ?_); refine gL (some 29) Try.func133 #[.slice A1 l1.length c1, .slice Ao21 y257.length co21] ?_; (with_reducible refine (spec_l01Chosen.calls k1 _ _ l1 _ _ y257 t260 _ ?side1 ?side2 ?side3 ?side4 A12.out).mono ?_); (case side1 => repeat (first | exact (Kd.C_below HR1.out HB.out) | (with_reducible refine Kd.C_alloc ?_ _) | (with_reducible refine Kd.C_drewN ?_ _) | (with_reducible refine Kd.C_drew ?_))); (case side2 => exact HC1.out); (case side3 => repeat (first | exact (Kd.R_reads' HO259.out).2.2 | (with_reducible refine Kd.C_alloc ?_ _) | (with_reducible refine Kd.C_drewN ?_ _) | (with_reducible refine Kd.C_drew ?_))); (case side4 => exact (Kd.R_reads' HO259.out).2.1); rintro e w22 ⟨v261, rfl, ho0, hb⟩; refine ⟨_, rfl, ?_⟩; have HO262 := am (Kd.R_lower ho0 (below_size (be HB))); replace HO_6 := am (Kd.R_below (kr HO_6) hb); replace HO259 := am (Kd.R_below (kr HO259) hb); replace HI243 := am (IsS28.below (si28 HI243) hb); replace HB := am (below_step (be HB) hb); (try clear hb); (try clear hb2); (try clear hk); (try clear hi); (try clear ho0); obtain ⟨Ao23, co23, eo23⟩ := Kd.R_slice HO262.out; subst eo23) | ((with_reducible refine gate_callee (f := 128) rfl ?_); refine gL (some 30) Try.func128 #[.pointer (some ⟨gb243, 0, none⟩), .slice Ao23 t260.length co23] ?_; (with_reducible refine (spec_l01Right.calls k1 gb243 x244000_1 x244001_1 x244002_1 _ _ t260 true t264 t265 t266 w _ ?side1 ?side2 ?side3 ?side4 A13.out).mono ?_); (case side1 => exact si28 HI243); (case side2 => exact be HB); (case side3 => exact Kd.C_foot_own (IsS28.apart (show IsS28 w _ gb243 x244000_1 x244001_1 x244002_1 from si28 HI243) (kr HO262) (by decide)) (fun _ h_ => h_.2)); (case side4 => exact (Kd.R_reads' HO262.out).2.1); rintro e w24 ⟨rfl, hi, hb, hk⟩; refine ⟨_, rfl, ?_⟩; replace HO_6 := am (Kd.R_mono (Kd.R_keep (IsS28.apart (show IsS28 w _ gb243 x244000_1 x244001_1 x244002_1 from si28 HI243) (kr HO_6) (by decide)) hk (fun _ h => h.2)) (fun _ h => h.1)); replace HO259 := am (Kd.R_mono (Kd.R_keep (IsS28.apart (show IsS28 w _ gb243 x244000_1 x244001_1 x244002_1 from si28 HI243) (kr HO259) (by decide)) hk (fun _ h => h.2)) (fun _ h => h.1)); replace HO262 := am (Kd.R_mono (Kd.R_keep (IsS28.apart (show IsS28 w _ gb243 x244000_1 x244001_1 x244002_1 from si28 HI243) (kr HO262) (by decide)) hk (fun _ h => h.2)) (fun _ h => h.1)); replace HB := am (hb); replace HI243 := am (hi); (try clear hb); (try clear hb2); (try clear hk); (try clear hi)) | ((with_reducible refine gate_builtin (b := .append) (xs := #[.tmp 31, .tmp 33]) rfl ?_); at_builtin; refine Kd.R_append (Kd.int .i64) (w0 := w) w.heap.size rfl (.tmp 31) (.tmp 33) 71 2 (.int .i64 0) 8 rfl Try.underlying71 info2 rfl (by decide) (by omega) (.slice Ao19 x6_1.length co19) x6_1 x8_1 [.int .i64 x8_1] (fun k_ => some k_ ≠ (.slice Ao21 y257.length co21 : Value).ownBlock) (fun _ => False) rfl rfl ?aP (fun _ hk => hk.elim) ?aF ?aO ?aB ?aS ?aL ?_; (case aP => exact rfl); (case aB => exact (be HB)); (case aF => exact (fun k_ hk => Kd.fresh' (Kd.R_lt (kr HO259)) k_ hk)); (case aO => exact (by (with_reducible repeat (first | apply Kd.R_alloc | apply Kd.R_drewN | apply Kd.R_drew)); exact Kd.R_mono HO_6.out (fun _ hk => hk.2))); (case aS => exact (below_size (be HB))); (case aL => have := LMc15.out; omega); intro v268 w25 ho hb hg hat; rw [← Ny267.out] at ho; have HO269 := am (ho); replace HI243 := am (IsS28.grown (si28 HI243) hg (IsS28.own_ne HI243.out HO_6.out (by decide))); replace HO259 := am (Kd.R_after (ok := (fun _ => True)) (by (with_reducible repeat (first | apply Kd.R_alloc | apply Kd.R_drewN | apply Kd.R_drew)); exact Kd.R_mono HO259.out (fun _ hk => ⟨trivial, hk⟩)) hg hat); replace HO262 := am (Kd.R_over' (kr HO262) (Kd.R_typed (kr HO_6)) (by decide) hg); replace HB := am (hb); clear HO_6; clear ho hb hg hat))
         go_roundg k1
         case measure => have := HK1.out; omega
         case rel => exact ⟨(y267), (wrap64 (x8_1 + 1)), (t264), (t265), (t266), vv, H', ⟨by have := HK1.out; omega⟩, ⟨by (with_reducible repeat (first | apply Kd.R_alloc | apply Kd.R_drewN | apply Kd.R_drew)); exact Kd.R_mono HO269.out (fun _ hk => trivial)⟩, ⟨si28 HI243⟩, ⟨be HB⟩⟩
        ·rw [if_neg c15] at H
         exact absurd H (by simp)
       ·replace c14 := Bool.eq_false_iff.mpr c14
        subst c14
        have H1 : (spec_GreedyBoats.l0 k1 l1 x6_1 (wrap64 (x8_1 + 1)) t264 t265 t266) = some (r1, r2) := by rw [if_neg (show ¬ (false = true) by decide)] at H; exact H
        clear H
        have H := H1
        clear H1
        have H' := am H
        clear H
        go_wp2_with (first | ((with_reducible refine gate_dst (N := 23) rfl ?_); refine Kd.R_lit (Kd.int .i64) _ 2 ?hg (N := 23) ?hd (xs := ([] : List Int)) (inner := []) (ok := fun _ => True) (okp := fun _ => True) ?hr ?hp (fun _ hk => hk) trivial (Below.refl _ _) (Nat.le_refl _) (by simp) ?_; (case hd => rfl); (case hg => rfl); (case hr => first | (go_simp; done) | (go_simp; rfl)); (case hp => exact (Reps.none _ _)); intro v252 w26 ho27 hb hg_ hnew_; clear hg_ hnew_; (first | rw [← Ny251.out] at ho27 | (simp only [Int.reduceToNat] at ho27; rw [← Ny251.out] at ho27)); have HO253 := am (Kd.R_lower (Kd.R_new' ho27 (Kd.R_lt (kr HO_6))) (below_size (be HB))); replace HO_6 := am (Kd.R_elder' (kr HO_6) (Kd.R_base ho27) hb); replace HI243 := am (IsS28.below (si28 HI243) hb); replace HB := am (below_step (be HB) hb); clear hb ho27; obtain ⟨Ao29, co29, eo29⟩ := Kd.R_slice HO_6.out; subst eo29) | ((with_reducible refine gate_builtin (b := .append) (xs := #[.tmp 23, .tmp 24]) rfl ?_); at_builtin; refine Kd.R_append_rows (Kd.int .i64) (w0 := w) w.heap.size rfl (.tmp 23) (.tmp 24) 71 2 (.int .i64 0) 8 rfl Try.underlying71 info2 rfl (by decide) (by omega) v252 y251 x6_1 _ _ _ (fun k_ => some k_ ≠ (.slice Ao29 x6_1.length co29 : Value).ownBlock) (fun _ => False) rfl rfl ?aO ?aR (fun _ _ h => h) (fun _ h => h.elim) ?aF ?aB ?aS ?aL ?_; (case aR => repeat (first | exact (Kd.R_reads' HO_6.out).2.2 | (with_reducible refine Kd.C_alloc ?_ _) | (with_reducible refine Kd.C_drewN ?_ _) | (with_reducible refine Kd.C_drew ?_))); (case aB => exact (be HB)); (case aF => exact (fun k_ hk => Kd.fresh' (Kd.R_lt (kr HO_6)) k_ hk)); (case aO => exact (by (with_reducible repeat (first | apply Kd.R_alloc | apply Kd.R_drewN | apply Kd.R_drew)); exact Kd.R_mono HO253.out (fun _ hk => hk.2))); (case aS => exact (below_size (be HB))); (case aL => have := LMc10.out; omega); intro v255 w28 ho hb hg hat; rw [← Ny254.out] at ho; have HO256 := am (ho); replace HO_6 := am (Kd.R_after (ok := (fun _ => True)) (kr HO_6) hg hat); replace HI243 := am (IsS28.grown (si28 HI243) hg (IsS28.own_ne HI243.out HO253.out (by decide))); replace HB := am (hb); clear HO253; clear ho hb hg hat) | ((with_reducible refine gate_builtin (b := .append) (xs := #[.tmp 25, .tmp 27]) rfl ?_); at_builtin; refine Kd.R_append (Kd.int .i64) (w0 := w) w.heap.size rfl (.tmp 25) (.tmp 27) 71 2 (.int .i64 0) 8 rfl Try.underlying71 info2 rfl (by decide) (by omega) v255 y254 x8_1 [.int .i64 x8_1] (fun k_ => some k_ ≠ (.slice Ao29 x6_1.length co29 : Value).ownBlock) (fun _ => False) rfl rfl ?aP (fun _ hk => hk.elim) ?aF ?aO ?aB ?aS ?aL ?_; (case aP => exact rfl); (case aB => exact (be HB)); (case aF => exact (fun k_ hk => Kd.fresh' (Kd.R_lt (kr HO_6)) k_ hk)); (case aO => exact (kr HO256)); (case aS => exact (below_size (be HB))); (case aL => have := LMc11.out; omega); intro v258 w30 ho hb hg hat; rw [← Ny257.out] at ho; have HO259 := am (ho); replace HO_6 := am (Kd.R_after (ok := (fun _ => True)) (kr HO_6) hg hat); replace HI243 := am (IsS28.grown (si28 HI243) hg (IsS28.own_ne HI243.out HO256.out (by decide))); replace HB := am (hb); clear HO256; clear ho hb hg hat; obtain ⟨Ao31, co31, eo31⟩ := Kd.R_slice HO259.out; subst eo31) | ((with_reducible refine gate_callee (f := 133) rfl ?_); refine gL (some 29) Try.func133 #[.slice A1 l1.length c1, .slice Ao31 y257.length co31] ?_; (with_reducible refine (spec_l01Chosen.calls k1 _ _ l1 _ _ y257 t260 _ ?side1 ?side2 ?side3 ?side4 A12.out).mono ?_); (case side1 => repeat (first | exact (Kd.C_below HR1.out HB.out) | (with_reducible refine Kd.C_alloc ?_ _) | (with_reducible refine Kd.C_drewN ?_ _) | (with_reducible refine Kd.C_drew ?_))); (case side2 => exact HC1.out); (case side3 => repeat (first | exact (Kd.R_reads' HO259.out).2.2 | (with_reducible refine Kd.C_alloc ?_ _) | (with_reducible refine Kd.C_drewN ?_ _) | (with_reducible refine Kd.C_drew ?_))); (case side4 => exact (Kd.R_reads' HO259.out).2.1); rintro e w32 ⟨v261, rfl, ho0, hb⟩; refine ⟨_, rfl, ?_⟩; have HO262 := am (Kd.R_lower ho0 (below_size (be HB))); replace HO_6 := am (Kd.R_below (kr HO_6) hb); replace HO259 := am (Kd.R_below (kr HO259) hb); replace HI243 := am (IsS28.below (si28 HI243) hb); replace HB := am (below_step (be HB) hb); (try clear hb); (try clear hb2); (try clear hk); (try clear hi); (try clear ho0); obtain ⟨Ao33, co33, eo33⟩ := Kd.R_slice HO262.out; subst eo33) | ((with_reducible refine gate_callee (f := 128) rfl ?_); refine gL (some 30) Try.func128 #[.pointer (some ⟨gb243, 0, none⟩), .slice Ao33 t260.length co33] ?_; (with_reducible refine (spec_l01Right.calls k1 gb243 x244000_1 x244001_1 x244002_1 _ _ t260 false t264 t265 t266 w _ ?side1 ?side2 ?side3 ?side4 A13.out).mono ?_); (case side1 => exact si28 HI243); (case side2 => exact be HB); (case side3 => exact Kd.C_foot_own (IsS28.apart (show IsS28 w _ gb243 x244000_1 x244001_1 x244002_1 from si28 HI243) (kr HO262) (by decide)) (fun _ h_ => h_.2)); (case side4 => exact (Kd.R_reads' HO262.out).2.1); rintro e w34 ⟨rfl, hi, hb, hk⟩; refine ⟨_, rfl, ?_⟩; replace HO_6 := am (Kd.R_mono (Kd.R_keep (IsS28.apart (show IsS28 w _ gb243 x244000_1 x244001_1 x244002_1 from si28 HI243) (kr HO_6) (by decide)) hk (fun _ h => h.2)) (fun _ h => h.1)); replace HO259 := am (Kd.R_mono (Kd.R_keep (IsS28.apart (show IsS28 w _ gb243 x244000_1 x244001_1 x244002_1 from si28 HI243) (kr HO259) (by decide)) hk (fun _ h => h.2)) (fun _ h => h.1)); replace HO262 := am (Kd.R_mono (Kd.R_keep (IsS28.apart (show IsS28 w _ gb243 x244000_1 x244001_1 x244002_1 from si28 HI243) (kr HO262) (by decide)) hk (fun _ h => h.2)) (fun _ h => h.1)); replace HB := am (hb); replace HI243 := am (hi); (try clear hb); (try clear hb2); (try clear hk); (try clear hi)))
        go_roundg k1
        case measure => have := HK1.out; omega
        case rel => exact ⟨(x6_1), (wrap64 (x8_1 + 1)), (t264), (t265), (t266), vv, H', ⟨by have := HK1.out; omega⟩, ⟨by (with_reducible repeat (first | apply Kd.R_alloc | apply Kd.R_drewN | apply Kd.R_drew)); exact Kd.R_mono HO_6.out (fun _ hk => trivial)⟩, ⟨si28 HI243⟩, ⟨be HB⟩⟩
      ·rw [if_neg c11] at H
       exact absurd H (by simp)
     ·rw [if_neg c10] at H
      exact absurd H (by simp)
    ·rw [if_neg c9] at H
     have c9b0 : decide (x8_1 < (l1.length : Int)) = false := decide_eq_false c9
     clear c9
     simp only [Option.some.injEq, Prod.mk.injEq] at H
     obtain ⟨rfl, rfl⟩ := H
     go_wp2
     go_ret2
     exact ⟨_, by first | rfl | (simp [errW_none, errW_some] <;> rfl) | (simp [*, errW_none, errW_some] <;> rfl), by (with_reducible repeat (first | apply Kd.R_alloc | apply Kd.R_drewN | apply Kd.R_drew)); exact HO_6.out, be HB⟩
 ·rw [if_neg c4] at H
  have c4b0 : (t247 == 0) = false := beq_eq_false_iff_ne.mpr c4
  have c4b1 : (t247 != 0) = true := bne_iff_ne.mpr c4
  simp only [Option.some.injEq, Prod.mk.injEq] at H
  obtain ⟨rfl, rfl⟩ := H
  go_enter Try.func64, Try.ntmps64
  go_wp2_with (first | ((with_reducible refine gate_dst (N := 2) rfl ?_); refine bxe (N := 2) (cs := (csBay a0_0 a0_1 a0_2)) (t := 28) ?_; intro gb243 hg w35 hbox hb; have HI243 := am ((show IsS28 w w35 gb243 a0_0 a0_1 a0_2 from ⟨hbox, by rw [hg]; exact (below_size (be HB))⟩)); have GW243 := am (gN hg (below_size (be HB))); have GE243 := am (gN hg (below_size (be HB))); replace HB := am (below_step (be HB) hb); clear hb hbox hg) | ((with_reducible refine gate_dst (N := 9) rfl ?_); refine Kd.R_lit (Kd.int .i64) _ 2 ?hg (N := 9) ?hd (xs := ([] : List Int)) (inner := []) (ok := fun _ => True) (okp := fun _ => True) ?hr ?hp (fun _ hk => hk) trivial (Below.refl _ _) (Nat.le_refl _) (by simp) ?_; (case hd => rfl); (case hg => rfl); (case hr => first | (go_simp; done) | (go_simp; rfl)); (case hp => exact (Reps.none _ _)); intro v245 w36 ho37 hb hg_ hnew_; clear hg_ hnew_; (first | rw [← Ny244.out] at ho37 | (simp only [Int.reduceToNat] at ho37; rw [← Ny244.out] at ho37)); have HO246 := am (Kd.R_lower ho37 (below_size (be HB))); replace HI243 := am (IsS28.below (si28 HI243) hb); replace HB := am (below_step (be HB) hb); clear hb ho37) | ((with_reducible refine gate_callee (f := 117) rfl ?_); refine gL (some 11) Try.func117 #[.pointer (some ⟨gb243, 0, none⟩), .slice A1 l1.length c1] ?_; (with_reducible refine (spec_l01Asked.calls k gb243 a0_0 a0_1 a0_2 _ _ l1 t247 t248 t249 t250 w _ ?side1 ?side2 ?side3 ?side4 A3.out).mono ?_); (case side1 => exact si28 HI243); (case side2 => exact be HB); (case side3 => exact Kd.C_foot_came k38_heap HR1.out (be HB) (IsS28.ge HI243.out)); (case side4 => exact HC1.out); rintro e w38 ⟨rfl, hi, hb, hk⟩; refine ⟨_, rfl, ?_⟩; replace HO246 := am (Kd.R_mono (Kd.R_keep (IsS28.apart (show IsS28 w _ gb243 a0_0 a0_1 a0_2 from si28 HI243) (kr HO246) (by decide)) hk (fun _ h => h.2)) (fun _ h => h.1)); replace HB := am (hb); replace HI243 := am (hi); (try clear hb); (try clear hb2); (try clear hk); (try clear hi)))
  go_ret2
  exact ⟨_, by first | rfl | (simp [errW_none, errW_some] <;> rfl) | (simp [*, errW_none, errW_some] <;> rfl), by (with_reducible repeat (first | apply Kd.R_alloc | apply Kd.R_drewN | apply Kd.R_drew)); exact HO246.out, be HB⟩

/-! ### impl_ValidBay: function 27 -/
def impl_ValidBay.f (a0_0 : Int) (a0_1 : Int) (a0_2 : (Nat → Int)) : Option (Bool) := some (decide (Go.Proofs.Ytcollbifdfhfoaa.BayIn.okBay a0_0 a0_1 a0_2))
theorem impl_ValidBay.calls (a0_0 : Int) (a0_1 : Int) (a0_2 : (Nat → Int)) (r : Bool) (w : World) (h : impl_ValidBay.f a0_0 a0_1 a0_2 = some r) :
  Calls Try.prog 27 #[.agg (csBay a0_0 a0_1 a0_2)] w fun e w' => e = .returned (.bool r) ∧ Below w.heap.size w w' := by
 obtain rfl := Option.some.inj h
 exact Go.Proofs.Ytcollbifdfhfoaa.BayIn.validBay_calls _ _ _ w

/-! ### impl_depth: function 112 -/
def impl_depth.f (a0_0 : Int) (a0_1 : Int) (a0_2 : (Nat → Int)) (a1_0 : Int) (a1_1 : Int) : Option (Int) := if 0 ≤ a1_1 then (if a1_1 < 16 then (if 0 ≤ a1_0 then (if a1_0 < 16 then (some (wrap64 (a0_2 (16 * (a1_1 : Int).toNat + (a1_0 : Int).toNat)))) else (none)) else (none)) else (none)) else (none)
set_option maxHeartbeats 8000000 in
set_option maxRecDepth 100000 in
theorem impl_depth.calls (a0_0 : Int) (a0_1 : Int) (a0_2 : (Nat → Int)) (a1_0 : Int) (a1_1 : Int) (r : Int) (w : World) (h : impl_depth.f a0_0 a0_1 a0_2 a1_0 a1_1 = some r) :
  Calls Try.prog 112 #[.agg (csBay a0_0 a0_1 a0_2), .agg #[.int .i8 a1_0, .int .i8 a1_1]] w fun e w' => e = .returned (.int .i64 r) ∧ Below w.heap.size w w' := by
 have hu28 := Try.underlying28
 have hu36 := Try.underlying36
 have HB := am (Below.refl w.heap.size w)
 have H : (if 0 ≤ a1_1 then (if a1_1 < 16 then (if 0 ≤ a1_0 then (if a1_0 < 16 then (some (wrap64 (a0_2 (16 * (a1_1 : Int).toNat + (a1_0 : Int).toNat)))) else (none)) else (none)) else (none)) else (none)) = some r := h
 clear h
 by_cases c3 : 0 ≤ a1_1
 ·rw [if_pos c3] at H
  have c3b0 : decide (0 ≤ a1_1) = true := decide_eq_true c3
  have c3b1 : 0 ≤ a1_1 := c3
  clear c3
  by_cases c4 : a1_1 < 16
  ·rw [if_pos c4] at H
   have c4b0 : decide (a1_1 < 16) = true := decide_eq_true c4
   have c4b1 : a1_1 < 16 := c4
   clear c4
   by_cases c5 : 0 ≤ a1_0
   ·rw [if_pos c5] at H
    have c5b0 : decide (0 ≤ a1_0) = true := decide_eq_true c5
    have c5b1 : 0 ≤ a1_0 := c5
    clear c5
    by_cases c6 : a1_0 < 16
    ·rw [if_pos c6] at H
     have c6b0 : decide (a1_0 < 16) = true := decide_eq_true c6
     have c6b1 : a1_0 < 16 := c6
     clear c6
     obtain rfl := Option.some.inj H
     go_enter Try.func112, Try.ntmps112
     go_wp2_with (first | ((with_reducible refine gate_dst (N := 2) rfl ?_); refine bxe (N := 2) (cs := (csBay a0_0 a0_1 a0_2)) (t := 28) ?_; intro gb270 hg w7 hbox hb; have BK270 := am (hbox); have GW270 := am (gN hg (below_size (be HB))); have GE270 := am (gN hg (below_size (be HB))); replace HB := am (below_step (be HB) hb); clear hb hbox hg) | ((with_reducible refine gate_dst (N := 3) rfl ?_); refine bxe (N := 3) (cs := #[.int .i8 a1_0, .int .i8 a1_1]) (t := 36) ?_; intro gb271 hg w8 hbox hb; have BK271 := am (hbox); have GW271 := am (gN hg (below_size (be HB))); have GE271 := am (gN hg (below_size (be HB))); have NB270_271 := nL BK270 hg; have NB271_270 := nR BK270 hg; replace BK270 := bB BK270 hb; replace HB := am (below_step (be HB) hb); clear hb hbox hg; have hnb9 := NB271_270.out; have hnc9 := NB270_271.out; obtain ⟨hcz10_0, hcz10_1, hfz10_0, hfz10_1⟩ := bx2 BK271; obtain ⟨hcz11_0, hcz11_1, hwz11, haz11, hyz11, hvz11, hfz11_0, hfz11_1, hfz11_2⟩ := bb28 BK270))
     repeat (go_quiet (first | ((with_reducible refine gate_dst (N := 2) rfl ?_); refine bxe (N := 2) (cs := (csBay a0_0 a0_1 a0_2)) (t := 28) ?_; intro gb270 hg w7 hbox hb; have BK270 := am (hbox); have GW270 := am (gN hg (below_size (be HB))); have GE270 := am (gN hg (below_size (be HB))); replace HB := am (below_step (be HB) hb); clear hb hbox hg) | ((with_reducible refine gate_dst (N := 3) rfl ?_); refine bxe (N := 3) (cs := #[.int .i8 a1_0, .int .i8 a1_1]) (t := 36) ?_; intro gb271 hg w8 hbox hb; have BK271 := am (hbox); have GW271 := am (gN hg (below_size (be HB))); have GE271 := am (gN hg (below_size (be HB))); have NB270_271 := nL BK270 hg; have NB271_270 := nR BK270 hg; replace BK270 := bB BK270 hb; replace HB := am (below_step (be HB) hb); clear hb hbox hg; have hnb9 := NB271_270.out; have hnc9 := NB270_271.out; obtain ⟨hcz10_0, hcz10_1, hfz10_0, hfz10_1⟩ := bx2 BK271; obtain ⟨hcz11_0, hcz11_1, hwz11, haz11, hyz11, hvz11, hfz11_0, hfz11_1, hfz11_2⟩ := bb28 BK270)); try go_wp2_with (first | ((with_reducible refine gate_dst (N := 2) rfl ?_); refine bxe (N := 2) (cs := (csBay a0_0 a0_1 a0_2)) (t := 28) ?_; intro gb270 hg w7 hbox hb; have BK270 := am (hbox); have GW270 := am (gN hg (below_size (be HB))); have GE270 := am (gN hg (below_size (be HB))); replace HB := am (below_step (be HB) hb); clear hb hbox hg) | ((with_reducible refine gate_dst (N := 3) rfl ?_); refine bxe (N := 3) (cs := #[.int .i8 a1_0, .int .i8 a1_1]) (t := 36) ?_; intro gb271 hg w8 hbox hb; have BK271 := am (hbox); have GW271 := am (gN hg (below_size (be HB))); have GE271 := am (gN hg (below_size (be HB))); have NB270_271 := nL BK270 hg; have NB271_270 := nR BK270 hg; replace BK270 := bB BK270 hb; replace HB := am (below_step (be HB) hb); clear hb hbox hg; have hnb9 := NB271_270.out; have hnc9 := NB270_271.out; obtain ⟨hcz10_0, hcz10_1, hfz10_0, hfz10_1⟩ := bx2 BK271; obtain ⟨hcz11_0, hcz11_1, hwz11, haz11, hyz11, hvz11, hfz11_0, hfz11_1, hfz11_2⟩ := bb28 BK270)))
     go_ret
     exact ⟨by first | rfl | (simp [errW_none, errW_some] <;> rfl) | (simp [*, errW_none, errW_some] <;> rfl), be HB⟩
    ·rw [if_neg c6] at H
     exact absurd H (by simp)
   ·rw [if_neg c5] at H
    exact absurd H (by simp)
  ·rw [if_neg c4] at H
   exact absurd H (by simp)
 ·rw [if_neg c3] at H
  exact absurd H (by simp)

/-! ### impl_isPlace: function 178 -/
def impl_isPlace.f (a0_0 : Int) (a0_1 : Int) (a0_2 : (Nat → Int)) (a1_0 : Int) (a1_1 : Int) : Option (Bool) := if a1_0 ≥ 0 then (if a1_0 < a0_0 then (if a1_1 ≥ 0 then (some (decide (a1_1 < a0_1))) else (some false)) else (some false)) else (some false)
set_option maxHeartbeats 8000000 in
set_option maxRecDepth 100000 in
theorem impl_isPlace.calls (a0_0 : Int) (a0_1 : Int) (a0_2 : (Nat → Int)) (a1_0 : Int) (a1_1 : Int) (r : Bool) (w : World) (h : impl_isPlace.f a0_0 a0_1 a0_2 a1_0 a1_1 = some r) :
  Calls Try.prog 178 #[.agg (csBay a0_0 a0_1 a0_2), .agg #[.int .i8 a1_0, .int .i8 a1_1]] w fun e w' => e = .returned (.bool r) ∧ Below w.heap.size w w' := by
 have hu28 := Try.underlying28
 have hu36 := Try.underlying36
 have HB := am (Below.refl w.heap.size w)
 have H : (if a1_0 ≥ 0 then (if a1_0 < a0_0 then (if a1_1 ≥ 0 then (some (decide (a1_1 < a0_1))) else (some false)) else (some false)) else (some false)) = some r := h
 clear h
 by_cases c3 : a1_0 ≥ 0
 ·rw [if_pos c3] at H
  have c3b0 : decide (0 ≤ a1_0) = true := decide_eq_true c3
  have c3b1 : 0 ≤ a1_0 := c3
  clear c3
  by_cases c4 : a1_0 < a0_0
  ·rw [if_pos c4] at H
   have c4b0 : decide (a1_0 < a0_0) = true := decide_eq_true c4
   clear c4
   by_cases c5 : a1_1 ≥ 0
   ·rw [if_pos c5] at H
    have c5b0 : decide (0 ≤ a1_1) = true := decide_eq_true c5
    have c5b1 : 0 ≤ a1_1 := c5
    clear c5
    obtain rfl := Option.some.inj H
    go_enter Try.func178, Try.ntmps178
    go_wp2_with (first | ((with_reducible refine gate_dst (N := 2) rfl ?_); refine bxe (N := 2) (cs := (csBay a0_0 a0_1 a0_2)) (t := 28) ?_; intro gb272 hg w6 hbox hb; have BK272 := am (hbox); have GW272 := am (gN hg (below_size (be HB))); have GE272 := am (gN hg (below_size (be HB))); replace HB := am (below_step (be HB) hb); clear hb hbox hg) | ((with_reducible refine gate_dst (N := 3) rfl ?_); refine bxe (N := 3) (cs := #[.int .i8 a1_0, .int .i8 a1_1]) (t := 36) ?_; intro gb273 hg w7 hbox hb; have BK273 := am (hbox); have GW273 := am (gN hg (below_size (be HB))); have GE273 := am (gN hg (below_size (be HB))); have NB272_273 := nL BK272 hg; have NB273_272 := nR BK272 hg; replace BK272 := bB BK272 hb; replace HB := am (below_step (be HB) hb); clear hb hbox hg; have hnb8 := NB273_272.out; have hnc8 := NB272_273.out; obtain ⟨hcz9_0, hcz9_1, hfz9_0, hfz9_1⟩ := bx2 BK273; obtain ⟨hcz10_0, hcz10_1, hwz10, haz10, hyz10, hvz10, hfz10_0, hfz10_1, hfz10_2⟩ := bb28 BK272))
    go_ret
    exact ⟨by first | rfl | (simp [errW_none, errW_some] <;> rfl) | (simp [*, errW_none, errW_some] <;> rfl), be HB⟩
   ·rw [if_neg c5] at H
    have c5b0 : decide (0 ≤ a1_1) = false := decide_eq_false c5
    clear c5
    obtain rfl := Option.some.inj H
    go_enter Try.func178, Try.ntmps178
    go_wp2_with (first | ((with_reducible refine gate_dst (N := 2) rfl ?_); refine bxe (N := 2) (cs := (csBay a0_0 a0_1 a0_2)) (t := 28) ?_; intro gb272 hg w11 hbox hb; have BK272 := am (hbox); have GW272 := am (gN hg (below_size (be HB))); have GE272 := am (gN hg (below_size (be HB))); replace HB := am (below_step (be HB) hb); clear hb hbox hg) | ((with_reducible refine gate_dst (N := 3) rfl ?_); refine bxe (N := 3) (cs := #[.int .i8 a1_0, .int .i8 a1_1]) (t := 36) ?_; intro gb273 hg w12 hbox hb; have BK273 := am (hbox); have GW273 := am (gN hg (below_size (be HB))); have GE273 := am (gN hg (below_size (be HB))); have NB272_273 := nL BK272 hg; have NB273_272 := nR BK272 hg; replace BK272 := bB BK272 hb; replace HB := am (below_step (be HB) hb); clear hb hbox hg; have hnb13 := NB273_272.out; have hnc13 := NB272_273.out; obtain ⟨hcz14_0, hcz14_1, hfz14_0, hfz14_1⟩ := bx2 BK273; obtain ⟨hcz15_0, hcz15_1, hwz15, haz15, hyz15, hvz15, hfz15_0, hfz15_1, hfz15_2⟩ := bb28 BK272))
    go_ret
    exact ⟨by first | rfl | (simp [errW_none, errW_some] <;> rfl) | (simp [*, errW_none, errW_some] <;> rfl), be HB⟩
  ·rw [if_neg c4] at H
   have c4b0 : decide (a1_0 < a0_0) = false := decide_eq_false c4
   clear c4
   obtain rfl := Option.some.inj H
   go_enter Try.func178, Try.ntmps178
   go_wp2_with (first | ((with_reducible refine gate_dst (N := 2) rfl ?_); refine bxe (N := 2) (cs := (csBay a0_0 a0_1 a0_2)) (t := 28) ?_; intro gb272 hg w16 hbox hb; have BK272 := am (hbox); have GW272 := am (gN hg (below_size (be HB))); have GE272 := am (gN hg (below_size (be HB))); replace HB := am (below_step (be HB) hb); clear hb hbox hg) | ((with_reducible refine gate_dst (N := 3) rfl ?_); refine bxe (N := 3) (cs := #[.int .i8 a1_0, .int .i8 a1_1]) (t := 36) ?_; intro gb273 hg w17 hbox hb; have BK273 := am (hbox); have GW273 := am (gN hg (below_size (be HB))); have GE273 := am (gN hg (below_size (be HB))); have NB272_273 := nL BK272 hg; have NB273_272 := nR BK272 hg; replace BK272 := bB BK272 hb; replace HB := am (below_step (be HB) hb); clear hb hbox hg; have hnb18 := NB273_272.out; have hnc18 := NB272_273.out; obtain ⟨hcz19_0, hcz19_1, hfz19_0, hfz19_1⟩ := bx2 BK273; obtain ⟨hcz20_0, hcz20_1, hwz20, haz20, hyz20, hvz20, hfz20_0, hfz20_1, hfz20_2⟩ := bb28 BK272))
   go_ret
   exact ⟨by first | rfl | (simp [errW_none, errW_some] <;> rfl) | (simp [*, errW_none, errW_some] <;> rfl), be HB⟩
 ·rw [if_neg c3] at H
  have c3b0 : decide (0 ≤ a1_0) = false := decide_eq_false c3
  clear c3
  obtain rfl := Option.some.inj H
  go_enter Try.func178, Try.ntmps178
  go_wp2_with (first | ((with_reducible refine gate_dst (N := 2) rfl ?_); refine bxe (N := 2) (cs := (csBay a0_0 a0_1 a0_2)) (t := 28) ?_; intro gb272 hg w21 hbox hb; have BK272 := am (hbox); have GW272 := am (gN hg (below_size (be HB))); have GE272 := am (gN hg (below_size (be HB))); replace HB := am (below_step (be HB) hb); clear hb hbox hg) | ((with_reducible refine gate_dst (N := 3) rfl ?_); refine bxe (N := 3) (cs := #[.int .i8 a1_0, .int .i8 a1_1]) (t := 36) ?_; intro gb273 hg w22 hbox hb; have BK273 := am (hbox); have GW273 := am (gN hg (below_size (be HB))); have GE273 := am (gN hg (below_size (be HB))); have NB272_273 := nL BK272 hg; have NB273_272 := nR BK272 hg; replace BK272 := bB BK272 hb; replace HB := am (below_step (be HB) hb); clear hb hbox hg; have hnb23 := NB273_272.out; have hnc23 := NB272_273.out; obtain ⟨hcz24_0, hcz24_1, hfz24_0, hfz24_1⟩ := bx2 BK273))
  go_ret
  exact ⟨by first | rfl | (simp [errW_none, errW_some] <;> rfl) | (simp [*, errW_none, errW_some] <;> rfl), be HB⟩

/-! ### impl_isWater: function 167 -/
def impl_isWater.f (a0_0 : Int) (a0_1 : Int) (a0_2 : (Nat → Int)) (a1_0 : Int) (a1_1 : Int) : Option (Bool) := (impl_isPlace.f a0_0 a0_1 a0_2 a1_0 a1_1).bind fun t276 => (if t276 = true then ((impl_depth.f a0_0 a0_1 a0_2 a1_0 a1_1).bind fun t277 => (some (decide (t277 > 0)))) else (some false))
set_option maxHeartbeats 8000000 in
set_option maxRecDepth 100000 in
theorem impl_isWater.calls (a0_0 : Int) (a0_1 : Int) (a0_2 : (Nat → Int)) (a1_0 : Int) (a1_1 : Int) (r : Bool) (w : World) (h : impl_isWater.f a0_0 a0_1 a0_2 a1_0 a1_1 = some r) :
  Calls Try.prog 167 #[.agg (csBay a0_0 a0_1 a0_2), .agg #[.int .i8 a1_0, .int .i8 a1_1]] w fun e w' => e = .returned (.bool r) ∧ Below w.heap.size w w' := by
 have hu28 := Try.underlying28
 have hu36 := Try.underlying36
 have HB := am (Below.refl w.heap.size w)
 have H : ((impl_isPlace.f a0_0 a0_1 a0_2 a1_0 a1_1).bind fun t276 => (if t276 = true then ((impl_depth.f a0_0 a0_1 a0_2 a1_0 a1_1).bind fun t277 => (some (decide (t277 > 0)))) else (some false))) = some r := h
 clear h
 replace H := Option.bind_eq_some_iff.mp H
 obtain ⟨t276, A30, H⟩ := H
 try dsimp only at H
 have A3 := am A30
 clear A30
 by_cases c4 : t276 = true
 ·subst c4
  rw [if_pos rfl] at H
  replace H := Option.bind_eq_some_iff.mp H
  obtain ⟨t277, A50, H⟩ := H
  try dsimp only at H
  have A5 := am A50
  clear A50
  obtain rfl := Option.some.inj H
  go_enter Try.func167, Try.ntmps167
  go_wp2_with (first | ((with_reducible refine gate_dst (N := 2) rfl ?_); refine bxe (N := 2) (cs := (csBay a0_0 a0_1 a0_2)) (t := 28) ?_; intro gb274 hg w6 hbox hb; have BK274 := am (hbox); have GW274 := am (gN hg (below_size (be HB))); have GE274 := am (gN hg (below_size (be HB))); replace HB := am (below_step (be HB) hb); clear hb hbox hg) | ((with_reducible refine gate_dst (N := 3) rfl ?_); refine bxe (N := 3) (cs := #[.int .i8 a1_0, .int .i8 a1_1]) (t := 36) ?_; intro gb275 hg w7 hbox hb; have BK275 := am (hbox); have GW275 := am (gN hg (below_size (be HB))); have GE275 := am (gN hg (below_size (be HB))); have NB274_275 := nL BK274 hg; have NB275_274 := nR BK274 hg; replace BK274 := bB BK274 hb; replace HB := am (below_step (be HB) hb); clear hb hbox hg; have hnb8 := NB274_275.out; have hnc8 := NB275_274.out; obtain ⟨hcz9_0, hcz9_1, hwz9, haz9, hyz9, hvz9, hfz9_0, hfz9_1, hfz9_2⟩ := bb28 BK274; obtain ⟨hcz10_0, hcz10_1, hfz10_0, hfz10_1⟩ := bx2 BK275) | ((with_reducible refine gate_callee (f := 178) rfl ?_); refine gL (some 7) Try.func178 #[.agg (csBay a0_0 a0_1 a0_2), .agg #[.int .i8 a1_0, .int .i8 a1_1]] ?_; (with_reducible refine (impl_isPlace.calls a0_0 a0_1 a0_2 a1_0 a1_1 true _ A3.out).mono ?_); rintro e w11 ⟨rfl, hb⟩; refine ⟨_, rfl, ?_⟩; replace BK274 := bB BK274 hb; replace BK275 := bB BK275 hb; replace HB := am (below_step (be HB) hb); (try clear hb); (try clear hb2); (try clear hk); (try clear hi); obtain ⟨hcz12_0, hcz12_1, hwz12, haz12, hyz12, hvz12, hfz12_0, hfz12_1, hfz12_2⟩ := bb28 BK274; obtain ⟨hcz13_0, hcz13_1, hfz13_0, hfz13_1⟩ := bx2 BK275) | (go_at_call 112; (with_reducible refine (impl_depth.calls a0_0 a0_1 a0_2 a1_0 a1_1 t277 _ A5.out).mono ?_); rintro e w14 ⟨rfl, hb⟩; replace BK274 := bB BK274 hb; replace BK275 := bB BK275 hb; replace HB := am (below_step (be HB) hb); (try clear hb); (try clear hb2); (try clear hk); (try clear hi)))
  go_ret
  exact ⟨by first | rfl | (simp [errW_none, errW_some] <;> rfl) | (simp [*, errW_none, errW_some] <;> rfl), be HB⟩
 ·replace c4 := Bool.eq_false_iff.mpr c4
  subst c4
  have H1 : (some false) = some r := by rw [if_neg (show ¬ (false = true) by decide)] at H; exact H
  clear H
  have H := H1
  clear H1
  obtain rfl := Option.some.inj H
  go_enter Try.func167, Try.ntmps167
  go_wp2_with (first | ((with_reducible refine gate_dst (N := 2) rfl ?_); refine bxe (N := 2) (cs := (csBay a0_0 a0_1 a0_2)) (t := 28) ?_; intro gb274 hg w15 hbox hb; have BK274 := am (hbox); have GW274 := am (gN hg (below_size (be HB))); have GE274 := am (gN hg (below_size (be HB))); replace HB := am (below_step (be HB) hb); clear hb hbox hg) | ((with_reducible refine gate_dst (N := 3) rfl ?_); refine bxe (N := 3) (cs := #[.int .i8 a1_0, .int .i8 a1_1]) (t := 36) ?_; intro gb275 hg w16 hbox hb; have BK275 := am (hbox); have GW275 := am (gN hg (below_size (be HB))); have GE275 := am (gN hg (below_size (be HB))); have NB274_275 := nL BK274 hg; have NB275_274 := nR BK274 hg; replace BK274 := bB BK274 hb; replace HB := am (below_step (be HB) hb); clear hb hbox hg; have hnb17 := NB274_275.out; have hnc17 := NB275_274.out; obtain ⟨hcz18_0, hcz18_1, hwz18, haz18, hyz18, hvz18, hfz18_0, hfz18_1, hfz18_2⟩ := bb28 BK274; obtain ⟨hcz19_0, hcz19_1, hfz19_0, hfz19_1⟩ := bx2 BK275) | ((with_reducible refine gate_callee (f := 178) rfl ?_); refine gL (some 7) Try.func178 #[.agg (csBay a0_0 a0_1 a0_2), .agg #[.int .i8 a1_0, .int .i8 a1_1]] ?_; (with_reducible refine (impl_isPlace.calls a0_0 a0_1 a0_2 a1_0 a1_1 false _ A3.out).mono ?_); rintro e w20 ⟨rfl, hb⟩; refine ⟨_, rfl, ?_⟩; replace BK274 := bB BK274 hb; replace BK275 := bB BK275 hb; replace HB := am (below_step (be HB) hb); (try clear hb); (try clear hb2); (try clear hk); (try clear hi)))
  go_ret
  exact ⟨by first | rfl | (simp [errW_none, errW_some] <;> rfl) | (simp [*, errW_none, errW_some] <;> rfl), be HB⟩

/-! ### impl_isBoat: function 107 -/
def impl_isBoat.f (a0_0 : Int) (a0_1 : Int) (a0_2 : (Nat → Int)) (a1_0 : Int) (a1_1 : Int) (a1_2 : Int) (a1_3 : Int) (a1_4 : Int) (a1_5 : Int) : Option (Bool) := (impl_isWater.f a0_0 a0_1 a0_2 a1_0 a1_1).bind fun t280 => (if t280 = true then (if a1_2 ≥ 1 then (if a1_2 ≤ 60 then (if a1_3 ≥ 0 then (if a1_3 ≤ 5 then (if a1_4 ≥ 1 then (if a1_4 ≤ 30 then (if a1_5 ≥ 0 then (some (decide (a1_5 ≤ 9))) else (some false)) else (some false)) else (some false)) else (some false)) else (some false)) else (some false)) else (some false)) else (some false))
set_option maxHeartbeats 8000000 in
set_option maxRecDepth 100000 in
theorem impl_isBoat.calls (a0_0 : Int) (a0_1 : Int) (a0_2 : (Nat → Int)) (a1_0 : Int) (a1_1 : Int) (a1_2 : Int) (a1_3 : Int) (a1_4 : Int) (a1_5 : Int) (r : Bool) (w : World) (h : impl_isBoat.f a0_0 a0_1 a0_2 a1_0 a1_1 a1_2 a1_3 a1_4 a1_5 = some r) :
  Calls Try.prog 107 #[.agg (csBay a0_0 a0_1 a0_2), .agg #[.int .i8 a1_0, .int .i8 a1_1, .int .i8 a1_2, .int .i8 a1_3, .int .i8 a1_4, .int .i8 a1_5]] w fun e w' => e = .returned (.bool r) ∧ Below w.heap.size w w' := by
 have hu28 := Try.underlying28
 have hu38 := Try.underlying38
 have hu36 := Try.underlying36
 have HB := am (Below.refl w.heap.size w)
 have H : ((impl_isWater.f a0_0 a0_1 a0_2 a1_0 a1_1).bind fun t280 => (if t280 = true then (if a1_2 ≥ 1 then (if a1_2 ≤ 60 then (if a1_3 ≥ 0 then (if a1_3 ≤ 5 then (if a1_4 ≥ 1 then (if a1_4 ≤ 30 then (if a1_5 ≥ 0 then (some (decide (a1_5 ≤ 9))) else (some false)) else (some false)) else (some false)) else (some false)) else (some false)) else (some false)) else (some false)) else (some false))) = some r := h
 clear h
 replace H := Option.bind_eq_some_iff.mp H
 obtain ⟨t280, A30, H⟩ := H
 try dsimp only at H
 have A3 := am A30
 clear A30
 by_cases c4 : t280 = true
 ·subst c4
  rw [if_pos rfl] at H
  by_cases c5 : a1_2 ≥ 1
  ·rw [if_pos c5] at H
   have c5b0 : decide (1 ≤ a1_2) = true := decide_eq_true c5
   clear c5
   by_cases c6 : a1_2 ≤ 60
   ·rw [if_pos c6] at H
    have c6b0 : decide (a1_2 ≤ 60) = true := decide_eq_true c6
    clear c6
    by_cases c7 : a1_3 ≥ 0
    ·rw [if_pos c7] at H
     have c7b0 : decide (0 ≤ a1_3) = true := decide_eq_true c7
     have c7b1 : 0 ≤ a1_3 := c7
     clear c7
     by_cases c8 : a1_3 ≤ 5
     ·rw [if_pos c8] at H
      have c8b0 : decide (a1_3 ≤ 5) = true := decide_eq_true c8
      clear c8
      by_cases c9 : a1_4 ≥ 1
      ·rw [if_pos c9] at H
       have c9b0 : decide (1 ≤ a1_4) = true := decide_eq_true c9
       clear c9
       by_cases c10 : a1_4 ≤ 30
       ·rw [if_pos c10] at H
        have c10b0 : decide (a1_4 ≤ 30) = true := decide_eq_true c10
        clear c10
        by_cases c11 : a1_5 ≥ 0
        ·rw [if_pos c11] at H
         have c11b0 : decide (0 ≤ a1_5) = true := decide_eq_true c11
         have c11b1 : 0 ≤ a1_5 := c11
         clear c11
         obtain rfl := Option.some.inj H
         go_enter Try.func107, Try.ntmps107
         go_wp2_with (first | ((with_reducible refine gate_dst (N := 2) rfl ?_); refine bxe (N := 2) (cs := (csBay a0_0 a0_1 a0_2)) (t := 28) ?_; intro gb278 hg w12 hbox hb; have BK278 := am (hbox); have GW278 := am (gN hg (below_size (be HB))); have GE278 := am (gN hg (below_size (be HB))); replace HB := am (below_step (be HB) hb); clear hb hbox hg) | ((with_reducible refine gate_dst (N := 3) rfl ?_); refine bxe (N := 3) (cs := #[.int .i8 a1_0, .int .i8 a1_1, .int .i8 a1_2, .int .i8 a1_3, .int .i8 a1_4, .int .i8 a1_5]) (t := 38) ?_; intro gb279 hg w13 hbox hb; have BK279 := am (hbox); have GW279 := am (gN hg (below_size (be HB))); have GE279 := am (gN hg (below_size (be HB))); have NB278_279 := nL BK278 hg; have NB279_278 := nR BK278 hg; replace BK278 := bB BK278 hb; replace HB := am (below_step (be HB) hb); clear hb hbox hg; have hnb14 := NB278_279.out; have hnc14 := NB279_278.out; obtain ⟨hcz15_0, hcz15_1, hwz15, haz15, hyz15, hvz15, hfz15_0, hfz15_1, hfz15_2⟩ := bb28 BK278; obtain ⟨hcz16_0, hcz16_1, hcz16_2, hcz16_3, hcz16_4, hcz16_5, hfz16_0, hfz16_1, hfz16_2, hfz16_3, hfz16_4, hfz16_5⟩ := bx6 BK279) | ((with_reducible refine gate_callee (f := 167) rfl ?_); refine gL (some 8) Try.func167 #[.agg (csBay a0_0 a0_1 a0_2), .agg #[.int .i8 a1_0, .int .i8 a1_1]] ?_; (with_reducible refine (impl_isWater.calls a0_0 a0_1 a0_2 a1_0 a1_1 true _ A3.out).mono ?_); rintro e w17 ⟨rfl, hb⟩; refine ⟨_, rfl, ?_⟩; replace BK278 := bB BK278 hb; replace BK279 := bB BK279 hb; replace HB := am (below_step (be HB) hb); (try clear hb); (try clear hb2); (try clear hk); (try clear hi); obtain ⟨hcz18_0, hcz18_1, hcz18_2, hcz18_3, hcz18_4, hcz18_5, hfz18_0, hfz18_1, hfz18_2, hfz18_3, hfz18_4, hfz18_5⟩ := bx6 BK279))
         go_ret
         exact ⟨by first | rfl | (simp [errW_none, errW_some] <;> rfl) | (simp [*, errW_none, errW_some] <;> rfl), be HB⟩
        ·rw [if_neg c11] at H
         have c11b0 : decide (0 ≤ a1_5) = false := decide_eq_false c11
         clear c11
         obtain rfl := Option.some.inj H
         go_enter Try.func107, Try.ntmps107
         go_wp2_with (first | ((with_reducible refine gate_dst (N := 2) rfl ?_); refine bxe (N := 2) (cs := (csBay a0_0 a0_1 a0_2)) (t := 28) ?_; intro gb278 hg w19 hbox hb; have BK278 := am (hbox); have GW278 := am (gN hg (below_size (be HB))); have GE278 := am (gN hg (below_size (be HB))); replace HB := am (below_step (be HB) hb); clear hb hbox hg) | ((with_reducible refine gate_dst (N := 3) rfl ?_); refine bxe (N := 3) (cs := #[.int .i8 a1_0, .int .i8 a1_1, .int .i8 a1_2, .int .i8 a1_3, .int .i8 a1_4, .int .i8 a1_5]) (t := 38) ?_; intro gb279 hg w20 hbox hb; have BK279 := am (hbox); have GW279 := am (gN hg (below_size (be HB))); have GE279 := am (gN hg (below_size (be HB))); have NB278_279 := nL BK278 hg; have NB279_278 := nR BK278 hg; replace BK278 := bB BK278 hb; replace HB := am (below_step (be HB) hb); clear hb hbox hg; have hnb21 := NB278_279.out; have hnc21 := NB279_278.out; obtain ⟨hcz22_0, hcz22_1, hwz22, haz22, hyz22, hvz22, hfz22_0, hfz22_1, hfz22_2⟩ := bb28 BK278; obtain ⟨hcz23_0, hcz23_1, hcz23_2, hcz23_3, hcz23_4, hcz23_5, hfz23_0, hfz23_1, hfz23_2, hfz23_3, hfz23_4, hfz23_5⟩ := bx6 BK279) | ((with_reducible refine gate_callee (f := 167) rfl ?_); refine gL (some 8) Try.func167 #[.agg (csBay a0_0 a0_1 a0_2), .agg #[.int .i8 a1_0, .int .i8 a1_1]] ?_; (with_reducible refine (impl_isWater.calls a0_0 a0_1 a0_2 a1_0 a1_1 true _ A3.out).mono ?_); rintro e w24 ⟨rfl, hb⟩; refine ⟨_, rfl, ?_⟩; replace BK278 := bB BK278 hb; replace BK279 := bB BK279 hb; replace HB := am (below_step (be HB) hb); (try clear hb); (try clear hb2); (try clear hk); (try clear hi); obtain ⟨hcz25_0, hcz25_1, hcz25_2, hcz25_3, hcz25_4, hcz25_5, hfz25_0, hfz25_1, hfz25_2, hfz25_3, hfz25_4, hfz25_5⟩ := bx6 BK279))
         go_ret
         exact ⟨by first | rfl | (simp [errW_none, errW_some] <;> rfl) | (simp [*, errW_none, errW_some] <;> rfl), be HB⟩
       ·rw [if_neg c10] at H
        have c10b0 : decide (a1_4 ≤ 30) = false := decide_eq_false c10
        clear c10
        obtain rfl := Option.some.inj H
        go_enter Try.func107, Try.ntmps107
        go_wp2_with (first | ((with_reducible refine gate_dst (N := 2) rfl ?_); refine bxe (N := 2) (cs := (csBay a0_0 a0_1 a0_2)) (t := 28) ?_; intro gb278 hg w26 hbox hb; have BK278 := am (hbox); have GW278 := am (gN hg (below_size (be HB))); have GE278 := am (gN hg (below_size (be HB))); replace HB := am (below_step (be HB) hb); clear hb hbox hg) | ((with_reducible refine gate_dst (N := 3) rfl ?_); refine bxe (N := 3) (cs := #[.int .i8 a1_0, .int .i8 a1_1, .int .i8 a1_2, .int .i8 a1_3, .int .i8 a1_4, .int .i8 a1_5]) (t := 38) ?_; intro gb279 hg w27 hbox hb; have BK279 := am (hbox); have GW279 := am (gN hg (below_size (be HB))); have GE279 := am (gN hg (below_size (be HB))); have NB278_279 := nL BK278 hg; have NB279_278 := nR BK278 hg; replace BK278 := bB BK278 hb; replace HB := am (below_step (be HB) hb); clear hb hbox hg; have hnb28 := NB278_279.out; have hnc28 := NB279_278.out; obtain ⟨hcz29_0, hcz29_1, hwz29, haz29, hyz29, hvz29, hfz29_0, hfz29_1, hfz29_2⟩ := bb28 BK278; obtain ⟨hcz30_0, hcz30_1, hcz30_2, hcz30_3, hcz30_4, hcz30_5, hfz30_0, hfz30_1, hfz30_2, hfz30_3, hfz30_4, hfz30_5⟩ := bx6 BK279) | ((with_reducible refine gate_callee (f := 167) rfl ?_); refine gL (some 8) Try.func167 #[.agg (csBay a0_0 a0_1 a0_2), .agg #[.int .i8 a1_0, .int .i8 a1_1]] ?_; (with_reducible refine (impl_isWater.calls a0_0 a0_1 a0_2 a1_0 a1_1 true _ A3.out).mono ?_); rintro e w31 ⟨rfl, hb⟩; refine ⟨_, rfl, ?_⟩; replace BK278 := bB BK278 hb; replace BK279 := bB BK279 hb; replace HB := am (below_step (be HB) hb); (try clear hb); (try clear hb2); (try clear hk); (try clear hi); obtain ⟨hcz32_0, hcz32_1, hcz32_2, hcz32_3, hcz32_4, hcz32_5, hfz32_0, hfz32_1, hfz32_2, hfz32_3, hfz32_4, hfz32_5⟩ := bx6 BK279))
        go_ret
        exact ⟨by first | rfl | (simp [errW_none, errW_some] <;> rfl) | (simp [*, errW_none, errW_some] <;> rfl), be HB⟩
      ·rw [if_neg c9] at H
       have c9b0 : decide (1 ≤ a1_4) = false := decide_eq_false c9
       clear c9
       obtain rfl := Option.some.inj H
       go_enter Try.func107, Try.ntmps107
       go_wp2_with (first | ((with_reducible refine gate_dst (N := 2) rfl ?_); refine bxe (N := 2) (cs := (csBay a0_0 a0_1 a0_2)) (t := 28) ?_; intro gb278 hg w33 hbox hb; have BK278 := am (hbox); have GW278 := am (gN hg (below_size (be HB))); have GE278 := am (gN hg (below_size (be HB))); replace HB := am (below_step (be HB) hb); clear hb hbox hg) | ((with_reducible refine gate_dst (N := 3) rfl ?_); refine bxe (N := 3) (cs := #[.int .i8 a1_0, .int .i8 a1_1, .int .i8 a1_2, .int .i8 a1_3, .int .i8 a1_4, .int .i8 a1_5]) (t := 38) ?_; intro gb279 hg w34 hbox hb; have BK279 := am (hbox); have GW279 := am (gN hg (below_size (be HB))); have GE279 := am (gN hg (below_size (be HB))); have NB278_279 := nL BK278 hg; have NB279_278 := nR BK278 hg; replace BK278 := bB BK278 hb; replace HB := am (below_step (be HB) hb); clear hb hbox hg; have hnb35 := NB278_279.out; have hnc35 := NB279_278.out; obtain ⟨hcz36_0, hcz36_1, hwz36, haz36, hyz36, hvz36, hfz36_0, hfz36_1, hfz36_2⟩ := bb28 BK278; obtain ⟨hcz37_0, hcz37_1, hcz37_2, hcz37_3, hcz37_4, hcz37_5, hfz37_0, hfz37_1, hfz37_2, hfz37_3, hfz37_4, hfz37_5⟩ := bx6 BK279) | ((with_reducible refine gate_callee (f := 167) rfl ?_); refine gL (some 8) Try.func167 #[.agg (csBay a0_0 a0_1 a0_2), .agg #[.int .i8 a1_0, .int .i8 a1_1]] ?_; (with_reducible refine (impl_isWater.calls a0_0 a0_1 a0_2 a1_0 a1_1 true _ A3.out).mono ?_); rintro e w38 ⟨rfl, hb⟩; refine ⟨_, rfl, ?_⟩; replace BK278 := bB BK278 hb; replace BK279 := bB BK279 hb; replace HB := am (below_step (be HB) hb); (try clear hb); (try clear hb2); (try clear hk); (try clear hi); obtain ⟨hcz39_0, hcz39_1, hcz39_2, hcz39_3, hcz39_4, hcz39_5, hfz39_0, hfz39_1, hfz39_2, hfz39_3, hfz39_4, hfz39_5⟩ := bx6 BK279))
       go_ret
       exact ⟨by first | rfl | (simp [errW_none, errW_some] <;> rfl) | (simp [*, errW_none, errW_some] <;> rfl), be HB⟩
     ·rw [if_neg c8] at H
      have c8b0 : decide (a1_3 ≤ 5) = false := decide_eq_false c8
      clear c8
      obtain rfl := Option.some.inj H
      go_enter Try.func107, Try.ntmps107
      go_wp2_with (first | ((with_reducible refine gate_dst (N := 2) rfl ?_); refine bxe (N := 2) (cs := (csBay a0_0 a0_1 a0_2)) (t := 28) ?_; intro gb278 hg w40 hbox hb; have BK278 := am (hbox); have GW278 := am (gN hg (below_size (be HB))); have GE278 := am (gN hg (below_size (be HB))); replace HB := am (below_step (be HB) hb); clear hb hbox hg) | ((with_reducible refine gate_dst (N := 3) rfl ?_); refine bxe (N := 3) (cs := #[.int .i8 a1_0, .int .i8 a1_1, .int .i8 a1_2, .int .i8 a1_3, .int .i8 a1_4, .int .i8 a1_5]) (t := 38) ?_; intro gb279 hg w41 hbox hb; have BK279 := am (hbox); have GW279 := am (gN hg (below_size (be HB))); have GE279 := am (gN hg (below_size (be HB))); have NB278_279 := nL BK278 hg; have NB279_278 := nR BK278 hg; replace BK278 := bB BK278 hb; replace HB := am (below_step (be HB) hb); clear hb hbox hg; have hnb42 := NB278_279.out; have hnc42 := NB279_278.out; obtain ⟨hcz43_0, hcz43_1, hwz43, haz43, hyz43, hvz43, hfz43_0, hfz43_1, hfz43_2⟩ := bb28 BK278; obtain ⟨hcz44_0, hcz44_1, hcz44_2, hcz44_3, hcz44_4, hcz44_5, hfz44_0, hfz44_1, hfz44_2, hfz44_3, hfz44_4, hfz44_5⟩ := bx6 BK279) | ((with_reducible refine gate_callee (f := 167) rfl ?_); refine gL (some 8) Try.func167 #[.agg (csBay a0_0 a0_1 a0_2), .agg #[.int .i8 a1_0, .int .i8 a1_1]] ?_; (with_reducible refine (impl_isWater.calls a0_0 a0_1 a0_2 a1_0 a1_1 true _ A3.out).mono ?_); rintro e w45 ⟨rfl, hb⟩; refine ⟨_, rfl, ?_⟩; replace BK278 := bB BK278 hb; replace BK279 := bB BK279 hb; replace HB := am (below_step (be HB) hb); (try clear hb); (try clear hb2); (try clear hk); (try clear hi); obtain ⟨hcz46_0, hcz46_1, hcz46_2, hcz46_3, hcz46_4, hcz46_5, hfz46_0, hfz46_1, hfz46_2, hfz46_3, hfz46_4, hfz46_5⟩ := bx6 BK279))
      go_ret
      exact ⟨by first | rfl | (simp [errW_none, errW_some] <;> rfl) | (simp [*, errW_none, errW_some] <;> rfl), be HB⟩
    ·rw [if_neg c7] at H
     have c7b0 : decide (0 ≤ a1_3) = false := decide_eq_false c7
     clear c7
     obtain rfl := Option.some.inj H
     go_enter Try.func107, Try.ntmps107
     go_wp2_with (first | ((with_reducible refine gate_dst (N := 2) rfl ?_); refine bxe (N := 2) (cs := (csBay a0_0 a0_1 a0_2)) (t := 28) ?_; intro gb278 hg w47 hbox hb; have BK278 := am (hbox); have GW278 := am (gN hg (below_size (be HB))); have GE278 := am (gN hg (below_size (be HB))); replace HB := am (below_step (be HB) hb); clear hb hbox hg) | ((with_reducible refine gate_dst (N := 3) rfl ?_); refine bxe (N := 3) (cs := #[.int .i8 a1_0, .int .i8 a1_1, .int .i8 a1_2, .int .i8 a1_3, .int .i8 a1_4, .int .i8 a1_5]) (t := 38) ?_; intro gb279 hg w48 hbox hb; have BK279 := am (hbox); have GW279 := am (gN hg (below_size (be HB))); have GE279 := am (gN hg (below_size (be HB))); have NB278_279 := nL BK278 hg; have NB279_278 := nR BK278 hg; replace BK278 := bB BK278 hb; replace HB := am (below_step (be HB) hb); clear hb hbox hg; have hnb49 := NB278_279.out; have hnc49 := NB279_278.out; obtain ⟨hcz50_0, hcz50_1, hwz50, haz50, hyz50, hvz50, hfz50_0, hfz50_1, hfz50_2⟩ := bb28 BK278; obtain ⟨hcz51_0, hcz51_1, hcz51_2, hcz51_3, hcz51_4, hcz51_5, hfz51_0, hfz51_1, hfz51_2, hfz51_3, hfz51_4, hfz51_5⟩ := bx6 BK279) | ((with_reducible refine gate_callee (f := 167) rfl ?_); refine gL (some 8) Try.func167 #[.agg (csBay a0_0 a0_1 a0_2), .agg #[.int .i8 a1_0, .int .i8 a1_1]] ?_; (with_reducible refine (impl_isWater.calls a0_0 a0_1 a0_2 a1_0 a1_1 true _ A3.out).mono ?_); rintro e w52 ⟨rfl, hb⟩; refine ⟨_, rfl, ?_⟩; replace BK278 := bB BK278 hb; replace BK279 := bB BK279 hb; replace HB := am (below_step (be HB) hb); (try clear hb); (try clear hb2); (try clear hk); (try clear hi); obtain ⟨hcz53_0, hcz53_1, hcz53_2, hcz53_3, hcz53_4, hcz53_5, hfz53_0, hfz53_1, hfz53_2, hfz53_3, hfz53_4, hfz53_5⟩ := bx6 BK279))
     go_ret
     exact ⟨by first | rfl | (simp [errW_none, errW_some] <;> rfl) | (simp [*, errW_none, errW_some] <;> rfl), be HB⟩
   ·rw [if_neg c6] at H
    have c6b0 : decide (a1_2 ≤ 60) = false := decide_eq_false c6
    clear c6
    obtain rfl := Option.some.inj H
    go_enter Try.func107, Try.ntmps107
    go_wp2_with (first | ((with_reducible refine gate_dst (N := 2) rfl ?_); refine bxe (N := 2) (cs := (csBay a0_0 a0_1 a0_2)) (t := 28) ?_; intro gb278 hg w54 hbox hb; have BK278 := am (hbox); have GW278 := am (gN hg (below_size (be HB))); have GE278 := am (gN hg (below_size (be HB))); replace HB := am (below_step (be HB) hb); clear hb hbox hg) | ((with_reducible refine gate_dst (N := 3) rfl ?_); refine bxe (N := 3) (cs := #[.int .i8 a1_0, .int .i8 a1_1, .int .i8 a1_2, .int .i8 a1_3, .int .i8 a1_4, .int .i8 a1_5]) (t := 38) ?_; intro gb279 hg w55 hbox hb; have BK279 := am (hbox); have GW279 := am (gN hg (below_size (be HB))); have GE279 := am (gN hg (below_size (be HB))); have NB278_279 := nL BK278 hg; have NB279_278 := nR BK278 hg; replace BK278 := bB BK278 hb; replace HB := am (below_step (be HB) hb); clear hb hbox hg; have hnb56 := NB278_279.out; have hnc56 := NB279_278.out; obtain ⟨hcz57_0, hcz57_1, hwz57, haz57, hyz57, hvz57, hfz57_0, hfz57_1, hfz57_2⟩ := bb28 BK278; obtain ⟨hcz58_0, hcz58_1, hcz58_2, hcz58_3, hcz58_4, hcz58_5, hfz58_0, hfz58_1, hfz58_2, hfz58_3, hfz58_4, hfz58_5⟩ := bx6 BK279) | ((with_reducible refine gate_callee (f := 167) rfl ?_); refine gL (some 8) Try.func167 #[.agg (csBay a0_0 a0_1 a0_2), .agg #[.int .i8 a1_0, .int .i8 a1_1]] ?_; (with_reducible refine (impl_isWater.calls a0_0 a0_1 a0_2 a1_0 a1_1 true _ A3.out).mono ?_); rintro e w59 ⟨rfl, hb⟩; refine ⟨_, rfl, ?_⟩; replace BK278 := bB BK278 hb; replace BK279 := bB BK279 hb; replace HB := am (below_step (be HB) hb); (try clear hb); (try clear hb2); (try clear hk); (try clear hi); obtain ⟨hcz60_0, hcz60_1, hcz60_2, hcz60_3, hcz60_4, hcz60_5, hfz60_0, hfz60_1, hfz60_2, hfz60_3, hfz60_4, hfz60_5⟩ := bx6 BK279))
    go_ret
    exact ⟨by first | rfl | (simp [errW_none, errW_some] <;> rfl) | (simp [*, errW_none, errW_some] <;> rfl), be HB⟩
  ·rw [if_neg c5] at H
   have c5b0 : decide (1 ≤ a1_2) = false := decide_eq_false c5
   clear c5
   obtain rfl := Option.some.inj H
   go_enter Try.func107, Try.ntmps107
   go_wp2_with (first | ((with_reducible refine gate_dst (N := 2) rfl ?_); refine bxe (N := 2) (cs := (csBay a0_0 a0_1 a0_2)) (t := 28) ?_; intro gb278 hg w61 hbox hb; have BK278 := am (hbox); have GW278 := am (gN hg (below_size (be HB))); have GE278 := am (gN hg (below_size (be HB))); replace HB := am (below_step (be HB) hb); clear hb hbox hg) | ((with_reducible refine gate_dst (N := 3) rfl ?_); refine bxe (N := 3) (cs := #[.int .i8 a1_0, .int .i8 a1_1, .int .i8 a1_2, .int .i8 a1_3, .int .i8 a1_4, .int .i8 a1_5]) (t := 38) ?_; intro gb279 hg w62 hbox hb; have BK279 := am (hbox); have GW279 := am (gN hg (below_size (be HB))); have GE279 := am (gN hg (below_size (be HB))); have NB278_279 := nL BK278 hg; have NB279_278 := nR BK278 hg; replace BK278 := bB BK278 hb; replace HB := am (below_step (be HB) hb); clear hb hbox hg; have hnb63 := NB278_279.out; have hnc63 := NB279_278.out; obtain ⟨hcz64_0, hcz64_1, hwz64, haz64, hyz64, hvz64, hfz64_0, hfz64_1, hfz64_2⟩ := bb28 BK278; obtain ⟨hcz65_0, hcz65_1, hcz65_2, hcz65_3, hcz65_4, hcz65_5, hfz65_0, hfz65_1, hfz65_2, hfz65_3, hfz65_4, hfz65_5⟩ := bx6 BK279) | ((with_reducible refine gate_callee (f := 167) rfl ?_); refine gL (some 8) Try.func167 #[.agg (csBay a0_0 a0_1 a0_2), .agg #[.int .i8 a1_0, .int .i8 a1_1]] ?_; (with_reducible refine (impl_isWater.calls a0_0 a0_1 a0_2 a1_0 a1_1 true _ A3.out).mono ?_); rintro e w66 ⟨rfl, hb⟩; refine ⟨_, rfl, ?_⟩; replace BK278 := bB BK278 hb; replace BK279 := bB BK279 hb; replace HB := am (below_step (be HB) hb); (try clear hb); (try clear hb2); (try clear hk); (try clear hi); obtain ⟨hcz67_0, hcz67_1, hcz67_2, hcz67_3, hcz67_4, hcz67_5, hfz67_0, hfz67_1, hfz67_2, hfz67_3, hfz67_4, hfz67_5⟩ := bx6 BK279))
   go_ret
   exact ⟨by first | rfl | (simp [errW_none, errW_some] <;> rfl) | (simp [*, errW_none, errW_some] <;> rfl), be HB⟩
 ·replace c4 := Bool.eq_false_iff.mpr c4
  subst c4
  have H1 : (some false) = some r := by rw [if_neg (show ¬ (false = true) by decide)] at H; exact H
  clear H
  have H := H1
  clear H1
  obtain rfl := Option.some.inj H
  go_enter Try.func107, Try.ntmps107
  go_wp2_with (first | ((with_reducible refine gate_dst (N := 2) rfl ?_); refine bxe (N := 2) (cs := (csBay a0_0 a0_1 a0_2)) (t := 28) ?_; intro gb278 hg w68 hbox hb; have BK278 := am (hbox); have GW278 := am (gN hg (below_size (be HB))); have GE278 := am (gN hg (below_size (be HB))); replace HB := am (below_step (be HB) hb); clear hb hbox hg) | ((with_reducible refine gate_dst (N := 3) rfl ?_); refine bxe (N := 3) (cs := #[.int .i8 a1_0, .int .i8 a1_1, .int .i8 a1_2, .int .i8 a1_3, .int .i8 a1_4, .int .i8 a1_5]) (t := 38) ?_; intro gb279 hg w69 hbox hb; have BK279 := am (hbox); have GW279 := am (gN hg (below_size (be HB))); have GE279 := am (gN hg (below_size (be HB))); have NB278_279 := nL BK278 hg; have NB279_278 := nR BK278 hg; replace BK278 := bB BK278 hb; replace HB := am (below_step (be HB) hb); clear hb hbox hg; have hnb70 := NB278_279.out; have hnc70 := NB279_278.out; obtain ⟨hcz71_0, hcz71_1, hwz71, haz71, hyz71, hvz71, hfz71_0, hfz71_1, hfz71_2⟩ := bb28 BK278; obtain ⟨hcz72_0, hcz72_1, hcz72_2, hcz72_3, hcz72_4, hcz72_5, hfz72_0, hfz72_1, hfz72_2, hfz72_3, hfz72_4, hfz72_5⟩ := bx6 BK279) | ((with_reducible refine gate_callee (f := 167) rfl ?_); refine gL (some 8) Try.func167 #[.agg (csBay a0_0 a0_1 a0_2), .agg #[.int .i8 a1_0, .int .i8 a1_1]] ?_; (with_reducible refine (impl_isWater.calls a0_0 a0_1 a0_2 a1_0 a1_1 false _ A3.out).mono ?_); rintro e w73 ⟨rfl, hb⟩; refine ⟨_, rfl, ?_⟩; replace BK278 := bB BK278 hb; replace BK279 := bB BK279 hb; replace HB := am (below_step (be HB) hb); (try clear hb); (try clear hb2); (try clear hk); (try clear hi)))
  go_ret
  exact ⟨by first | rfl | (simp [errW_none, errW_some] <;> rfl) | (simp [*, errW_none, errW_some] <;> rfl), be HB⟩

/-! ### impl_boatsCode: function 125 -/
def impl_boatsCode.l0 : Nat → List (S38) → List (S38) → Int → Int → Int → Int → (Nat → Int) → Option (Int)
 | 0, _, _, _, _, _, _, _ => none
 | k + 1, x1, x10, x11, x12, x282000, x282001, x282002 => if x12 < x11 then (if 0 ≤ x12 then (if x12 < (x10.length : Int) then ((impl_isBoat.f x282000 x282001 x282002 ((rd_T38 x10 x12).f0.f0) ((rd_T38 x10 x12).f0.f1) ((rd_T38 x10 x12).f1) ((rd_T38 x10 x12).f2) ((rd_T38 x10 x12).f3) ((rd_T38 x10 x12).f4)).bind fun t285 => (if t285 = true then (impl_boatsCode.l0 k x1 x10 x11 (wrap64 (x12 + 1)) x282000 x282001 x282002) else (some 1))) else (none)) else (none)) else (if (x1.length : Int) > 10 then (some 3) else (some 0))
def impl_boatsCode.f (k : Nat) (a0_0 : Int) (a0_1 : Int) (a0_2 : (Nat → Int)) (l1 : List (S38)) : Option (Int) := (impl_ValidBay.f a0_0 a0_1 a0_2).bind fun t282 => (if t282 = true then (impl_boatsCode.l0 k l1 l1 (l1.length : Int) 0 a0_0 a0_1 a0_2) else (some 1))
set_option maxHeartbeats 8000000 in
set_option maxRecDepth 100000 in
theorem impl_boatsCode.calls (k : Nat) (a0_0 : Int) (a0_1 : Int) (a0_2 : (Nat → Int)) (A1 : Option Addr) (c1 : Nat) (l1 : List (S38)) (r : Int) (w : World) (hr1 : Kd.C k38 w A1 l1.length l1) (hc1 : l1.length ≤ c1) (h : impl_boatsCode.f k a0_0 a0_1 a0_2 l1 = some r) :
  Calls Try.prog 125 #[.agg (csBay a0_0 a0_1 a0_2), .slice A1 l1.length c1] w fun e w' => e = .returned (.int .i64 r) ∧ Below w.heap.size w w' := by
 have hu28 := Try.underlying28
 have hu38 := Try.underlying38
 have HR1 := am hr1
 have HC1 := am hc1
 clear hr1 hc1
 have HB := am (Below.refl w.heap.size w)
 have H : ((impl_ValidBay.f a0_0 a0_1 a0_2).bind fun t282 => (if t282 = true then (impl_boatsCode.l0 k l1 l1 (l1.length : Int) 0 a0_0 a0_1 a0_2) else (some 1))) = some r := h
 clear h
 replace H := Option.bind_eq_some_iff.mp H
 obtain ⟨t282, A30, H⟩ := H
 try dsimp only at H
 have A3 := am A30
 clear A30
 by_cases c4 : t282 = true
 ·subst c4
  rw [if_pos rfl] at H
  have H' := am H
  clear H
  go_enter Try.func125, Try.ntmps125
  go_wp2_with (first | ((with_reducible refine gate_dst (N := 2) rfl ?_); refine bxe (N := 2) (cs := (csBay a0_0 a0_1 a0_2)) (t := 28) ?_; intro gb281 hg w5 hbox hb; have BK281 := am (hbox); have GW281 := am (gN hg (below_size (be HB))); have GE281 := am (gN hg (below_size (be HB))); replace HB := am (below_step (be HB) hb); clear hb hbox hg; obtain ⟨hcz6_0, hcz6_1, hwz6, haz6, hyz6, hvz6, hfz6_0, hfz6_1, hfz6_2⟩ := bb28 BK281) | ((with_reducible refine gate_callee (f := 27) rfl ?_); refine gL (some 8) Try.func27 #[.agg (csBay a0_0 a0_1 a0_2)] ?_; (with_reducible refine (impl_ValidBay.calls a0_0 a0_1 a0_2 true _ A3.out).mono ?_); rintro e w7 ⟨rfl, hb⟩; refine ⟨_, rfl, ?_⟩; replace BK281 := bB BK281 hb; replace HB := am (below_step (be HB) hb); (try clear hb); (try clear hb2); (try clear hk); (try clear hi)))
  go_loopg [12] k (fun kq v12 w' => ∃ (x12_1 : Int), v12 = .int .i64 x12_1 ∧ Aside0 (impl_boatsCode.l0 kq l1 l1 (l1.length : Int) x12_1 a0_0 a0_1 a0_2 = some r) ∧ Aside0 (kq ≤ k) ∧ Aside0 (w'.heap[gb281]? = some (.cells (csBay a0_0 a0_1 a0_2) 28 (0, 0))) ∧ Aside0 (Below w.heap.size w w'))
  case atStart => exact ⟨(0), vv, H', ⟨Nat.le_refl _⟩, ⟨kb BK281⟩, ⟨be HB⟩⟩
  case round =>
   clear H'
   try clear c1
   try clear c2
   try clear p2
   try clear c4
   try clear hcz6_0
   try clear hcz6_1
   try clear hfz6_0
   try clear hfz6_1
   try clear hfz6_2
   obtain ⟨x12_1, rfl, HA, HK1, BK281, HB⟩ := hrel
   cases gk with
   | zero => exact absurd HA.out (by simp [impl_boatsCode.l0])
   | succ k1 =>
    have H := HA.out
    clear HA
    simp only [impl_boatsCode.l0] at H
    by_cases c8 : x12_1 < (l1.length : Int)
    ·rw [if_pos c8] at H
     have c8b0 : decide (x12_1 < (l1.length : Int)) = true := decide_eq_true c8
     clear c8
     by_cases c9 : 0 ≤ x12_1
     ·rw [if_pos c9] at H
      have c9b0 : decide (0 ≤ x12_1) = true := decide_eq_true c9
      have c9b1 : 0 ≤ x12_1 := c9
      clear c9
      by_cases c10 : x12_1 < (l1.length : Int)
      ·rw [if_pos c10] at H
       have c10b0 : decide (x12_1 < (l1.length : Int)) = true := decide_eq_true c10
       clear c10
       replace H := Option.bind_eq_some_iff.mp H
       obtain ⟨t285, A110, H⟩ := H
       try dsimp only at H
       have A11 := am A110
       clear A110
       by_cases c12 : t285 = true
       ·subst c12
        rw [if_pos rfl] at H
        have H' := am H
        clear H
        have p283 : 0 ≤ (x12_1 : Int) := of_decide_eq_true (by first | (with_reducible assumption) | assumption)
        have q283 : x12_1 < (l1.length : Int) := of_decide_eq_true (by first | (with_reducible assumption) | assumption)
        obtain ⟨ad283, e283, hx283_0, hx283_1, hx283_2, hx283_3, hx283_4, hx283_5⟩ := at_T38 HR1.out x12_1 p283 q283
        cases e283
        replace hx283_0 := (HB.out.cell (World.block_lt_of_cell? w _ hx283_0)).trans hx283_0
        replace hx283_1 := (HB.out.cell (World.block_lt_of_cell? w _ hx283_1)).trans hx283_1
        replace hx283_2 := (HB.out.cell (World.block_lt_of_cell? w _ hx283_2)).trans hx283_2
        replace hx283_3 := (HB.out.cell (World.block_lt_of_cell? w _ hx283_3)).trans hx283_3
        replace hx283_4 := (HB.out.cell (World.block_lt_of_cell? w _ hx283_4)).trans hx283_4
        replace hx283_5 := (HB.out.cell (World.block_lt_of_cell? w _ hx283_5)).trans hx283_5
        replace p283 := eq_true p283
        replace q283 := eq_true q283
        go_wp2_with (first | ((with_reducible refine gate_dst (N := 6) rfl ?_); refine bxe (N := 6) (cs := #[.int .i8 0, .int .i8 0, .int .i8 0, .int .i8 0, .int .i8 0, .int .i8 0]) (t := 38) ?_; intro gb284 hg w13 hbox hb; have BK284 := am (hbox); have GW284 := am (gN hg (below_size (be HB))); have GE284 := am (gN hg (below_size (be HB))); have NB281_284 := nL BK281 hg; have NB284_281 := nR BK281 hg; replace BK281 := bB BK281 hb; replace HB := am (below_step (be HB) hb); clear hb hbox hg; have hnb14 := NB284_281.out; have hnc14 := NB281_284.out; obtain ⟨hcz15_0, hcz15_1, hcz15_2, hcz15_3, hcz15_4, hcz15_5, hfz15_0, hfz15_1, hfz15_2, hfz15_3, hfz15_4, hfz15_5⟩ := bx6 BK284; obtain ⟨hcz16_0, hcz16_1, hwz16, haz16, hyz16, hvz16, hfz16_0, hfz16_1, hfz16_2⟩ := bb28 BK281) | ((with_reducible refine gate_callee (f := 107) rfl ?_); refine gL (some 18) Try.func107 #[.agg (csBay a0_0 a0_1 a0_2), .agg #[.int .i8 ((rd_T38 l1 x12_1).f0.f0), .int .i8 ((rd_T38 l1 x12_1).f0.f1), .int .i8 ((rd_T38 l1 x12_1).f1), .int .i8 ((rd_T38 l1 x12_1).f2), .int .i8 ((rd_T38 l1 x12_1).f3), .int .i8 ((rd_T38 l1 x12_1).f4)]] ?_; (with_reducible refine (impl_isBoat.calls a0_0 a0_1 a0_2 ((rd_T38 l1 x12_1).f0.f0) ((rd_T38 l1 x12_1).f0.f1) ((rd_T38 l1 x12_1).f1) ((rd_T38 l1 x12_1).f2) ((rd_T38 l1 x12_1).f3) ((rd_T38 l1 x12_1).f4) true _ A11.out).mono ?_); rintro e w17 ⟨rfl, hb⟩; refine ⟨_, rfl, ?_⟩; replace BK281 := am (blk_below (g := gb281) (o := .cells (csBay a0_0 a0_1 a0_2) 28 (0, 0)) (by (with_reducible repeat (first | refine blk_drewN ?_ _ | refine blk_drew ?_ | refine blk_alloc ?_ _)); refine blk_far ?_ NB281_284.out _; (with_reducible repeat (first | refine blk_drewN ?_ _ | refine blk_drew ?_ | refine blk_alloc ?_ _)); refine blk_far ?_ NB281_284.out _; (with_reducible repeat (first | refine blk_drewN ?_ _ | refine blk_drew ?_ | refine blk_alloc ?_ _)); refine blk_far ?_ NB281_284.out _; (with_reducible repeat (first | refine blk_drewN ?_ _ | refine blk_drew ?_ | refine blk_alloc ?_ _)); refine blk_far ?_ NB281_284.out _; (with_reducible repeat (first | refine blk_drewN ?_ _ | refine blk_drew ?_ | refine blk_alloc ?_ _)); refine blk_far ?_ NB281_284.out _; (with_reducible repeat (first | refine blk_drewN ?_ _ | refine blk_drew ?_ | refine blk_alloc ?_ _)); refine blk_far ?_ NB281_284.out _; exact kb BK281) hb); replace BK284 := am (blk_below (g := gb284) (o := .cells #[.int .i8 ((rd_T38 l1 x12_1).f0.f0), .int .i8 ((rd_T38 l1 x12_1).f0.f1), .int .i8 ((rd_T38 l1 x12_1).f1), .int .i8 ((rd_T38 l1 x12_1).f2), .int .i8 ((rd_T38 l1 x12_1).f3), .int .i8 ((rd_T38 l1 x12_1).f4)] 38 (0, 0)) (by (with_reducible repeat (first | refine blk_drewN ?_ _ | refine blk_drew ?_ | refine blk_alloc ?_ _)); refine blk_put (cs := #[.int .i8 ((rd_T38 l1 x12_1).f0.f0), .int .i8 ((rd_T38 l1 x12_1).f0.f1), .int .i8 ((rd_T38 l1 x12_1).f1), .int .i8 ((rd_T38 l1 x12_1).f2), .int .i8 ((rd_T38 l1 x12_1).f3), .int .i8 0]) ?_ 5 _ rfl; (with_reducible repeat (first | refine blk_drewN ?_ _ | refine blk_drew ?_ | refine blk_alloc ?_ _)); refine blk_put (cs := #[.int .i8 ((rd_T38 l1 x12_1).f0.f0), .int .i8 ((rd_T38 l1 x12_1).f0.f1), .int .i8 ((rd_T38 l1 x12_1).f1), .int .i8 ((rd_T38 l1 x12_1).f2), .int .i8 0, .int .i8 0]) ?_ 4 _ rfl; (with_reducible repeat (first | refine blk_drewN ?_ _ | refine blk_drew ?_ | refine blk_alloc ?_ _)); refine blk_put (cs := #[.int .i8 ((rd_T38 l1 x12_1).f0.f0), .int .i8 ((rd_T38 l1 x12_1).f0.f1), .int .i8 ((rd_T38 l1 x12_1).f1), .int .i8 0, .int .i8 0, .int .i8 0]) ?_ 3 _ rfl; (with_reducible repeat (first | refine blk_drewN ?_ _ | refine blk_drew ?_ | refine blk_alloc ?_ _)); refine blk_put (cs := #[.int .i8 ((rd_T38 l1 x12_1).f0.f0), .int .i8 ((rd_T38 l1 x12_1).f0.f1), .int .i8 0, .int .i8 0, .int .i8 0, .int .i8 0]) ?_ 2 _ rfl; (with_reducible repeat (first | refine blk_drewN ?_ _ | refine blk_drew ?_ | refine blk_alloc ?_ _)); refine blk_put (cs := #[.int .i8 ((rd_T38 l1 x12_1).f0.f0), .int .i8 0, .int .i8 0, .int .i8 0, .int .i8 0, .int .i8 0]) ?_ 1 _ rfl; (with_reducible repeat (first | refine blk_drewN ?_ _ | refine blk_drew ?_ | refine blk_alloc ?_ _)); refine blk_put (cs := #[.int .i8 0, .int .i8 0, .int .i8 0, .int .i8 0, .int .i8 0, .int .i8 0]) ?_ 0 _ rfl; exact kb BK284) hb); replace HB := am (below_step (be HB) hb); (try clear hb); (try clear hb2); (try clear hk); (try clear hi)))
        go_roundg k1
        case measure => have := HK1.out; omega
        case rel => exact ⟨(wrap64 (x12_1 + 1)), vv, H', ⟨by have := HK1.out; omega⟩, ⟨kb BK281⟩, ⟨be HB⟩⟩
       ·replace c12 := Bool.eq_false_iff.mpr c12
        subst c12
        have H1 : (some 1) = some r := by rw [if_neg (show ¬ (false = true) by decide)] at H; exact H
        clear H
        have H := H1
        clear H1
        obtain rfl := Option.some.inj H
        have p283 : 0 ≤ (x12_1 : Int) := of_decide_eq_true (by first | (with_reducible assumption) | assumption)
        have q283 : x12_1 < (l1.length : Int) := of_decide_eq_true (by first | (with_reducible assumption) | assumption)
        obtain ⟨ad283, e283, hx283_0, hx283_1, hx283_2, hx283_3, hx283_4, hx283_5⟩ := at_T38 HR1.out x12_1 p283 q283
        cases e283
        replace hx283_0 := (HB.out.cell (World.block_lt_of_cell? w _ hx283_0)).trans hx283_0
        replace hx283_1 := (HB.out.cell (World.block_lt_of_cell? w _ hx283_1)).trans hx283_1
        replace hx283_2 := (HB.out.cell (World.block_lt_of_cell? w _ hx283_2)).trans hx283_2
        replace hx283_3 := (HB.out.cell (World.block_lt_of_cell? w _ hx283_3)).trans hx283_3
        replace hx283_4 := (HB.out.cell (World.block_lt_of_cell? w _ hx283_4)).trans hx283_4
        replace hx283_5 := (HB.out.cell (World.block_lt_of_cell? w _ hx283_5)).trans hx283_5
        replace p283 := eq_true p283
        replace q283 := eq_true q283
        go_wp2_with (first | ((with_reducible refine gate_dst (N := 6) rfl ?_); refine bxe (N := 6) (cs := #[.int .i8 0, .int .i8 0, .int .i8 0, .int .i8 0, .int .i8 0, .int .i8 0]) (t := 38) ?_; intro gb284 hg w18 hbox hb; have BK284 := am (hbox); have GW284 := am (gN hg (below_size (be HB))); have GE284 := am (gN hg (below_size (be HB))); have NB281_284 := nL BK281 hg; have NB284_281 := nR BK281 hg; replace BK281 := bB BK281 hb; replace HB := am (below_step (be HB) hb); clear hb hbox hg; have hnb19 := NB284_281.out; have hnc19 := NB281_284.out; obtain ⟨hcz20_0, hcz20_1, hcz20_2, hcz20_3, hcz20_4, hcz20_5, hfz20_0, hfz20_1, hfz20_2, hfz20_3, hfz20_4, hfz20_5⟩ := bx6 BK284; obtain ⟨hcz21_0, hcz21_1, hwz21, haz21, hyz21, hvz21, hfz21_0, hfz21_1, hfz21_2⟩ := bb28 BK281) | ((with_reducible refine gate_callee (f := 107) rfl ?_); refine gL (some 18) Try.func107 #[.agg (csBay a0_0 a0_1 a0_2), .agg #[.int .i8 ((rd_T38 l1 x12_1).f0.f0), .int .i8 ((rd_T38 l1 x12_1).f0.f1), .int .i8 ((rd_T38 l1 x12_1).f1), .int .i8 ((rd_T38 l1 x12_1).f2), .int .i8 ((rd_T38 l1 x12_1).f3), .int .i8 ((rd_T38 l1 x12_1).f4)]] ?_; (with_reducible refine (impl_isBoat.calls a0_0 a0_1 a0_2 ((rd_T38 l1 x12_1).f0.f0) ((rd_T38 l1 x12_1).f0.f1) ((rd_T38 l1 x12_1).f1) ((rd_T38 l1 x12_1).f2) ((rd_T38 l1 x12_1).f3) ((rd_T38 l1 x12_1).f4) false _ A11.out).mono ?_); rintro e w22 ⟨rfl, hb⟩; refine ⟨_, rfl, ?_⟩; replace BK281 := am (blk_below (g := gb281) (o := .cells (csBay a0_0 a0_1 a0_2) 28 (0, 0)) (by (with_reducible repeat (first | refine blk_drewN ?_ _ | refine blk_drew ?_ | refine blk_alloc ?_ _)); refine blk_far ?_ NB281_284.out _; (with_reducible repeat (first | refine blk_drewN ?_ _ | refine blk_drew ?_ | refine blk_alloc ?_ _)); refine blk_far ?_ NB281_284.out _; (with_reducible repeat (first | refine blk_drewN ?_ _ | refine blk_drew ?_ | refine blk_alloc ?_ _)); refine blk_far ?_ NB281_284.out _; (with_reducible repeat (first | refine blk_drewN ?_ _ | refine blk_drew ?_ | refine blk_alloc ?_ _)); refine blk_far ?_ NB281_284.out _; (with_reducible repeat (first | refine blk_drewN ?_ _ | refine blk_drew ?_ | refine blk_alloc ?_ _)); refine blk_far ?_ NB281_284.out _; (with_reducible repeat (first | refine blk_drewN ?_ _ | refine blk_drew ?_ | refine blk_alloc ?_ _)); refine blk_far ?_ NB281_284.out _; exact kb BK281) hb); replace BK284 := am (blk_below (g := gb284) (o := .cells #[.int .i8 ((rd_T38 l1 x12_1).f0.f0), .int .i8 ((rd_T38 l1 x12_1).f0.f1), .int .i8 ((rd_T38 l1 x12_1).f1), .int .i8 ((rd_T38 l1 x12_1).f2), .int .i8 ((rd_T38 l1 x12_1).f3), .int .i8 ((rd_T38 l1 x12_1).f4)] 38 (0, 0)) (by (with_reducible repeat (first | refine blk_drewN ?_ _ | refine blk_drew ?_ | refine blk_alloc ?_ _)); refine blk_put (cs := #[.int .i8 ((rd_T38 l1 x12_1).f0.f0), .int .i8 ((rd_T38 l1 x12_1).f0.f1), .int .i8 ((rd_T38 l1 x12_1).f1), .int .i8 ((rd_T38 l1 x12_1).f2), .int .i8 ((rd_T38 l1 x12_1).f3), .int .i8 0]) ?_ 5 _ rfl; (with_reducible repeat (first | refine blk_drewN ?_ _ | refine blk_drew ?_ | refine blk_alloc ?_ _)); refine blk_put (cs := #[.int .i8 ((rd_T38 l1 x12_1).f0.f0), .int .i8 ((rd_T38 l1 x12_1).f0.f1), .int .i8 ((rd_T38 l1 x12_1).f1), .int .i8 ((rd_T38 l1 x12_1).f2), .int .i8 0, .int .i8 0]) ?_ 4 _ rfl; (with_reducible repeat (first | refine blk_drewN ?_ _ | refine blk_drew ?_ | refine blk_alloc ?_ _)); refine blk_put (cs := #[.int .i8 ((rd_T38 l1 x12_1).f0.f0), .int .i8 ((rd_T38 l1 x12_1).f0.f1), .int .i8 ((rd_T38 l1 x12_1).f1), .int .i8 0, .int .i8 0, .int .i8 0]) ?_ 3 _ rfl; (with_reducible repeat (first | refine blk_drewN ?_ _ | refine blk_drew ?_ | refine blk_alloc ?_ _)); refine blk_put (cs := #[.int .i8 ((rd_T38 l1 x12_1).f0.f0), .int .i8 ((rd_T38 l1 x12_1).f0.f1), .int .i8 0, .int .i8 0, .int .i8 0, .int .i8 0]) ?_ 2 _ rfl; (with_reducible repeat (first | refine blk_drewN ?_ _ | refine blk_drew ?_ | refine blk_alloc ?_ _)); refine blk_put (cs := #[.int .i8 ((rd_T38 l1 x12_1).f0.f0), .int .i8 0, .int .i8 0, .int .i8 0, .int .i8 0, .int .i8 0]) ?_ 1 _ rfl; (with_reducible repeat (first | refine blk_drewN ?_ _ | refine blk_drew ?_ | refine blk_alloc ?_ _)); refine blk_put (cs := #[.int .i8 0, .int .i8 0, .int .i8 0, .int .i8 0, .int .i8 0, .int .i8 0]) ?_ 0 _ rfl; exact kb BK284) hb); replace HB := am (below_step (be HB) hb); (try clear hb); (try clear hb2); (try clear hk); (try clear hi)))
        go_ret
        exact ⟨by first | rfl | (simp [errW_none, errW_some] <;> rfl) | (simp [*, errW_none, errW_some] <;> rfl), be HB⟩
      ·rw [if_neg c10] at H
       exact absurd H (by simp)
     ·rw [if_neg c9] at H
      exact absurd H (by simp)
    ·rw [if_neg c8] at H
     have c8b0 : decide (x12_1 < (l1.length : Int)) = false := decide_eq_false c8
     clear c8
     by_cases c23 : (l1.length : Int) > 10
     ·rw [if_pos c23] at H
      have c23b0 : decide (10 < (l1.length : Int)) = true := decide_eq_true c23
      have c23b1 : decide (10 < l1.length) = true := decide_eq_true (by omega)
      clear c23
      obtain rfl := Option.some.inj H
      go_wp2
      go_ret
      exact ⟨by first | rfl | (simp [errW_none, errW_some] <;> rfl) | (simp [*, errW_none, errW_some] <;> rfl), be HB⟩
     ·rw [if_neg c23] at H
      have c23b0 : decide (10 < (l1.length : Int)) = false := decide_eq_false c23
      have c23b1 : decide (10 < l1.length) = false := decide_eq_false (by omega)
      clear c23
      obtain rfl := Option.some.inj H
      go_wp2
      go_ret
      exact ⟨by first | rfl | (simp [errW_none, errW_some] <;> rfl) | (simp [*, errW_none, errW_some] <;> rfl), be HB⟩
 ·replace c4 := Bool.eq_false_iff.mpr c4
  subst c4
  have H1 : (some 1) = some r := by rw [if_neg (show ¬ (false = true) by decide)] at H; exact H
  clear H
  have H := H1
  clear H1
  obtain rfl := Option.some.inj H
  go_enter Try.func125, Try.ntmps125
  go_wp2_with (first | ((with_reducible refine gate_dst (N := 2) rfl ?_); refine bxe (N := 2) (cs := (csBay a0_0 a0_1 a0_2)) (t := 28) ?_; intro gb281 hg w24 hbox hb; have BK281 := am (hbox); have GW281 := am (gN hg (below_size (be HB))); have GE281 := am (gN hg (below_size (be HB))); replace HB := am (below_step (be HB) hb); clear hb hbox hg; obtain ⟨hcz25_0, hcz25_1, hwz25, haz25, hyz25, hvz25, hfz25_0, hfz25_1, hfz25_2⟩ := bb28 BK281) | ((with_reducible refine gate_callee (f := 27) rfl ?_); refine gL (some 8) Try.func27 #[.agg (csBay a0_0 a0_1 a0_2)] ?_; (with_reducible refine (impl_ValidBay.calls a0_0 a0_1 a0_2 false _ A3.out).mono ?_); rintro e w26 ⟨rfl, hb⟩; refine ⟨_, rfl, ?_⟩; replace BK281 := bB BK281 hb; replace HB := am (below_step (be HB) hb); (try clear hb); (try clear hb2); (try clear hk); (try clear hi)))
  go_ret
  exact ⟨by first | rfl | (simp [errW_none, errW_some] <;> rfl) | (simp [*, errW_none, errW_some] <;> rfl), be HB⟩

/-! ### impl_root: function 169 -/
def impl_root.l0 : Nat → Int → Int → Option (Int)
 | 0, _, _ => none
 | k + 1, x0, x3 => if (wrap64 ((wrap64 (x3 + 1)) * (wrap64 (x3 + 1)))) ≤ x0 then (impl_root.l0 k x0 (wrap64 (x3 + 1))) else (some x3)
def impl_root.f (k : Nat) (a0 : Int) : Option (Int) := impl_root.l0 k a0 0
set_option maxHeartbeats 8000000 in
set_option maxRecDepth 100000 in
theorem impl_root.calls (k : Nat) (a0 : Int) (r : Int) (w : World) (h : impl_root.f k a0 = some r) :
  Calls Try.prog 169 #[.int .i64 a0] w fun e w' => e = .returned (.int .i64 r) ∧ Drawn0 w w' := by
 have H : (impl_root.l0 k a0 0) = some r := h
 clear h
 have H' := am H
 clear H
 go_enter Try.func169, Try.ntmps169
 go_wp2
 go_loopg [3] k (fun kq v3 w' => ∃ (x3_1 : Int), v3 = .int .i64 x3_1 ∧ Aside0 (impl_root.l0 kq a0 x3_1 = some r) ∧ Aside0 (kq ≤ k) ∧ Drawn0 w w')
 case atStart => exact ⟨(0), vv, H', ⟨Nat.le_refl _⟩, by repeat (first | exact Drawn0.refl _ | apply Drawn0.step)⟩
 case round =>
  clear H'
  try clear c1
  obtain ⟨x3_1, rfl, HA, HK1, ⟨m1, rfl⟩⟩ := hrel
  cases gk with
  | zero => exact absurd HA.out (by simp [impl_root.l0])
  | succ k1 =>
   have H := HA.out
   clear HA
   simp only [impl_root.l0] at H
   by_cases c2 : (wrap64 ((wrap64 (x3_1 + 1)) * (wrap64 (x3_1 + 1)))) ≤ a0
   ·rw [if_pos c2] at H
    have c2b0 : decide ((wrap64 ((wrap64 (x3_1 + 1)) * (wrap64 (x3_1 + 1)))) ≤ a0) = true := decide_eq_true c2
    clear c2
    have H' := am H
    clear H
    go_wp2
    go_roundg k1
    case measure => have := HK1.out; omega
    case rel => exact ⟨(wrap64 (x3_1 + 1)), vv, H', ⟨by have := HK1.out; omega⟩, by repeat (first | exact Drawn0.refl _ | apply Drawn0.step)⟩
   ·rw [if_neg c2] at H
    have c2b0 : decide ((wrap64 ((wrap64 (x3_1 + 1)) * (wrap64 (x3_1 + 1)))) ≤ a0) = false := decide_eq_false c2
    clear c2
    obtain rfl := Option.some.inj H
    go_wp2
    go_ret
    exact ⟨by first | rfl | (simp; done) | (simp [*]; done), by repeat (first | exact Drawn0.refl _ | apply Drawn0.step)⟩

/-! ### impl_reachOf: function 116 -/
def impl_reachOf.f (k : Nat) (a0_0 : Int) (a0_1 : Int) (a0_2 : (Nat → Int)) (a1_0 : Int) (a1_1 : Int) (a1_2 : Int) (a1_3 : Int) (a1_4 : Int) (a1_5 : Int) : Option (Int) := (impl_depth.f a0_0 a0_1 a0_2 a1_0 a1_1).bind fun t288 => (if (wrap64 ((wrap64 ((wrap64 (a1_2)) * (wrap64 (a1_2)))) - (wrap64 (t288 * t288)))) < 0 then (some (-1)) else ((impl_root.f k (wrap64 ((wrap64 ((wrap64 (a1_2)) * (wrap64 (a1_2)))) - (wrap64 (t288 * t288))))).bind fun t289 => (some t289)))
set_option maxHeartbeats 8000000 in
set_option maxRecDepth 100000 in
theorem impl_reachOf.calls (k : Nat) (a0_0 : Int) (a0_1 : Int) (a0_2 : (Nat → Int)) (a1_0 : Int) (a1_1 : Int) (a1_2 : Int) (a1_3 : Int) (a1_4 : Int) (a1_5 : Int) (r : Int) (w : World) (h : impl_reachOf.f k a0_0 a0_1 a0_2 a1_0 a1_1 a1_2 a1_3 a1_4 a1_5 = some r) :
  Calls Try.prog 116 #[.agg (csBay a0_0 a0_1 a0_2), .agg #[.int .i8 a1_0, .int .i8 a1_1, .int .i8 a1_2, .int .i8 a1_3, .int .i8 a1_4, .int .i8 a1_5]] w fun e w' => e = .returned (.int .i64 r) ∧ Below w.heap.size w w' := by
 have hu28 := Try.underlying28
 have hu38 := Try.underlying38
 have hu36 := Try.underlying36
 have HB := am (Below.refl w.heap.size w)
 have H : ((impl_depth.f a0_0 a0_1 a0_2 a1_0 a1_1).bind fun t288 => (if (wrap64 ((wrap64 ((wrap64 (a1_2)) * (wrap64 (a1_2)))) - (wrap64 (t288 * t288)))) < 0 then (some (-1)) else ((impl_root.f k (wrap64 ((wrap64 ((wrap64 (a1_2)) * (wrap64 (a1_2)))) - (wrap64 (t288 * t288))))).bind fun t289 => (some t289)))) = some r := h
 clear h
 replace H := Option.bind_eq_some_iff.mp H
 obtain ⟨t288, A30, H⟩ := H
 try dsimp only at H
 have A3 := am A30
 clear A30
 by_cases c4 : (wrap64 ((wrap64 ((wrap64 (a1_2)) * (wrap64 (a1_2)))) - (wrap64 (t288 * t288)))) < 0
 ·rw [if_pos c4] at H
  have c4b0 : decide ((wrap64 ((wrap64 ((wrap64 (a1_2)) * (wrap64 (a1_2)))) - (wrap64 (t288 * t288)))) < 0) = true := decide_eq_true c4
  clear c4
  obtain rfl := Option.some.inj H
  go_enter Try.func116, Try.ntmps116
  go_wp2_with (first | ((with_reducible refine gate_dst (N := 2) rfl ?_); refine bxe (N := 2) (cs := (csBay a0_0 a0_1 a0_2)) (t := 28) ?_; intro gb286 hg w5 hbox hb; have BK286 := am (hbox); have GW286 := am (gN hg (below_size (be HB))); have GE286 := am (gN hg (below_size (be HB))); replace HB := am (below_step (be HB) hb); clear hb hbox hg) | ((with_reducible refine gate_dst (N := 3) rfl ?_); refine bxe (N := 3) (cs := #[.int .i8 a1_0, .int .i8 a1_1, .int .i8 a1_2, .int .i8 a1_3, .int .i8 a1_4, .int .i8 a1_5]) (t := 38) ?_; intro gb287 hg w6 hbox hb; have BK287 := am (hbox); have GW287 := am (gN hg (below_size (be HB))); have GE287 := am (gN hg (below_size (be HB))); have NB286_287 := nL BK286 hg; have NB287_286 := nR BK286 hg; replace BK286 := bB BK286 hb; replace HB := am (below_step (be HB) hb); clear hb hbox hg; have hnb7 := NB286_287.out; have hnc7 := NB287_286.out; obtain ⟨hcz8_0, hcz8_1, hwz8, haz8, hyz8, hvz8, hfz8_0, hfz8_1, hfz8_2⟩ := bb28 BK286; obtain ⟨hcz9_0, hcz9_1, hcz9_2, hcz9_3, hcz9_4, hcz9_5, hfz9_0, hfz9_1, hfz9_2, hfz9_3, hfz9_4, hfz9_5⟩ := bx6 BK287) | ((with_reducible refine gate_callee (f := 112) rfl ?_); refine gL (some 10) Try.func112 #[.agg (csBay a0_0 a0_1 a0_2), .agg #[.int .i8 a1_0, .int .i8 a1_1]] ?_; (with_reducible refine (impl_depth.calls a0_0 a0_1 a0_2 a1_0 a1_1 t288 _ A3.out).mono ?_); rintro e w10 ⟨rfl, hb⟩; refine ⟨_, rfl, ?_⟩; replace BK286 := bB BK286 hb; replace BK287 := bB BK287 hb; replace HB := am (below_step (be HB) hb); (try clear hb); (try clear hb2); (try clear hk); (try clear hi); obtain ⟨hcz11_0, hcz11_1, hcz11_2, hcz11_3, hcz11_4, hcz11_5, hfz11_0, hfz11_1, hfz11_2, hfz11_3, hfz11_4, hfz11_5⟩ := bx6 BK287))
  go_ret
  exact ⟨by first | rfl | (simp [errW_none, errW_some] <;> rfl) | (simp [*, errW_none, errW_some] <;> rfl), be HB⟩
 ·rw [if_neg c4] at H
  have c4b0 : decide ((wrap64 ((wrap64 ((wrap64 (a1_2)) * (wrap64 (a1_2)))) - (wrap64 (t288 * t288)))) < 0) = false := decide_eq_false c4
  clear c4
  replace H := Option.bind_eq_some_iff.mp H
  obtain ⟨t289, A120, H⟩ := H
  try dsimp only at H
  have A12 := am A120
  clear A120
  obtain rfl := Option.some.inj H
  go_enter Try.func116, Try.ntmps116
  go_wp2_with (first | ((with_reducible refine gate_dst (N := 2) rfl ?_); refine bxe (N := 2) (cs := (csBay a0_0 a0_1 a0_2)) (t := 28) ?_; intro gb286 hg w13 hbox hb; have BK286 := am (hbox); have GW286 := am (gN hg (below_size (be HB))); have GE286 := am (gN hg (below_size (be HB))); replace HB := am (below_step (be HB) hb); clear hb hbox hg) | ((with_reducible refine gate_dst (N := 3) rfl ?_); refine bxe (N := 3) (cs := #[.int .i8 a1_0, .int .i8 a1_1, .int .i8 a1_2, .int .i8 a1_3, .int .i8 a1_4, .int .i8 a1_5]) (t := 38) ?_; intro gb287 hg w14 hbox hb; have BK287 := am (hbox); have GW287 := am (gN hg (below_size (be HB))); have GE287 := am (gN hg (below_size (be HB))); have NB286_287 := nL BK286 hg; have NB287_286 := nR BK286 hg; replace BK286 := bB BK286 hb; replace HB := am (below_step (be HB) hb); clear hb hbox hg; have hnb15 := NB286_287.out; have hnc15 := NB287_286.out; obtain ⟨hcz16_0, hcz16_1, hwz16, haz16, hyz16, hvz16, hfz16_0, hfz16_1, hfz16_2⟩ := bb28 BK286; obtain ⟨hcz17_0, hcz17_1, hcz17_2, hcz17_3, hcz17_4, hcz17_5, hfz17_0, hfz17_1, hfz17_2, hfz17_3, hfz17_4, hfz17_5⟩ := bx6 BK287) | ((with_reducible refine gate_callee (f := 112) rfl ?_); refine gL (some 10) Try.func112 #[.agg (csBay a0_0 a0_1 a0_2), .agg #[.int .i8 a1_0, .int .i8 a1_1]] ?_; (with_reducible refine (impl_depth.calls a0_0 a0_1 a0_2 a1_0 a1_1 t288 _ A3.out).mono ?_); rintro e w18 ⟨rfl, hb⟩; refine ⟨_, rfl, ?_⟩; replace BK286 := bB BK286 hb; replace BK287 := bB BK287 hb; replace HB := am (below_step (be HB) hb); (try clear hb); (try clear hb2); (try clear hk); (try clear hi); obtain ⟨hcz19_0, hcz19_1, hcz19_2, hcz19_3, hcz19_4, hcz19_5, hfz19_0, hfz19_1, hfz19_2, hfz19_3, hfz19_4, hfz19_5⟩ := bx6 BK287) | ((with_reducible refine gate_callee (f := 169) rfl ?_); refine gL (some 25) Try.func169 #[.int .i64 (wrap64 ((wrap64 ((wrap64 (a1_2)) * (wrap64 (a1_2)))) - (wrap64 (t288 * t288))))] ?_; (with_reducible refine (impl_root.calls k (wrap64 ((wrap64 ((wrap64 (a1_2)) * (wrap64 (a1_2)))) - (wrap64 (t288 * t288)))) t289 _ A12.out).mono ?_); rintro e w' ⟨rfl, ⟨nd, rfl⟩⟩; refine ⟨_, rfl, ?_⟩))
  go_ret
  exact ⟨by first | rfl | (simp [errW_none, errW_some] <;> rfl) | (simp [*, errW_none, errW_some] <;> rfl), be HB⟩

/-! ### impl_swingOf: function 115 -/
def impl_swingOf.f (k : Nat) (a0_0 : Int) (a0_1 : Int) (a0_2 : (Nat → Int)) (a1_0 : Int) (a1_1 : Int) (a1_2 : Int) (a1_3 : Int) (a1_4 : Int) (a1_5 : Int) : Option (Int) := (impl_reachOf.f k a0_0 a0_1 a0_2 a1_0 a1_1 a1_2 a1_3 a1_4 a1_5).bind fun t292 => (some (wrap64 (t292 + (wrap64 (a1_3)))))
def impl_swingOf.T1 : Bool × List (List Nat × List Nat) := (true, [([], []), ([], []), ([0, 1], [0, 1]), ([], []), ([3], [3]), ([4], [4]), ([2, 5], [2, 5]), ([6, 2, 0, 1, 2, 3, 4, 5, 6], [6])])
def impl_swingOf.B1 : List Nat := [0, 0, 3, 0, 8, 24, 63, 127]
theorem impl_swingOf.tab1 : rtab .any (opsOf Try.f115 1) = impl_swingOf.T1 := by kernel_rfl
theorem impl_swingOf.bits1 : waitsOk impl_swingOf.T1.2 impl_swingOf.B1 = true := by kernel_rfl
set_option maxHeartbeats 8000000 in
set_option maxRecDepth 100000 in
theorem impl_swingOf.calls (k : Nat) (a0_0 : Int) (a0_1 : Int) (a0_2 : (Nat → Int)) (a1_0 : Int) (a1_1 : Int) (a1_2 : Int) (a1_3 : Int) (a1_4 : Int) (a1_5 : Int) (r : Int) (w : World) (h : impl_swingOf.f k a0_0 a0_1 a0_2 a1_0 a1_1 a1_2 a1_3 a1_4 a1_5 = some r) :
  Calls Try.prog 115 #[.agg (csBay a0_0 a0_1 a0_2), .agg #[.int .i8 a1_0, .int .i8 a1_1, .int .i8 a1_2, .int .i8 a1_3, .int .i8 a1_4, .int .i8 a1_5]] w fun e w' => e = .returned (.int .i64 r) ∧ Below w.heap.size w w' := by
 have hu28 := Try.underlying28
 have hu38 := Try.underlying38
 have HB := am (Below.refl w.heap.size w)
 have H : ((impl_reachOf.f k a0_0 a0_1 a0_2 a1_0 a1_1 a1_2 a1_3 a1_4 a1_5).bind fun t292 => (some (wrap64 (t292 + (wrap64 (a1_3)))))) = some r := h
 clear h
 replace H := Option.bind_eq_some_iff.mp H
 obtain ⟨t292, A30, H⟩ := H
 try dsimp only at H
 have A3 := am A30
 clear A30
 obtain rfl := Option.some.inj H
 go_enter Try.func115, Try.ntmps115
 try go_wp2_with (first | ((with_reducible refine gate_dst (N := 2) rfl ?_); refine bxe (N := 2) (cs := (csBay a0_0 a0_1 a0_2)) (t := 28) ?_; intro gb290 hg w4 hbox hb; have BK290 := am (hbox); have GW290 := am (gN hg (below_size (be HB))); have GE290 := am (gN hg (below_size (be HB))); replace HB := am (below_step (be HB) hb); clear hb hbox hg) | ((with_reducible refine gate_dst (N := 3) rfl ?_); refine bxe (N := 3) (cs := #[.int .i8 a1_0, .int .i8 a1_1, .int .i8 a1_2, .int .i8 a1_3, .int .i8 a1_4, .int .i8 a1_5]) (t := 38) ?_; intro gb291 hg w5 hbox hb; have BK291 := am (hbox); have GW291 := am (gN hg (below_size (be HB))); have GE291 := am (gN hg (below_size (be HB))); have NB290_291 := nL BK290 hg; have NB291_290 := nR BK290 hg; replace BK290 := bB BK290 hb; replace HB := am (below_step (be HB) hb); clear hb hbox hg))
 have n0_ := am (blk_drew BK290.out)
 have n1_ := am (blk_drew BK291.out)
 have n2_ := am (below_drew1 HB.out)
 clear BK290
 clear BK291
 clear HB
 have BK290 := n0_
 have BK291 := n1_
 have HB := n2_
 clear n0_ n1_ n2_
 refine start_ (n := 8) (S := fun w' => w'.cell? ⟨gb290, 0, none⟩ = some (.int .i8 a0_0) ∧ w'.cell? ⟨gb290, 1, none⟩ = some (.int .i8 a0_1) ∧ atCells w' gb290 a0_2 ∧ BayAt28 w' gb290 ∧ lvv w' gb290 = .agg (csBay a0_0 a0_1 a0_2) ∧ w'.cell? ⟨gb291, 0, none⟩ = some (.int .i8 a1_0) ∧ w'.cell? ⟨gb291, 1, none⟩ = some (.int .i8 a1_1) ∧ w'.cell? ⟨gb291, 2, none⟩ = some (.int .i8 a1_2) ∧ w'.cell? ⟨gb291, 3, none⟩ = some (.int .i8 a1_3) ∧ w'.cell? ⟨gb291, 4, none⟩ = some (.int .i8 a1_4) ∧ w'.cell? ⟨gb291, 5, none⟩ = some (.int .i8 a1_5)) (ds := []) #[false, false, false, false, false, false, false, false] (by kernel_rfl) rfl rfl ⟨(blk_cell BK290.out 0).trans rfl, (blk_cell BK290.out 1).trans rfl, at_cells BK290.out, BayAt28_of BK290.out, lvv_of BK290.out, (blk_cell BK291.out 0).trans rfl, (blk_cell BK291.out 1).trans rfl, (blk_cell BK291.out 2).trans rfl, (blk_cell BK291.out 3).trans rfl, (blk_cell BK291.out 4).trans rfl, (blk_cell BK291.out 5).trans rfl⟩ (fun hHeld => ?_); refine with_tabW impl_swingOf.tab1 impl_swingOf.bits1 (fun HT_ HW_ => ?_)
 generalize w5.drew = w6 at BK290 BK291 HB hHeld ⊢
 refine pS (i := 3) (some 8) #[false, false, false, true, false, false, false, false] (any_of HT_.out (by kernel_rfl)) ?_
 refine tS (i := 0) (some 5) #[true, false, false, true, false, false, false, false] (take_ofW HT_.out HW_.out (by kernel_rfl)) hHeld ?_
 refine tS (i := 1) (some 6) #[true, true, false, true, false, false, false, false] (take_ofW HT_.out HW_.out (by kernel_rfl)) hHeld ?_
 refine tS (i := 4) (some 9) #[true, true, false, true, true, false, false, false] (take_ofW HT_.out HW_.out (by kernel_rfl)) hHeld ?_
 refine pS (i := 5) (some 10) #[true, true, false, true, true, true, false, false] (any_of HT_.out (by kernel_rfl)) ?_
 refine one_ (i := 2) (N := some 7) #[true, true, true, true, true, true, false, false] rfl rfl (one_of HT_.out (by kernel_rfl)) (by decide) (fun K hK => ?_)
 refine goes_ Try.func116 (by kernel_rfl) rfl #[.agg (csBay a0_0 a0_1 a0_2), .agg #[.int .i8 a1_0, .int .i8 a1_1, .int .i8 a1_2, .int .i8 a1_3, .int .i8 a1_4, .int .i8 a1_5]] (by rfl) rfl rfl (by (try simp only [List.map_toArray, List.map_cons, List.map_nil]); first | done | rfl | (simp only [List.length_drop, List.length_take]; rfl)) ?_
 with_reducible refine (impl_reachOf.calls k a0_0 a0_1 a0_2 a1_0 a1_1 a1_2 a1_3 a1_4 a1_5 t292 _ A3.out).mono ?_
 rintro e w7 ⟨rfl, hb⟩
 refine ⟨_, rfl, ?_⟩
 have n0_ := bB BK290 hb
 have n1_ := bB BK291 hb
 have n2_ := am (below_step (be HB) hb)
 clear BK290
 clear BK291
 clear HB
 have BK290 := n0_
 have BK291 := n1_
 have HB := n2_
 clear n0_ n1_ n2_
 (try clear hb)
 (try clear hb2)
 (try clear hk)
 (try clear hi)
 refine hK.out _ _ ⟨(blk_cell BK290.out 0).trans rfl, (blk_cell BK290.out 1).trans rfl, at_cells BK290.out, BayAt28_of BK290.out, lvv_of BK290.out, (blk_cell BK291.out 0).trans rfl, (blk_cell BK291.out 1).trans rfl, (blk_cell BK291.out 2).trans rfl, (blk_cell BK291.out 3).trans rfl, (blk_cell BK291.out 4).trans rfl, (blk_cell BK291.out 5).trans rfl⟩ (fun hHeld => ?_)
 clear hK K
 refine norm_ (a' := ?_) ?_ ?_
 rotate_left
 ·show Act.put _ (some 7) _ = _
  simp only [Act.put, List.setIfInBounds_toArray, List.set_cons_zero, List.set_cons_succ, i64_w, i32_w]
  rfl
 refine pS (i := 6) (some 11) #[true, true, true, true, true, true, true, false] (any_of HT_.out (by kernel_rfl)) ?_
 refine pS (i := 7) (some 4) #[true, true, true, true, true, true, true, true] (any_of HT_.out (by kernel_rfl)) ?_
 refine done_ (done_of HT_.out (by kernel_rfl)) ?_
 try go_wp2
 go_ret
 exact ⟨by first | rfl | (simp [errW_none, errW_some] <;> rfl) | (simp [*, errW_none, errW_some] <;> rfl), be HB⟩

end Go.Proofs.Ytcollbifdfhfoaa.PFnExactGreedyBoats
