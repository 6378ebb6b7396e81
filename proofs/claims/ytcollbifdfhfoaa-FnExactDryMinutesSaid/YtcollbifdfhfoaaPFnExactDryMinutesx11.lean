-- Written by a program out of this seat's translation (functions, and that the code comes to them).
import Derived.Test.YtcollbifdfhfoaaPFnExactDryMinutesx0
import Derived.Test.YtcollbifdfhfoaaPFnExactDryMinutesx1
import Derived.Test.YtcollbifdfhfoaaPFnExactDryMinutesx5
import Derived.Test.YtcollbifdfhfoaaPFnExactDryMinutesx9
import Derived.Test.YtcollbifdfhfoaaPFnExactDryMinutesx10
namespace Go.Proofs.Ytcollbifdfhfoaa.PFnExactDryMinutes
open Go.RowKit Go.Proofs.YtcollbifdfhfoaaW.PrintWords Go.Proofs.YtcollbifdfhfoaaW.PrintLast Go.Proofs.YtcollbifdfhfoaaW.PrintMore
attribute [local go_sem] max2_int min2_int max_two min_two max_three min_three max_four min_four   -- for this text's walks alone
open Go.Proofs.Ytcollbifdfhfoaa.Bay Go.Proofs.Ytcollbifdfhfoaa.Short
attribute [local go_sem ↓] lv26_eq lv28_eq
attribute [local go_sem] lvv_set lvv_drewN lvv_drew lv26_run BayAt26_set BayAt26_drewN BayAt26_drew lv28_run BayAt28_set BayAt28_drewN BayAt28_drew
set_option linter.unusedVariables false
set_option linter.unusedSimpArgs false

/-! ### laws_FnExactDryMinutes: function 20 -/
def laws_FnExactDryMinutes.j0 : Nat → List (S145) → List (S103) → Bool → Option (Bool)
 | 0, _, _, _ => none
 | k + 1, x2, x10, x46 => if x46 = true then (some false) else ((laws_toWaterS.f k x2).bind fun t311 => ((laws_eqWaterS.f k x10 t311).bind fun t314 => (if t314 = true then (some true) else (some false))))
def laws_FnExactDryMinutes.f (k : Nat) (a0_0 : Int) (a0_1 : Int) (a0_2 : (Nat → Int)) (a1_0 : Int) (a1_1 : Int) (a1_2 : Int) (a1_3 : Int) (a1_4 : Int) (a1_5 : Int) (l2 : List (S145)) : Option (Bool) := (laws_szWaterS.f l2 1048576).bind fun t282 => (if t282 < 0 then (some true) else ((laws_toBay.f a0_0 a0_1 a0_2).bind fun bt283 => ((laws_toBoat.f a1_0 a1_1 a1_2 a1_3 a1_4 a1_5).bind fun bt286 => ((laws_toWaterS.f k l2).bind fun t292 => ((spec_DryMinutes.f k bt283.1 bt283.2.1 bt283.2.2 bt286.1 bt286.2.1 bt286.2.2.1 bt286.2.2.2.1 bt286.2.2.2.2.1 bt286.2.2.2.2.2 t292).bind fun bt295 => ((laws_toWaterS.f k l2).bind fun t297 => ((laws_toBay.f a0_0 a0_1 a0_2).bind fun bt300 => ((laws_toBoat.f a1_0 a1_1 a1_2 a1_3 a1_4 a1_5).bind fun bt303 => ((impl_DryMinutes.f k bt300.1 bt300.2.1 bt300.2.2 bt303.1 bt303.2.1 bt303.2.2.1 bt303.2.2.2.1 bt303.2.2.2.2.1 bt303.2.2.2.2.2 t297).bind fun bt309 => (if bt309.1 = bt295.1 then (laws_FnExactDryMinutes.j0 k l2 t297 (bt309.2 != bt295.2)) else (laws_FnExactDryMinutes.j0 k l2 t297 true)))))))))))
def laws_FnExactDryMinutes.T5 : Bool × List (List Nat × List Nat) := (true, [([], []), ([0], [0]), ([], []), ([2, 1], [2]), ([], []), ([4, 3], [4]), ([1, 3, 5, 5], [1, 3, 5]), ([6], [6]), ([7], [7]), ([7], [7]), ([8, 6, 0, 1, 2, 3, 4, 5, 6, 7, 8], [8]), ([9, 10, 0, 1, 2, 3, 4, 5, 6, 7, 8, 9, 10], [9])])
def laws_FnExactDryMinutes.B5 : List Nat := [0, 1, 0, 7, 0, 31, 63, 127, 255, 255, 511, 2047]
theorem laws_FnExactDryMinutes.tab5 : rtab .any (opsOf Try.f20 5) = laws_FnExactDryMinutes.T5 := by kernel_rfl
theorem laws_FnExactDryMinutes.bits5 : waitsOk laws_FnExactDryMinutes.T5.2 laws_FnExactDryMinutes.B5 = true := by kernel_rfl
def laws_FnExactDryMinutes.T7 : Bool × List (List Nat × List Nat) := (true, [([], []), ([0], [0]), ([], []), ([2, 1], [2]), ([], []), ([1, 3, 4, 3], [1, 3, 4]), ([5], [5]), ([6], [6]), ([6], [6]), ([7, 5, 0, 1, 2, 3, 4, 5, 6, 7], [7]), ([8, 9, 0, 1, 2, 3, 4, 5, 6, 7, 8, 9], [8])])
def laws_FnExactDryMinutes.B7 : List Nat := [0, 1, 0, 7, 0, 31, 63, 127, 127, 255, 1023]
theorem laws_FnExactDryMinutes.tab7 : rtab .any (opsOf Try.f20 7) = laws_FnExactDryMinutes.T7 := by kernel_rfl
theorem laws_FnExactDryMinutes.bits7 : waitsOk laws_FnExactDryMinutes.T7.2 laws_FnExactDryMinutes.B7 = true := by kernel_rfl
set_option maxHeartbeats 8000000 in
set_option maxRecDepth 100000 in
theorem laws_FnExactDryMinutes.calls (k : Nat) (a0_0 : Int) (a0_1 : Int) (a0_2 : (Nat → Int)) (a1_0 : Int) (a1_1 : Int) (a1_2 : Int) (a1_3 : Int) (a1_4 : Int) (a1_5 : Int) (A2 : Option Addr) (c2 : Nat) (l2 : List (S145)) (r : Bool) (w : World) (hr2 : Kd.C k145 w A2 l2.length l2) (hc2 : l2.length ≤ c2) (h : laws_FnExactDryMinutes.f k a0_0 a0_1 a0_2 a1_0 a1_1 a1_2 a1_3 a1_4 a1_5 l2 = some r) :
  Calls Try.prog 20 #[.agg (csBay a0_0 a0_1 a0_2), .agg #[.int .i8 a1_0, .int .i8 a1_1, .int .i8 a1_2, .int .i8 a1_3, .int .i8 a1_4, .int .i8 a1_5], .slice A2 l2.length c2] w fun e w' => e = .returned (.bool r) ∧ Below w.heap.size w w' := by
 have hu26 := Try.underlying26
 have hu34 := Try.underlying34
 have HR2 := am hr2
 have HC2 := am hc2
 clear hr2 hc2
 have HB := am (Below.refl w.heap.size w)
 have H : ((laws_szWaterS.f l2 1048576).bind fun t282 => (if t282 < 0 then (some true) else ((laws_toBay.f a0_0 a0_1 a0_2).bind fun bt283 => ((laws_toBoat.f a1_0 a1_1 a1_2 a1_3 a1_4 a1_5).bind fun bt286 => ((laws_toWaterS.f k l2).bind fun t292 => ((spec_DryMinutes.f k bt283.1 bt283.2.1 bt283.2.2 bt286.1 bt286.2.1 bt286.2.2.1 bt286.2.2.2.1 bt286.2.2.2.2.1 bt286.2.2.2.2.2 t292).bind fun bt295 => ((laws_toWaterS.f k l2).bind fun t297 => ((laws_toBay.f a0_0 a0_1 a0_2).bind fun bt300 => ((laws_toBoat.f a1_0 a1_1 a1_2 a1_3 a1_4 a1_5).bind fun bt303 => ((impl_DryMinutes.f k bt300.1 bt300.2.1 bt300.2.2 bt303.1 bt303.2.1 bt303.2.2.1 bt303.2.2.2.1 bt303.2.2.2.2.1 bt303.2.2.2.2.2 t297).bind fun bt309 => (if bt309.1 = bt295.1 then (laws_FnExactDryMinutes.j0 k l2 t297 (bt309.2 != bt295.2)) else (laws_FnExactDryMinutes.j0 k l2 t297 true)))))))))))) = some r := h
 clear h
 replace H := Option.bind_eq_some_iff.mp H
 obtain ⟨t282, A40, H⟩ := H
 try dsimp only at H
 have A4 := am A40
 clear A40
 by_cases c5 : t282 < 0
 ·rw [if_pos c5] at H
  have c5b0 : decide (t282 < 0) = true := decide_eq_true c5
  clear c5
  obtain rfl := Option.some.inj H
  go_enter Try.func20, Try.ntmps20
  go_wp2_with (first | ((with_reducible refine gate_dst (N := 3) rfl ?_); refine bxe (N := 3) (cs := (csBay a0_0 a0_1 a0_2)) (t := 26) ?_; intro gb280 hg w6 hbox hb; have BK280 := am (hbox); have GW280 := am (gN hg (below_size (be HB))); have GE280 := am (gN hg (below_size (be HB))); replace HB := am (below_step (be HB) hb); clear hb hbox hg) | ((with_reducible refine gate_dst (N := 4) rfl ?_); refine bxe (N := 4) (cs := #[.int .i8 a1_0, .int .i8 a1_1, .int .i8 a1_2, .int .i8 a1_3, .int .i8 a1_4, .int .i8 a1_5]) (t := 34) ?_; intro gb281 hg w7 hbox hb; have BK281 := am (hbox); have GW281 := am (gN hg (below_size (be HB))); have GE281 := am (gN hg (below_size (be HB))); have NB280_281 := nL BK280 hg; have NB281_280 := nR BK280 hg; replace BK280 := bB BK280 hb; replace HB := am (below_step (be HB) hb); clear hb hbox hg) | ((with_reducible refine gate_callee (f := 82) rfl ?_); refine gL (some 15) Try.func82 #[.slice A2 l2.length c2, .int .i64 1048576] ?_; (with_reducible refine (laws_szWaterS.calls _ _ l2 1048576 t282 _ ?side1 ?side2 A4.out).mono ?_); (case side1 => repeat (first | exact (Kd.C_below HR2.out HB.out) | (with_reducible refine Kd.C_alloc ?_ _) | (with_reducible refine Kd.C_drewN ?_ _) | (with_reducible refine Kd.C_drew ?_))); (case side2 => exact HC2.out); rintro e w' ⟨rfl, ⟨nd, rfl⟩⟩; refine ⟨_, rfl, ?_⟩))
  go_ret
  exact ⟨by first | rfl | (simp [errW_none, errW_some] <;> rfl) | (simp [*, errW_none, errW_some] <;> rfl), be HB⟩
 ·rw [if_neg c5] at H
  have c5b0 : decide (t282 < 0) = false := decide_eq_false c5
  clear c5
  replace H := Option.bind_eq_some_iff.mp H
  obtain ⟨⟨t283, t284, t285⟩, A80, H⟩ := H
  try dsimp only at H
  have A8 := am A80
  clear A80
  replace H := Option.bind_eq_some_iff.mp H
  obtain ⟨⟨t286, t287, t288, t289, t290, t291⟩, A90, H⟩ := H
  try dsimp only at H
  have A9 := am A90
  clear A90
  replace H := Option.bind_eq_some_iff.mp H
  obtain ⟨t292, A100, H⟩ := H
  try dsimp only at H
  have A10 := am A100
  clear A100
  replace H := Option.bind_eq_some_iff.mp H
  obtain ⟨⟨t295, t296⟩, A110, H⟩ := H
  try dsimp only at H
  have A11 := am A110
  clear A110
  replace H := Option.bind_eq_some_iff.mp H
  obtain ⟨t297, A120, H⟩ := H
  try dsimp only at H
  have A12 := am A120
  clear A120
  replace H := Option.bind_eq_some_iff.mp H
  obtain ⟨⟨t300, t301, t302⟩, A130, H⟩ := H
  try dsimp only at H
  have A13 := am A130
  clear A130
  replace H := Option.bind_eq_some_iff.mp H
  obtain ⟨⟨t303, t304, t305, t306, t307, t308⟩, A140, H⟩ := H
  try dsimp only at H
  have A14 := am A140
  clear A140
  replace H := Option.bind_eq_some_iff.mp H
  obtain ⟨⟨t309, t310⟩, A150, H⟩ := H
  try dsimp only at H
  have A15 := am A150
  clear A150
  have HC16 := am H
  clear H
  go_enter Try.func20, Try.ntmps20
  try go_wp2_with (first | ((with_reducible refine gate_dst (N := 3) rfl ?_); refine bxe (N := 3) (cs := (csBay a0_0 a0_1 a0_2)) (t := 26) ?_; intro gb280 hg w17 hbox hb; have BK280 := am (hbox); have GW280 := am (gN hg (below_size (be HB))); have GE280 := am (gN hg (below_size (be HB))); replace HB := am (below_step (be HB) hb); clear hb hbox hg) | ((with_reducible refine gate_dst (N := 4) rfl ?_); refine bxe (N := 4) (cs := #[.int .i8 a1_0, .int .i8 a1_1, .int .i8 a1_2, .int .i8 a1_3, .int .i8 a1_4, .int .i8 a1_5]) (t := 34) ?_; intro gb281 hg w18 hbox hb; have BK281 := am (hbox); have GW281 := am (gN hg (below_size (be HB))); have GE281 := am (gN hg (below_size (be HB))); have NB280_281 := nL BK280 hg; have NB281_280 := nR BK280 hg; replace BK280 := bB BK280 hb; replace HB := am (below_step (be HB) hb); clear hb hbox hg) | ((with_reducible refine gate_callee (f := 82) rfl ?_); refine gL (some 15) Try.func82 #[.slice A2 l2.length c2, .int .i64 1048576] ?_; (with_reducible refine (laws_szWaterS.calls _ _ l2 1048576 t282 _ ?side1 ?side2 A4.out).mono ?_); (case side1 => repeat (first | exact (Kd.C_below HR2.out HB.out) | (with_reducible refine Kd.C_alloc ?_ _) | (with_reducible refine Kd.C_drewN ?_ _) | (with_reducible refine Kd.C_drew ?_))); (case side2 => exact HC2.out); rintro e w' ⟨rfl, ⟨nd, rfl⟩⟩; refine ⟨_, rfl, ?_⟩))
  (try (rw [drewN_self w18]; generalize hq_ : World.drewN w18 _ = w18; have n0_ : Aside0 (w18.heap[gb280]? = some (.cells (csBay a0_0 a0_1 a0_2) 26 (0, 0))) := ⟨by rw [← hq_]; exact (kb BK280)⟩; have n1_ : Aside0 (w18.heap[gb281]? = some (.cells #[.int .i8 a1_0, .int .i8 a1_1, .int .i8 a1_2, .int .i8 a1_3, .int .i8 a1_4, .int .i8 a1_5] 34 (0, 0))) := ⟨by rw [← hq_]; exact (kb BK281)⟩; have n2_ : Aside0 (Below w.heap.size w w18) := ⟨by rw [← hq_]; exact (be HB)⟩; clear BK280 BK281 HB hq_; have BK280 := n0_; have BK281 := n1_; have HB := n2_; clear n0_ n1_ n2_))
  have n0_ := am (blk_drew BK280.out)
  have n1_ := am (blk_drew BK281.out)
  have n2_ := am (below_drew1 HB.out)
  clear BK280
  clear BK281
  clear HB
  have BK280 := n0_
  have BK281 := n1_
  have HB := n2_
  clear n0_ n1_ n2_
  refine start_ (n := 12) (S := fun w' => w'.cell? ⟨gb280, 0, none⟩ = some (.int .i8 a0_0) ∧ w'.cell? ⟨gb280, 1, none⟩ = some (.int .i8 a0_1) ∧ atCells w' gb280 a0_2 ∧ BayAt26 w' gb280 ∧ lvv w' gb280 = .agg (csBay a0_0 a0_1 a0_2) ∧ w'.cell? ⟨gb281, 0, none⟩ = some (.int .i8 a1_0) ∧ w'.cell? ⟨gb281, 1, none⟩ = some (.int .i8 a1_1) ∧ w'.cell? ⟨gb281, 2, none⟩ = some (.int .i8 a1_2) ∧ w'.cell? ⟨gb281, 3, none⟩ = some (.int .i8 a1_3) ∧ w'.cell? ⟨gb281, 4, none⟩ = some (.int .i8 a1_4) ∧ w'.cell? ⟨gb281, 5, none⟩ = some (.int .i8 a1_5)) (ds := []) #[false, false, false, false, false, false, false, false, false, false, false, false] (by kernel_rfl) rfl rfl ⟨(blk_cell BK280.out 0).trans rfl, (blk_cell BK280.out 1).trans rfl, at_cells BK280.out, BayAt26_of BK280.out, lvv_of BK280.out, (blk_cell BK281.out 0).trans rfl, (blk_cell BK281.out 1).trans rfl, (blk_cell BK281.out 2).trans rfl, (blk_cell BK281.out 3).trans rfl, (blk_cell BK281.out 4).trans rfl, (blk_cell BK281.out 5).trans rfl⟩ (fun hHeld => ?_); refine with_tabW laws_FnExactDryMinutes.tab5 laws_FnExactDryMinutes.bits5 (fun HT_ HW_ => ?_)
  generalize w18.drew = w19 at BK280 BK281 HB hHeld ⊢
  refine pS (i := 4) (some 23) #[false, false, false, false, true, false, false, false, false, false, false, false] (any_of HT_.out (by kernel_rfl)) ?_
  refine tS (i := 0) (some 19) #[true, false, false, false, true, false, false, false, false, false, false, false] (take_ofW HT_.out HW_.out (by kernel_rfl)) hHeld ?_
  refine tS (i := 2) (some 21) #[true, false, true, false, true, false, false, false, false, false, false, false] (take_ofW HT_.out HW_.out (by kernel_rfl)) hHeld ?_
  refine one_ (i := 1) (N := some 20) #[true, true, true, false, true, false, false, false, false, false, false, false] rfl rfl (one_of HT_.out (by kernel_rfl)) (by decide) (fun K hK => ?_)
  refine goes_ Try.func26 (by kernel_rfl) rfl #[.agg (csBay a0_0 a0_1 a0_2)] (by rfl) rfl rfl (by (try simp only [List.map_toArray, List.map_cons, List.map_nil]); first | done | rfl | (simp only [List.length_drop, List.length_take]; rfl)) ?_
  with_reducible refine (laws_toBay.calls a0_0 a0_1 a0_2 t283 t284 t285 _ A8.out).mono ?_
  rintro e w20 ⟨rfl, hb⟩
  refine ⟨_, rfl, ?_⟩
  have n0_ := bB BK280 hb
  have n1_ := bB BK281 hb
  have n2_ := am (below_step (be HB) hb)
  clear BK280
  clear BK281
  clear HB
  have BK280 := n0_
  have BK281 := n1_
  have HB := n2_
  clear n0_ n1_ n2_
  (try clear hb)
  (try clear hb2)
  (try clear hk)
  (try clear hi)
  refine hK.out _ _ ⟨(blk_cell BK280.out 0).trans rfl, (blk_cell BK280.out 1).trans rfl, at_cells BK280.out, BayAt26_of BK280.out, lvv_of BK280.out, (blk_cell BK281.out 0).trans rfl, (blk_cell BK281.out 1).trans rfl, (blk_cell BK281.out 2).trans rfl, (blk_cell BK281.out 3).trans rfl, (blk_cell BK281.out 4).trans rfl, (blk_cell BK281.out 5).trans rfl⟩ (fun hHeld => ?_)
  clear hK K
  refine norm_ (a' := ?_) ?_ ?_
  rotate_left
  ·show Act.put _ (some 20) _ = _
   simp only [Act.put, List.setIfInBounds_toArray, List.set_cons_zero, List.set_cons_succ, i64_w, i32_w]
   rfl
  refine one_ (i := 3) (N := some 22) #[true, true, true, true, true, false, false, false, false, false, false, false] rfl rfl (one_of HT_.out (by kernel_rfl)) (by decide) (fun K hK => ?_)
  refine goes_ Try.func29 (by kernel_rfl) rfl #[.agg #[.int .i8 a1_0, .int .i8 a1_1, .int .i8 a1_2, .int .i8 a1_3, .int .i8 a1_4, .int .i8 a1_5]] (by rfl) rfl rfl (by (try simp only [List.map_toArray, List.map_cons, List.map_nil]); first | done | rfl | (simp only [List.length_drop, List.length_take]; rfl)) ?_
  with_reducible refine (laws_toBoat.calls a1_0 a1_1 a1_2 a1_3 a1_4 a1_5 t286 t287 t288 t289 t290 t291 _ A9.out).mono ?_
  rintro e w21 ⟨rfl, hb⟩
  refine ⟨_, rfl, ?_⟩
  have n0_ := bB BK280 hb
  have n1_ := bB BK281 hb
  have n2_ := am (below_step (be HB) hb)
  clear BK280
  clear BK281
  clear HB
  have BK280 := n0_
  have BK281 := n1_
  have HB := n2_
  clear n0_ n1_ n2_
  (try clear hb)
  (try clear hb2)
  (try clear hk)
  (try clear hi)
  refine hK.out _ _ ⟨(blk_cell BK280.out 0).trans rfl, (blk_cell BK280.out 1).trans rfl, at_cells BK280.out, BayAt26_of BK280.out, lvv_of BK280.out, (blk_cell BK281.out 0).trans rfl, (blk_cell BK281.out 1).trans rfl, (blk_cell BK281.out 2).trans rfl, (blk_cell BK281.out 3).trans rfl, (blk_cell BK281.out 4).trans rfl, (blk_cell BK281.out 5).trans rfl⟩ (fun hHeld => ?_)
  clear hK K
  refine norm_ (a' := ?_) ?_ ?_
  rotate_left
  ·show Act.put _ (some 22) _ = _
   simp only [Act.put, List.setIfInBounds_toArray, List.set_cons_zero, List.set_cons_succ, i64_w, i32_w]
   rfl
  refine one_ (i := 5) (N := some 24) #[true, true, true, true, true, true, false, false, false, false, false, false] rfl rfl (one_of HT_.out (by kernel_rfl)) (by decide) (fun K hK => ?_)
  refine goes_ Try.func84 (by kernel_rfl) rfl #[.slice A2 l2.length c2] (by rfl) rfl rfl (by (try simp only [List.map_toArray, List.map_cons, List.map_nil]); first | done | rfl | (simp only [List.length_drop, List.length_take]; rfl)) ?_
  with_reducible refine (laws_toWaterS.calls k _ _ l2 t292 _ ?side1 ?side2 A10.out).mono ?_
  (case side1 => repeat (first | exact (Kd.C_below HR2.out HB.out) | (with_reducible refine Kd.C_alloc ?_ _) | (with_reducible refine Kd.C_drewN ?_ _) | (with_reducible refine Kd.C_drew ?_)))
  (case side2 => exact HC2.out)
  rintro e w22 ⟨v293, rfl, ho0, hb⟩
  refine ⟨_, rfl, ?_⟩
  have n0_ := am (Kd.R_lower ho0 (below_size (be HB)))
  have n1_ := bB BK280 hb
  have n2_ := bB BK281 hb
  have n3_ := am (below_step (be HB) hb)
  clear BK280
  clear BK281
  clear HB
  have HO294 := n0_
  have BK280 := n1_
  have BK281 := n2_
  have HB := n3_
  clear n0_ n1_ n2_ n3_
  (try clear hb)
  (try clear hb2)
  (try clear hk)
  (try clear hi)
  (try clear ho0)
  obtain ⟨Ao23, co23, eo23⟩ := Kd.R_slice HO294.out
  (first | subst eo23 | (injection eo23 with f1_ f2_ f3_; have f4_ := f1_.symm; have f5_ := f3_.symm; clear f1_ f2_ f3_; subst f4_; subst f5_))
  refine hK.out _ _ ⟨(blk_cell BK280.out 0).trans rfl, (blk_cell BK280.out 1).trans rfl, at_cells BK280.out, BayAt26_of BK280.out, lvv_of BK280.out, (blk_cell BK281.out 0).trans rfl, (blk_cell BK281.out 1).trans rfl, (blk_cell BK281.out 2).trans rfl, (blk_cell BK281.out 3).trans rfl, (blk_cell BK281.out 4).trans rfl, (blk_cell BK281.out 5).trans rfl⟩ (fun hHeld => ?_)
  clear hK K
  refine norm_ (a' := ?_) ?_ ?_
  rotate_left
  ·show Act.put _ (some 24) _ = _
   simp only [Act.put, List.setIfInBounds_toArray, List.set_cons_zero, List.set_cons_succ, i64_w, i32_w]
   rfl
  refine one_ (i := 6) (N := some 25) #[true, true, true, true, true, true, true, false, false, false, false, false] rfl rfl (one_of HT_.out (by kernel_rfl)) (by decide) (fun K hK => ?_)
  refine goes_ Try.func83 (by kernel_rfl) rfl #[.agg (csBay t283 t284 t285), .agg #[.int .i8 t286, .int .i8 t287, .int .i8 t288, .int .i8 t289, .int .i8 t290, .int .i8 t291], .slice Ao23 t292.length co23] (by rfl) rfl rfl (by (try simp only [List.map_toArray, List.map_cons, List.map_nil]); first | done | rfl | (simp only [List.length_drop, List.length_take]; rfl)) ?_
  with_reducible refine (spec_DryMinutes.calls k t283 t284 t285 t286 t287 t288 t289 t290 t291 _ _ t292 t295 t296 _ ?side1 ?side2 A11.out).mono ?_
  (case side1 => repeat (first | exact (Kd.R_reads' HO294.out).2.2 | (with_reducible refine Kd.C_alloc ?_ _) | (with_reducible refine Kd.C_drewN ?_ _) | (with_reducible refine Kd.C_drew ?_)))
  (case side2 => exact (Kd.R_reads' HO294.out).2.1)
  rintro e w24 ⟨rfl, hb⟩
  refine ⟨_, rfl, ?_⟩
  have n0_ := am (Kd.R_below (kr HO294) hb)
  have n1_ := bB BK280 hb
  have n2_ := bB BK281 hb
  have n3_ := am (below_step (be HB) hb)
  clear HO294
  clear BK280
  clear BK281
  clear HB
  have HO294 := n0_
  have BK280 := n1_
  have BK281 := n2_
  have HB := n3_
  clear n0_ n1_ n2_ n3_
  (try clear hb)
  (try clear hb2)
  (try clear hk)
  (try clear hi)
  refine hK.out _ _ ⟨(blk_cell BK280.out 0).trans rfl, (blk_cell BK280.out 1).trans rfl, at_cells BK280.out, BayAt26_of BK280.out, lvv_of BK280.out, (blk_cell BK281.out 0).trans rfl, (blk_cell BK281.out 1).trans rfl, (blk_cell BK281.out 2).trans rfl, (blk_cell BK281.out 3).trans rfl, (blk_cell BK281.out 4).trans rfl, (blk_cell BK281.out 5).trans rfl⟩ (fun hHeld => ?_)
  clear hK K
  refine norm_ (a' := ?_) ?_ ?_
  rotate_left
  ·show Act.put _ (some 25) _ = _
   simp only [Act.put, List.setIfInBounds_toArray, List.set_cons_zero, List.set_cons_succ, i64_w, i32_w]
   rfl
  refine pS (i := 7) (some 18) #[true, true, true, true, true, true, true, true, false, false, false, false] (any_of HT_.out (by kernel_rfl)) ?_
  refine pS (i := 8) (some 26) #[true, true, true, true, true, true, true, true, true, false, false, false] (any_of HT_.out (by kernel_rfl)) ?_
  refine pS (i := 9) (some 27) #[true, true, true, true, true, true, true, true, true, true, false, false] (any_of HT_.out (by kernel_rfl)) ?_
  refine pS (i := 10) (some 8) #[true, true, true, true, true, true, true, true, true, true, true, false] (any_of HT_.out (by kernel_rfl)) ?_
  refine pS (i := 11) (some 9) #[true, true, true, true, true, true, true, true, true, true, true, true] (any_of HT_.out (by kernel_rfl)) ?_
  refine done_ (done_of HT_.out (by kernel_rfl)) ?_
  try go_wp2_with (first | ((with_reducible refine gate_callee (f := 84) rfl ?_); refine gL (some 29) Try.func84 #[.slice A2 l2.length c2] ?_; (with_reducible refine (laws_toWaterS.calls k _ _ l2 t297 _ ?side1 ?side2 A12.out).mono ?_); (case side1 => repeat (first | exact (Kd.C_below HR2.out HB.out) | (with_reducible refine Kd.C_alloc ?_ _) | (with_reducible refine Kd.C_drewN ?_ _) | (with_reducible refine Kd.C_drew ?_))); (case side2 => exact HC2.out); rintro e w25 ⟨v298, rfl, ho0, hb⟩; refine ⟨_, rfl, ?_⟩; have HO299 := am (Kd.R_lower (Kd.R_new' ho0 (Kd.R_lt (kr HO294))) (below_size (be HB))); replace HO294 := am (Kd.R_elder' (kr HO294) (Kd.R_base ho0) hb); replace BK280 := bB BK280 hb; replace BK281 := bB BK281 hb; replace HB := am (below_step (be HB) hb); (try clear hb); (try clear hb2); (try clear hk); (try clear hi); (try clear ho0)))
  have n0_ := am (Kd.R_drew HO294.out)
  have n1_ := am (Kd.R_drew HO299.out)
  have n2_ := am (blk_drew BK280.out)
  have n3_ := am (blk_drew BK281.out)
  have n4_ := am (below_drew1 HB.out)
  clear HO294
  clear HO299
  clear BK280
  clear BK281
  clear HB
  have HO294 := n0_
  have HO299 := n1_
  have BK280 := n2_
  have BK281 := n3_
  have HB := n4_
  clear n0_ n1_ n2_ n3_ n4_
  refine start_ (n := 11) (S := fun w' => w'.cell? ⟨gb280, 0, none⟩ = some (.int .i8 a0_0) ∧ w'.cell? ⟨gb280, 1, none⟩ = some (.int .i8 a0_1) ∧ atCells w' gb280 a0_2 ∧ BayAt26 w' gb280 ∧ lvv w' gb280 = .agg (csBay a0_0 a0_1 a0_2) ∧ w'.cell? ⟨gb281, 0, none⟩ = some (.int .i8 a1_0) ∧ w'.cell? ⟨gb281, 1, none⟩ = some (.int .i8 a1_1) ∧ w'.cell? ⟨gb281, 2, none⟩ = some (.int .i8 a1_2) ∧ w'.cell? ⟨gb281, 3, none⟩ = some (.int .i8 a1_3) ∧ w'.cell? ⟨gb281, 4, none⟩ = some (.int .i8 a1_4) ∧ w'.cell? ⟨gb281, 5, none⟩ = some (.int .i8 a1_5)) (ds := []) #[false, false, false, false, false, false, false, false, false, false, false] (by kernel_rfl) rfl rfl ⟨(blk_cell BK280.out 0).trans rfl, (blk_cell BK280.out 1).trans rfl, at_cells BK280.out, BayAt26_of BK280.out, lvv_of BK280.out, (blk_cell BK281.out 0).trans rfl, (blk_cell BK281.out 1).trans rfl, (blk_cell BK281.out 2).trans rfl, (blk_cell BK281.out 3).trans rfl, (blk_cell BK281.out 4).trans rfl, (blk_cell BK281.out 5).trans rfl⟩ (fun hHeld => ?_); refine with_tabW laws_FnExactDryMinutes.tab7 laws_FnExactDryMinutes.bits7 (fun HT_ HW_ => ?_)
  generalize w25.drew = w26 at HO294 HO299 BK280 BK281 HB hHeld ⊢
  refine pS (i := 4) (some 35) #[false, false, false, false, true, false, false, false, false, false, false] (any_of HT_.out (by kernel_rfl)) ?_
  refine tS (i := 0) (some 31) #[true, false, false, false, true, false, false, false, false, false, false] (take_ofW HT_.out HW_.out (by kernel_rfl)) hHeld ?_
  refine tS (i := 2) (some 33) #[true, false, true, false, true, false, false, false, false, false, false] (take_ofW HT_.out HW_.out (by kernel_rfl)) hHeld ?_
  refine one_ (i := 1) (N := some 32) #[true, true, true, false, true, false, false, false, false, false, false] rfl rfl (one_of HT_.out (by kernel_rfl)) (by decide) (fun K hK => ?_)
  refine goes_ Try.func26 (by kernel_rfl) rfl #[.agg (csBay a0_0 a0_1 a0_2)] (by rfl) rfl rfl (by (try simp only [List.map_toArray, List.map_cons, List.map_nil]); first | done | rfl | (simp only [List.length_drop, List.length_take]; rfl)) ?_
  with_reducible refine (laws_toBay.calls a0_0 a0_1 a0_2 t300 t301 t302 _ A13.out).mono ?_
  rintro e w27 ⟨rfl, hb⟩
  refine ⟨_, rfl, ?_⟩
  have n0_ := am (Kd.R_below (kr HO294) hb)
  have n1_ := am (Kd.R_below (kr HO299) hb)
  have n2_ := bB BK280 hb
  have n3_ := bB BK281 hb
  have n4_ := am (below_step (be HB) hb)
  clear HO294
  clear HO299
  clear BK280
  clear BK281
  clear HB
  have HO294 := n0_
  have HO299 := n1_
  have BK280 := n2_
  have BK281 := n3_
  have HB := n4_
  clear n0_ n1_ n2_ n3_ n4_
  (try clear hb)
  (try clear hb2)
  (try clear hk)
  (try clear hi)
  refine hK.out _ _ ⟨(blk_cell BK280.out 0).trans rfl, (blk_cell BK280.out 1).trans rfl, at_cells BK280.out, BayAt26_of BK280.out, lvv_of BK280.out, (blk_cell BK281.out 0).trans rfl, (blk_cell BK281.out 1).trans rfl, (blk_cell BK281.out 2).trans rfl, (blk_cell BK281.out 3).trans rfl, (blk_cell BK281.out 4).trans rfl, (blk_cell BK281.out 5).trans rfl⟩ (fun hHeld => ?_)
  clear hK K
  refine norm_ (a' := ?_) ?_ ?_
  rotate_left
  ·show Act.put _ (some 32) _ = _
   simp only [Act.put, List.setIfInBounds_toArray, List.set_cons_zero, List.set_cons_succ, i64_w, i32_w]
   rfl
  refine one_ (i := 3) (N := some 34) #[true, true, true, true, true, false, false, false, false, false, false] rfl rfl (one_of HT_.out (by kernel_rfl)) (by decide) (fun K hK => ?_)
  refine goes_ Try.func29 (by kernel_rfl) rfl #[.agg #[.int .i8 a1_0, .int .i8 a1_1, .int .i8 a1_2, .int .i8 a1_3, .int .i8 a1_4, .int .i8 a1_5]] (by rfl) rfl rfl (by (try simp only [List.map_toArray, List.map_cons, List.map_nil]); first | done | rfl | (simp only [List.length_drop, List.length_take]; rfl)) ?_
  with_reducible refine (laws_toBoat.calls a1_0 a1_1 a1_2 a1_3 a1_4 a1_5 t303 t304 t305 t306 t307 t308 _ A14.out).mono ?_
  rintro e w28 ⟨rfl, hb⟩
  refine ⟨_, rfl, ?_⟩
  have n0_ := am (Kd.R_below (kr HO294) hb)
  have n1_ := am (Kd.R_below (kr HO299) hb)
  have n2_ := bB BK280 hb
  have n3_ := bB BK281 hb
  have n4_ := am (below_step (be HB) hb)
  clear HO294
  clear HO299
  clear BK280
  clear BK281
  clear HB
  have HO294 := n0_
  have HO299 := n1_
  have BK280 := n2_
  have BK281 := n3_
  have HB := n4_
  clear n0_ n1_ n2_ n3_ n4_
  (try clear hb)
  (try clear hb2)
  (try clear hk)
  (try clear hi)
  obtain ⟨Ao29, co29, eo29⟩ := Kd.R_slice HO299.out
  (first | subst eo29 | (injection eo29 with f1_ f2_ f3_; have f4_ := f1_.symm; have f5_ := f3_.symm; clear f1_ f2_ f3_; subst f4_; subst f5_))
  refine hK.out _ _ ⟨(blk_cell BK280.out 0).trans rfl, (blk_cell BK280.out 1).trans rfl, at_cells BK280.out, BayAt26_of BK280.out, lvv_of BK280.out, (blk_cell BK281.out 0).trans rfl, (blk_cell BK281.out 1).trans rfl, (blk_cell BK281.out 2).trans rfl, (blk_cell BK281.out 3).trans rfl, (blk_cell BK281.out 4).trans rfl, (blk_cell BK281.out 5).trans rfl⟩ (fun hHeld => ?_)
  clear hK K
  refine norm_ (a' := ?_) ?_ ?_
  rotate_left
  ·show Act.put _ (some 34) _ = _
   simp only [Act.put, List.setIfInBounds_toArray, List.set_cons_zero, List.set_cons_succ, i64_w, i32_w]
   rfl
  refine one_ (i := 5) (N := some 36) #[true, true, true, true, true, true, false, false, false, false, false] rfl rfl (one_of HT_.out (by kernel_rfl)) (by decide) (fun K hK => ?_)
  refine goes_ Try.func85 (by kernel_rfl) rfl #[.agg (csBay t300 t301 t302), .agg #[.int .i8 t303, .int .i8 t304, .int .i8 t305, .int .i8 t306, .int .i8 t307, .int .i8 t308], .slice Ao29 t297.length co29] (by rfl) rfl rfl (by (try simp only [List.map_toArray, List.map_cons, List.map_nil]); first | done | rfl | (simp only [List.length_drop, List.length_take]; rfl)) ?_
  with_reducible refine (impl_DryMinutes.calls k t300 t301 t302 t303 t304 t305 t306 t307 t308 _ _ t297 t309 t310 _ ?side1 ?side2 A15.out).mono ?_
  (case side1 => repeat (first | exact (Kd.R_reads' HO299.out).2.2 | (with_reducible refine Kd.C_alloc ?_ _) | (with_reducible refine Kd.C_drewN ?_ _) | (with_reducible refine Kd.C_drew ?_)))
  (case side2 => exact (Kd.R_reads' HO299.out).2.1)
  rintro e w30 ⟨rfl, hb⟩
  refine ⟨_, rfl, ?_⟩
  have n0_ := am (Kd.R_below (kr HO294) hb)
  have n1_ := am (Kd.R_below (kr HO299) hb)
  have n2_ := bB BK280 hb
  have n3_ := bB BK281 hb
  have n4_ := am (below_step (be HB) hb)
  clear HO294
  clear HO299
  clear BK280
  clear BK281
  clear HB
  have HO294 := n0_
  have HO299 := n1_
  have BK280 := n2_
  have BK281 := n3_
  have HB := n4_
  clear n0_ n1_ n2_ n3_ n4_
  (try clear hb)
  (try clear hb2)
  (try clear hk)
  (try clear hi)
  refine hK.out _ _ ⟨(blk_cell BK280.out 0).trans rfl, (blk_cell BK280.out 1).trans rfl, at_cells BK280.out, BayAt26_of BK280.out, lvv_of BK280.out, (blk_cell BK281.out 0).trans rfl, (blk_cell BK281.out 1).trans rfl, (blk_cell BK281.out 2).trans rfl, (blk_cell BK281.out 3).trans rfl, (blk_cell BK281.out 4).trans rfl, (blk_cell BK281.out 5).trans rfl⟩ (fun hHeld => ?_)
  clear hK K
  refine norm_ (a' := ?_) ?_ ?_
  rotate_left
  ·show Act.put _ (some 36) _ = _
   simp only [Act.put, List.setIfInBounds_toArray, List.set_cons_zero, List.set_cons_succ, i64_w, i32_w]
   rfl
  refine pS (i := 6) (some 30) #[true, true, true, true, true, true, true, false, false, false, false] (any_of HT_.out (by kernel_rfl)) ?_
  refine pS (i := 7) (some 37) #[true, true, true, true, true, true, true, true, false, false, false] (any_of HT_.out (by kernel_rfl)) ?_
  refine pS (i := 8) (some 38) #[true, true, true, true, true, true, true, true, true, false, false] (any_of HT_.out (by kernel_rfl)) ?_
  refine pS (i := 9) (some 11) #[true, true, true, true, true, true, true, true, true, true, false] (any_of HT_.out (by kernel_rfl)) ?_
  refine pS (i := 10) (some 12) #[true, true, true, true, true, true, true, true, true, true, true] (any_of HT_.out (by kernel_rfl)) ?_
  refine done_ (done_of HT_.out (by kernel_rfl)) ?_
  go_upto_region 8 with (fail)
  go_cut [46] (fun v46 wc => ∃ (kq : Nat) (x46_15 : Bool), v46 = .bool x46_15 ∧ Aside0 (laws_FnExactDryMinutes.j0 kq l2 t297 x46_15 = some r) ∧ Aside0 (kq ≤ k) ∧ Aside0 (Kd.R k103 103 wc w.heap.size (fun _ => True) (.slice Ao29 t297.length co29) t297) ∧ Aside0 (wc.heap[gb280]? = some (.cells (csBay a0_0 a0_1 a0_2) 26 (0, 0))) ∧ Aside0 (wc.heap[gb281]? = some (.cells #[.int .i8 a1_0, .int .i8 a1_1, .int .i8 a1_2, .int .i8 a1_3, .int .i8 a1_4, .int .i8 a1_5] 34 (0, 0))) ∧ Aside0 (Below w.heap.size w wc))
  case first =>
   have H := HC16.out
   clear HC16
   by_cases c31 : t309 = t295
   ·rw [if_pos c31] at H
    have c31b0 : (t309 == t295) = true := beq_iff_eq.mpr c31
    have c31b1 : (t309 != t295) = false := bne_eq_false_iff_eq.mpr c31
    clear c31
    (first | rw [c31b0] | (simp only [i64_w, i32_w]; rw [c31b0]) | skip)
    have H' := am H
    clear H
    go_wp2
    go_meet
    case rel => exact ⟨_, ((t310 != t296)), vv, H', ⟨by first | omega | exact Nat.le_refl _⟩, ⟨by (with_reducible repeat (first | apply Kd.R_alloc | apply Kd.R_drewN | apply Kd.R_drew)); exact Kd.R_mono HO299.out (fun _ hk => trivial)⟩, ⟨kb BK280⟩, ⟨kb BK281⟩, ⟨be HB⟩⟩
   ·rw [if_neg c31] at H
    have c31b0 : (t309 == t295) = false := beq_eq_false_iff_ne.mpr c31
    have c31b1 : (t309 != t295) = true := bne_iff_ne.mpr c31
    (first | rw [c31b0] | (simp only [i64_w, i32_w]; rw [c31b0]) | skip)
    have H' := am H
    clear H
    go_wp2
    go_meet
    case rel => exact ⟨_, (true), vv, H', ⟨by first | omega | exact Nat.le_refl _⟩, ⟨by (with_reducible repeat (first | apply Kd.R_alloc | apply Kd.R_drewN | apply Kd.R_drew)); exact Kd.R_mono HO299.out (fun _ hk => trivial)⟩, ⟨kb BK280⟩, ⟨kb BK281⟩, ⟨be HB⟩⟩
  case rest =>
   clear HC16
   try clear c2
   try clear p2
   try clear c3
   try clear c5
   try clear c5b0
   try clear c8
   try clear c20
   try clear c26
   try clear c29
   try clear c31
   try clear c31b0
   try clear c31b1
   obtain ⟨kq, x46_15, rfl, HA, HJ15, HO_10, BK280, BK281, HB⟩ := hcut
   cases kq with
   | zero => exact absurd HA.out (by simp [laws_FnExactDryMinutes.j0])
   | succ kj15 =>
    have H := HA.out
    clear HA
    simp only [laws_FnExactDryMinutes.j0] at H
    by_cases c32 : x46_15 = true
    ·subst c32
     rw [if_pos rfl] at H
     obtain rfl := Option.some.inj H
     go_wp2
     go_ret
     exact ⟨by first | rfl | (simp [errW_none, errW_some] <;> rfl) | (simp [*, errW_none, errW_some] <;> rfl), be HB⟩
    ·replace c32 := Bool.eq_false_iff.mpr c32
     subst c32
     have H1 : ((laws_toWaterS.f kj15 l2).bind fun t311 => ((laws_eqWaterS.f kj15 t297 t311).bind fun t314 => (if t314 = true then (some true) else (some false)))) = some r := by rw [if_neg (show ¬ (false = true) by decide)] at H; exact H
     clear H
     have H := H1
     clear H1
     replace H := Option.bind_eq_some_iff.mp H
     obtain ⟨t311, A330, H⟩ := H
     try dsimp only at H
     have A33 := am A330
     clear A330
     replace H := Option.bind_eq_some_iff.mp H
     obtain ⟨t314, A340, H⟩ := H
     try dsimp only at H
     have A34 := am A340
     clear A340
     by_cases c35 : t314 = true
     ·subst c35
      rw [if_pos rfl] at H
      obtain rfl := Option.some.inj H
      go_wp2_with (first | ((with_reducible refine gate_callee (f := 84) rfl ?_); refine gL (some 49) Try.func84 #[.slice A2 l2.length c2] ?_; (with_reducible refine (laws_toWaterS.calls kj15 _ _ l2 t311 _ ?side1 ?side2 A33.out).mono ?_); (case side1 => repeat (first | exact (Kd.C_below HR2.out HB.out) | (with_reducible refine Kd.C_alloc ?_ _) | (with_reducible refine Kd.C_drewN ?_ _) | (with_reducible refine Kd.C_drew ?_))); (case side2 => exact HC2.out); rintro e w36 ⟨v312, rfl, ho0, hb⟩; refine ⟨_, rfl, ?_⟩; have HO313 := am (Kd.R_lower (Kd.R_new' ho0 (Kd.R_lt (kr HO_10))) (below_size (be HB))); replace HO_10 := am (Kd.R_elder' (kr HO_10) (Kd.R_base ho0) hb); replace BK280 := bB BK280 hb; replace BK281 := bB BK281 hb; replace HB := am (below_step (be HB) hb); (try clear hb); (try clear hb2); (try clear hk); (try clear hi); (try clear ho0); obtain ⟨Ao37, co37, eo37⟩ := Kd.R_slice HO313.out; subst eo37) | ((with_reducible refine gate_callee (f := 86) rfl ?_); refine gL (some 50) Try.func86 #[.slice Ao29 t297.length co29, .slice Ao37 t311.length co37] ?_; (with_reducible refine (laws_eqWaterS.calls kj15 _ _ t297 _ _ t311 true _ ?side1 ?side2 ?side3 ?side4 A34.out).mono ?_); (case side1 => repeat (first | exact (Kd.R_reads' HO_10.out).2.2 | (with_reducible refine Kd.C_alloc ?_ _) | (with_reducible refine Kd.C_drewN ?_ _) | (with_reducible refine Kd.C_drew ?_))); (case side2 => exact (Kd.R_reads' HO_10.out).2.1); (case side3 => repeat (first | exact (Kd.R_reads' HO313.out).2.2 | (with_reducible refine Kd.C_alloc ?_ _) | (with_reducible refine Kd.C_drewN ?_ _) | (with_reducible refine Kd.C_drew ?_))); (case side4 => exact (Kd.R_reads' HO313.out).2.1); rintro e w38 ⟨rfl, hb⟩; refine ⟨_, rfl, ?_⟩; replace HO_10 := am (Kd.R_below (kr HO_10) hb); replace HO313 := am (Kd.R_below (kr HO313) hb); replace BK280 := bB BK280 hb; replace BK281 := bB BK281 hb; replace HB := am (below_step (be HB) hb); (try clear hb); (try clear hb2); (try clear hk); (try clear hi)))
      go_ret
      exact ⟨by first | rfl | (simp [errW_none, errW_some] <;> rfl) | (simp [*, errW_none, errW_some] <;> rfl), be HB⟩
     ·replace c35 := Bool.eq_false_iff.mpr c35
      subst c35
      have H1 : (some false) = some r := by rw [if_neg (show ¬ (false = true) by decide)] at H; exact H
      clear H
      have H := H1
      clear H1
      obtain rfl := Option.some.inj H
      go_wp2_with (first | ((with_reducible refine gate_callee (f := 84) rfl ?_); refine gL (some 49) Try.func84 #[.slice A2 l2.length c2] ?_; (with_reducible refine (laws_toWaterS.calls kj15 _ _ l2 t311 _ ?side1 ?side2 A33.out).mono ?_); (case side1 => repeat (first | exact (Kd.C_below HR2.out HB.out) | (with_reducible refine Kd.C_alloc ?_ _) | (with_reducible refine Kd.C_drewN ?_ _) | (with_reducible refine Kd.C_drew ?_))); (case side2 => exact HC2.out); rintro e w39 ⟨v312, rfl, ho0, hb⟩; refine ⟨_, rfl, ?_⟩; have HO313 := am (Kd.R_lower (Kd.R_new' ho0 (Kd.R_lt (kr HO_10))) (below_size (be HB))); replace HO_10 := am (Kd.R_elder' (kr HO_10) (Kd.R_base ho0) hb); replace BK280 := bB BK280 hb; replace BK281 := bB BK281 hb; replace HB := am (below_step (be HB) hb); (try clear hb); (try clear hb2); (try clear hk); (try clear hi); (try clear ho0); obtain ⟨Ao40, co40, eo40⟩ := Kd.R_slice HO313.out; subst eo40) | ((with_reducible refine gate_callee (f := 86) rfl ?_); refine gL (some 50) Try.func86 #[.slice Ao29 t297.length co29, .slice Ao40 t311.length co40] ?_; (with_reducible refine (laws_eqWaterS.calls kj15 _ _ t297 _ _ t311 false _ ?side1 ?side2 ?side3 ?side4 A34.out).mono ?_); (case side1 => repeat (first | exact (Kd.R_reads' HO_10.out).2.2 | (with_reducible refine Kd.C_alloc ?_ _) | (with_reducible refine Kd.C_drewN ?_ _) | (with_reducible refine Kd.C_drew ?_))); (case side2 => exact (Kd.R_reads' HO_10.out).2.1); (case side3 => repeat (first | exact (Kd.R_reads' HO313.out).2.2 | (with_reducible refine Kd.C_alloc ?_ _) | (with_reducible refine Kd.C_drewN ?_ _) | (with_reducible refine Kd.C_drew ?_))); (case side4 => exact (Kd.R_reads' HO313.out).2.1); rintro e w41 ⟨rfl, hb⟩; refine ⟨_, rfl, ?_⟩; replace HO_10 := am (Kd.R_below (kr HO_10) hb); replace HO313 := am (Kd.R_below (kr HO313) hb); replace BK280 := bB BK280 hb; replace BK281 := bB BK281 hb; replace HB := am (below_step (be HB) hb); (try clear hb); (try clear hb2); (try clear hk); (try clear hi)))
      go_ret
      exact ⟨by first | rfl | (simp [errW_none, errW_some] <;> rfl) | (simp [*, errW_none, errW_some] <;> rfl), be HB⟩

end Go.Proofs.Ytcollbifdfhfoaa.PFnExactDryMinutes
