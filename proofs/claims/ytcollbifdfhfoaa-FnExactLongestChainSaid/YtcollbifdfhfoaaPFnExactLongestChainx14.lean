-- Written by a program out of this seat's translation (functions, and that the code comes to them).
import Derived.Test.YtcollbifdfhfoaaPFnExactLongestChainx0
import Derived.Test.YtcollbifdfhfoaaPFnExactLongestChainx2
import Derived.Test.YtcollbifdfhfoaaPFnExactLongestChainx7
import Derived.Test.YtcollbifdfhfoaaPFnExactLongestChainx13
namespace Go.Proofs.Ytcollbifdfhfoaa.PFnExactLongestChain
open Go.RowKit Go.Proofs.YtcollbifdfhfoaaW.PrintWords Go.Proofs.YtcollbifdfhfoaaW.PrintLast Go.Proofs.YtcollbifdfhfoaaW.PrintMore
attribute [local go_sem] max2_int min2_int max_two min_two max_three min_three max_four min_four   -- for this text's walks alone
open Go.Proofs.Ytcollbifdfhfoaa.Bay Go.Proofs.Ytcollbifdfhfoaa.Short
attribute [local go_sem ↓] lv26_eq lv28_eq
attribute [local go_sem] lvv_set lvv_drewN lvv_drew lv26_run BayAt26_set BayAt26_drewN BayAt26_drew lv28_run BayAt28_set BayAt28_drewN BayAt28_drew
set_option linter.unusedVariables false
set_option linter.unusedSimpArgs false

/-! ### laws_FnExactLongestChain: function 15 -/
def laws_FnExactLongestChain.j0 : Nat → List (S34) → List (S38) → Bool → Option (Bool)
 | 0, _, _, _ => none
 | k + 1, x1, x10, x46 => if x46 = true then (some false) else ((laws_toBoatS.f k x1).bind fun t412 => ((laws_eqBoatS.f k x10 t412).bind fun t415 => (if t415 = true then (some true) else (some false))))
def laws_FnExactLongestChain.f (k : Nat) (a0_0 : Int) (a0_1 : Int) (a0_2 : (Nat → Int)) (l1 : List (S34)) (a2_0 : Int) (a2_1 : Int) (a2_2 : Int) (a2_3 : Int) (a2_4 : Int) (a2_5 : Int) : Option (Bool) := (laws_szBoatS.f l1 1048576).bind fun t383 => (if t383 < 0 then (some true) else ((laws_toBay.f a0_0 a0_1 a0_2).bind fun bt384 => ((laws_toBoatS.f k l1).bind fun t387 => ((laws_toBoat.f a2_0 a2_1 a2_2 a2_3 a2_4 a2_5).bind fun bt390 => ((spec_LongestChain.f k bt384.1 bt384.2.1 bt384.2.2 t387 bt390.1 bt390.2.1 bt390.2.2.1 bt390.2.2.2.1 bt390.2.2.2.2.1 bt390.2.2.2.2.2).bind fun bt396 => ((laws_toBoatS.f k l1).bind fun t398 => ((laws_toBay.f a0_0 a0_1 a0_2).bind fun bt401 => ((laws_toBoat.f a2_0 a2_1 a2_2 a2_3 a2_4 a2_5).bind fun bt404 => ((impl_LongestChain.f k bt401.1 bt401.2.1 bt401.2.2 t398 bt404.1 bt404.2.1 bt404.2.2.1 bt404.2.2.2.1 bt404.2.2.2.2.1 bt404.2.2.2.2.2).bind fun bt410 => (if bt410.1 = bt396.1 then (laws_FnExactLongestChain.j0 k l1 t398 (bt410.2 != bt396.2)) else (laws_FnExactLongestChain.j0 k l1 t398 true)))))))))))
def laws_FnExactLongestChain.T5 : Bool × List (List Nat × List Nat) := (true, [([], []), ([0], [0]), ([], []), ([2, 1], [2]), ([], []), ([4, 3], [4]), ([1, 3, 5, 5], [1, 3, 5]), ([6], [6]), ([7], [7]), ([7], [7]), ([8, 6, 0, 1, 2, 3, 4, 5, 6, 7, 8], [8]), ([9, 10, 0, 1, 2, 3, 4, 5, 6, 7, 8, 9, 10], [9])])
def laws_FnExactLongestChain.B5 : List Nat := [0, 1, 0, 7, 0, 31, 63, 127, 255, 255, 511, 2047]
theorem laws_FnExactLongestChain.tab5 : rtab .any (opsOf Try.f15 5) = laws_FnExactLongestChain.T5 := by kernel_rfl
theorem laws_FnExactLongestChain.bits5 : waitsOk laws_FnExactLongestChain.T5.2 laws_FnExactLongestChain.B5 = true := by kernel_rfl
def laws_FnExactLongestChain.T7 : Bool × List (List Nat × List Nat) := (true, [([], []), ([0], [0]), ([], []), ([], []), ([3, 1], [3]), ([1, 2, 4, 4], [1, 2, 4]), ([5], [5]), ([6], [6]), ([6], [6]), ([7, 5, 0, 1, 2, 3, 4, 5, 6, 7], [7]), ([8, 9, 0, 1, 2, 3, 4, 5, 6, 7, 8, 9], [8])])
def laws_FnExactLongestChain.B7 : List Nat := [0, 1, 0, 0, 11, 31, 63, 127, 127, 255, 1023]
theorem laws_FnExactLongestChain.tab7 : rtab .any (opsOf Try.f15 7) = laws_FnExactLongestChain.T7 := by kernel_rfl
theorem laws_FnExactLongestChain.bits7 : waitsOk laws_FnExactLongestChain.T7.2 laws_FnExactLongestChain.B7 = true := by kernel_rfl
set_option maxHeartbeats 8000000 in
set_option maxRecDepth 100000 in
theorem laws_FnExactLongestChain.calls (k : Nat) (a0_0 : Int) (a0_1 : Int) (a0_2 : (Nat → Int)) (A1 : Option Addr) (c1 : Nat) (l1 : List (S34)) (a2_0 : Int) (a2_1 : Int) (a2_2 : Int) (a2_3 : Int) (a2_4 : Int) (a2_5 : Int) (r : Bool) (w : World) (hr1 : Kd.C k34 w A1 l1.length l1) (hc1 : l1.length ≤ c1) (h : laws_FnExactLongestChain.f k a0_0 a0_1 a0_2 l1 a2_0 a2_1 a2_2 a2_3 a2_4 a2_5 = some r) :
  Calls Try.prog 15 #[.agg (csBay a0_0 a0_1 a0_2), .slice A1 l1.length c1, .agg #[.int .i8 a2_0, .int .i8 a2_1, .int .i8 a2_2, .int .i8 a2_3, .int .i8 a2_4, .int .i8 a2_5]] w fun e w' => e = .returned (.bool r) ∧ Below w.heap.size w w' := by
 have hu26 := Try.underlying26
 have hu34 := Try.underlying34
 have HR1 := am hr1
 have HC1 := am hc1
 clear hr1 hc1
 have HB := am (Below.refl w.heap.size w)
 have H : ((laws_szBoatS.f l1 1048576).bind fun t383 => (if t383 < 0 then (some true) else ((laws_toBay.f a0_0 a0_1 a0_2).bind fun bt384 => ((laws_toBoatS.f k l1).bind fun t387 => ((laws_toBoat.f a2_0 a2_1 a2_2 a2_3 a2_4 a2_5).bind fun bt390 => ((spec_LongestChain.f k bt384.1 bt384.2.1 bt384.2.2 t387 bt390.1 bt390.2.1 bt390.2.2.1 bt390.2.2.2.1 bt390.2.2.2.2.1 bt390.2.2.2.2.2).bind fun bt396 => ((laws_toBoatS.f k l1).bind fun t398 => ((laws_toBay.f a0_0 a0_1 a0_2).bind fun bt401 => ((laws_toBoat.f a2_0 a2_1 a2_2 a2_3 a2_4 a2_5).bind fun bt404 => ((impl_LongestChain.f k bt401.1 bt401.2.1 bt401.2.2 t398 bt404.1 bt404.2.1 bt404.2.2.1 bt404.2.2.2.1 bt404.2.2.2.2.1 bt404.2.2.2.2.2).bind fun bt410 => (if bt410.1 = bt396.1 then (laws_FnExactLongestChain.j0 k l1 t398 (bt410.2 != bt396.2)) else (laws_FnExactLongestChain.j0 k l1 t398 true)))))))))))) = some r := h
 clear h
 replace H := Option.bind_eq_some_iff.mp H
 obtain ⟨t383, A40, H⟩ := H
 try dsimp only at H
 have A4 := am A40
 clear A40
 by_cases c5 : t383 < 0
 ·rw [if_pos c5] at H
  have c5b0 : decide (t383 < 0) = true := decide_eq_true c5
  clear c5
  obtain rfl := Option.some.inj H
  go_enter Try.func15, Try.ntmps15
  go_wp2_with (first | ((with_reducible refine gate_dst (N := 3) rfl ?_); refine bxe (N := 3) (cs := (csBay a0_0 a0_1 a0_2)) (t := 26) ?_; intro gb381 hg w6 hbox hb; have BK381 := am (hbox); have GW381 := am (gN hg (below_size (be HB))); have GE381 := am (gN hg (below_size (be HB))); replace HB := am (below_step (be HB) hb); clear hb hbox hg) | ((with_reducible refine gate_dst (N := 5) rfl ?_); refine bxe (N := 5) (cs := #[.int .i8 a2_0, .int .i8 a2_1, .int .i8 a2_2, .int .i8 a2_3, .int .i8 a2_4, .int .i8 a2_5]) (t := 34) ?_; intro gb382 hg w7 hbox hb; have BK382 := am (hbox); have GW382 := am (gN hg (below_size (be HB))); have GE382 := am (gN hg (below_size (be HB))); have NB381_382 := nL BK381 hg; have NB382_381 := nR BK381 hg; replace BK381 := bB BK381 hb; replace HB := am (below_step (be HB) hb); clear hb hbox hg) | ((with_reducible refine gate_callee (f := 31) rfl ?_); refine gL (some 15) Try.func31 #[.slice A1 l1.length c1, .int .i64 1048576] ?_; (with_reducible refine (laws_szBoatS.calls _ _ l1 1048576 t383 _ ?side1 ?side2 A4.out).mono ?_); (case side1 => repeat (first | exact (Kd.C_below HR1.out HB.out) | (with_reducible refine Kd.C_alloc ?_ _) | (with_reducible refine Kd.C_drewN ?_ _) | (with_reducible refine Kd.C_drew ?_))); (case side2 => exact HC1.out); rintro e w' ⟨rfl, ⟨nd, rfl⟩⟩; refine ⟨_, rfl, ?_⟩))
  go_ret
  exact ⟨by first | rfl | (simp [errW_none, errW_some] <;> rfl) | (simp [*, errW_none, errW_some] <;> rfl), be HB⟩
 ·rw [if_neg c5] at H
  have c5b0 : decide (t383 < 0) = false := decide_eq_false c5
  clear c5
  replace H := Option.bind_eq_some_iff.mp H
  obtain ⟨⟨t384, t385, t386⟩, A80, H⟩ := H
  try dsimp only at H
  have A8 := am A80
  clear A80
  replace H := Option.bind_eq_some_iff.mp H
  obtain ⟨t387, A90, H⟩ := H
  try dsimp only at H
  have A9 := am A90
  clear A90
  replace H := Option.bind_eq_some_iff.mp H
  obtain ⟨⟨t390, t391, t392, t393, t394, t395⟩, A100, H⟩ := H
  try dsimp only at H
  have A10 := am A100
  clear A100
  replace H := Option.bind_eq_some_iff.mp H
  obtain ⟨⟨t396, t397⟩, A110, H⟩ := H
  try dsimp only at H
  have A11 := am A110
  clear A110
  replace H := Option.bind_eq_some_iff.mp H
  obtain ⟨t398, A120, H⟩ := H
  try dsimp only at H
  have A12 := am A120
  clear A120
  replace H := Option.bind_eq_some_iff.mp H
  obtain ⟨⟨t401, t402, t403⟩, A130, H⟩ := H
  try dsimp only at H
  have A13 := am A130
  clear A130
  replace H := Option.bind_eq_some_iff.mp H
  obtain ⟨⟨t404, t405, t406, t407, t408, t409⟩, A140, H⟩ := H
  try dsimp only at H
  have A14 := am A140
  clear A140
  replace H := Option.bind_eq_some_iff.mp H
  obtain ⟨⟨t410, t411⟩, A150, H⟩ := H
  try dsimp only at H
  have A15 := am A150
  clear A150
  have HC16 := am H
  clear H
  go_enter Try.func15, Try.ntmps15
  try go_wp2_with (first | ((with_reducible refine gate_dst (N := 3) rfl ?_); refine bxe (N := 3) (cs := (csBay a0_0 a0_1 a0_2)) (t := 26) ?_; intro gb381 hg w17 hbox hb; have BK381 := am (hbox); have GW381 := am (gN hg (below_size (be HB))); have GE381 := am (gN hg (below_size (be HB))); replace HB := am (below_step (be HB) hb); clear hb hbox hg) | ((with_reducible refine gate_dst (N := 5) rfl ?_); refine bxe (N := 5) (cs := #[.int .i8 a2_0, .int .i8 a2_1, .int .i8 a2_2, .int .i8 a2_3, .int .i8 a2_4, .int .i8 a2_5]) (t := 34) ?_; intro gb382 hg w18 hbox hb; have BK382 := am (hbox); have GW382 := am (gN hg (below_size (be HB))); have GE382 := am (gN hg (below_size (be HB))); have NB381_382 := nL BK381 hg; have NB382_381 := nR BK381 hg; replace BK381 := bB BK381 hb; replace HB := am (below_step (be HB) hb); clear hb hbox hg) | ((with_reducible refine gate_callee (f := 31) rfl ?_); refine gL (some 15) Try.func31 #[.slice A1 l1.length c1, .int .i64 1048576] ?_; (with_reducible refine (laws_szBoatS.calls _ _ l1 1048576 t383 _ ?side1 ?side2 A4.out).mono ?_); (case side1 => repeat (first | exact (Kd.C_below HR1.out HB.out) | (with_reducible refine Kd.C_alloc ?_ _) | (with_reducible refine Kd.C_drewN ?_ _) | (with_reducible refine Kd.C_drew ?_))); (case side2 => exact HC1.out); rintro e w' ⟨rfl, ⟨nd, rfl⟩⟩; refine ⟨_, rfl, ?_⟩))
  (try (rw [drewN_self w18]; generalize hq_ : World.drewN w18 _ = w18; have n0_ : Aside0 (w18.heap[gb381]? = some (.cells (csBay a0_0 a0_1 a0_2) 26 (0, 0))) := ⟨by rw [← hq_]; exact (kb BK381)⟩; have n1_ : Aside0 (w18.heap[gb382]? = some (.cells #[.int .i8 a2_0, .int .i8 a2_1, .int .i8 a2_2, .int .i8 a2_3, .int .i8 a2_4, .int .i8 a2_5] 34 (0, 0))) := ⟨by rw [← hq_]; exact (kb BK382)⟩; have n2_ : Aside0 (Below w.heap.size w w18) := ⟨by rw [← hq_]; exact (be HB)⟩; clear BK381 BK382 HB hq_; have BK381 := n0_; have BK382 := n1_; have HB := n2_; clear n0_ n1_ n2_))
  have n0_ := am (blk_drew BK381.out)
  have n1_ := am (blk_drew BK382.out)
  have n2_ := am (below_drew1 HB.out)
  clear BK381
  clear BK382
  clear HB
  have BK381 := n0_
  have BK382 := n1_
  have HB := n2_
  clear n0_ n1_ n2_
  refine start_ (n := 12) (S := fun w' => w'.cell? ⟨gb381, 0, none⟩ = some (.int .i8 a0_0) ∧ w'.cell? ⟨gb381, 1, none⟩ = some (.int .i8 a0_1) ∧ atCells w' gb381 a0_2 ∧ BayAt26 w' gb381 ∧ lvv w' gb381 = .agg (csBay a0_0 a0_1 a0_2) ∧ w'.cell? ⟨gb382, 0, none⟩ = some (.int .i8 a2_0) ∧ w'.cell? ⟨gb382, 1, none⟩ = some (.int .i8 a2_1) ∧ w'.cell? ⟨gb382, 2, none⟩ = some (.int .i8 a2_2) ∧ w'.cell? ⟨gb382, 3, none⟩ = some (.int .i8 a2_3) ∧ w'.cell? ⟨gb382, 4, none⟩ = some (.int .i8 a2_4) ∧ w'.cell? ⟨gb382, 5, none⟩ = some (.int .i8 a2_5)) (ds := []) #[false, false, false, false, false, false, false, false, false, false, false, false] (by kernel_rfl) rfl rfl ⟨(blk_cell BK381.out 0).trans rfl, (blk_cell BK381.out 1).trans rfl, at_cells BK381.out, BayAt26_of BK381.out, lvv_of BK381.out, (blk_cell BK382.out 0).trans rfl, (blk_cell BK382.out 1).trans rfl, (blk_cell BK382.out 2).trans rfl, (blk_cell BK382.out 3).trans rfl, (blk_cell BK382.out 4).trans rfl, (blk_cell BK382.out 5).trans rfl⟩ (fun hHeld => ?_); refine with_tabW laws_FnExactLongestChain.tab5 laws_FnExactLongestChain.bits5 (fun HT_ HW_ => ?_)
  generalize w18.drew = w19 at BK381 BK382 HB hHeld ⊢
  refine pS (i := 2) (some 21) #[false, false, true, false, false, false, false, false, false, false, false, false] (any_of HT_.out (by kernel_rfl)) ?_
  refine tS (i := 0) (some 19) #[true, false, true, false, false, false, false, false, false, false, false, false] (take_ofW HT_.out HW_.out (by kernel_rfl)) hHeld ?_
  refine tS (i := 4) (some 23) #[true, false, true, false, true, false, false, false, false, false, false, false] (take_ofW HT_.out HW_.out (by kernel_rfl)) hHeld ?_
  refine one_ (i := 1) (N := some 20) #[true, true, true, false, true, false, false, false, false, false, false, false] rfl rfl (one_of HT_.out (by kernel_rfl)) (by decide) (fun K hK => ?_)
  refine goes_ Try.func26 (by kernel_rfl) rfl #[.agg (csBay a0_0 a0_1 a0_2)] (by rfl) rfl rfl (by (try simp only [List.map_toArray, List.map_cons, List.map_nil]); first | done | rfl | (simp only [List.length_drop, List.length_take]; rfl)) ?_
  with_reducible refine (laws_toBay.calls a0_0 a0_1 a0_2 t384 t385 t386 _ A8.out).mono ?_
  rintro e w20 ⟨rfl, hb⟩
  refine ⟨_, rfl, ?_⟩
  have n0_ := bB BK381 hb
  have n1_ := bB BK382 hb
  have n2_ := am (below_step (be HB) hb)
  clear BK381
  clear BK382
  clear HB
  have BK381 := n0_
  have BK382 := n1_
  have HB := n2_
  clear n0_ n1_ n2_
  (try clear hb)
  (try clear hb2)
  (try clear hk)
  (try clear hi)
  refine hK.out _ _ ⟨(blk_cell BK381.out 0).trans rfl, (blk_cell BK381.out 1).trans rfl, at_cells BK381.out, BayAt26_of BK381.out, lvv_of BK381.out, (blk_cell BK382.out 0).trans rfl, (blk_cell BK382.out 1).trans rfl, (blk_cell BK382.out 2).trans rfl, (blk_cell BK382.out 3).trans rfl, (blk_cell BK382.out 4).trans rfl, (blk_cell BK382.out 5).trans rfl⟩ (fun hHeld => ?_)
  clear hK K
  refine norm_ (a' := ?_) ?_ ?_
  rotate_left
  ·show Act.put _ (some 20) _ = _
   simp only [Act.put, List.setIfInBounds_toArray, List.set_cons_zero, List.set_cons_succ, i64_w, i32_w]
   rfl
  refine one_ (i := 3) (N := some 22) #[true, true, true, true, true, false, false, false, false, false, false, false] rfl rfl (one_of HT_.out (by kernel_rfl)) (by decide) (fun K hK => ?_)
  refine goes_ Try.func33 (by kernel_rfl) rfl #[.slice A1 l1.length c1] (by rfl) rfl rfl (by (try simp only [List.map_toArray, List.map_cons, List.map_nil]); first | done | rfl | (simp only [List.length_drop, List.length_take]; rfl)) ?_
  with_reducible refine (laws_toBoatS.calls k _ _ l1 t387 _ ?side1 ?side2 A9.out).mono ?_
  (case side1 => repeat (first | exact (Kd.C_below HR1.out HB.out) | (with_reducible refine Kd.C_alloc ?_ _) | (with_reducible refine Kd.C_drewN ?_ _) | (with_reducible refine Kd.C_drew ?_)))
  (case side2 => exact HC1.out)
  rintro e w21 ⟨v388, rfl, ho0, hb⟩
  refine ⟨_, rfl, ?_⟩
  have n0_ := am (Kd.R_lower ho0 (below_size (be HB)))
  have n1_ := bB BK381 hb
  have n2_ := bB BK382 hb
  have n3_ := am (below_step (be HB) hb)
  clear BK381
  clear BK382
  clear HB
  have HO389 := n0_
  have BK381 := n1_
  have BK382 := n2_
  have HB := n3_
  clear n0_ n1_ n2_ n3_
  (try clear hb)
  (try clear hb2)
  (try clear hk)
  (try clear hi)
  (try clear ho0)
  refine hK.out _ _ ⟨(blk_cell BK381.out 0).trans rfl, (blk_cell BK381.out 1).trans rfl, at_cells BK381.out, BayAt26_of BK381.out, lvv_of BK381.out, (blk_cell BK382.out 0).trans rfl, (blk_cell BK382.out 1).trans rfl, (blk_cell BK382.out 2).trans rfl, (blk_cell BK382.out 3).trans rfl, (blk_cell BK382.out 4).trans rfl, (blk_cell BK382.out 5).trans rfl⟩ (fun hHeld => ?_)
  clear hK K
  refine norm_ (a' := ?_) ?_ ?_
  rotate_left
  ·show Act.put _ (some 22) _ = _
   simp only [Act.put, List.setIfInBounds_toArray, List.set_cons_zero, List.set_cons_succ, i64_w, i32_w]
   rfl
  refine one_ (i := 5) (N := some 24) #[true, true, true, true, true, true, false, false, false, false, false, false] rfl rfl (one_of HT_.out (by kernel_rfl)) (by decide) (fun K hK => ?_)
  refine goes_ Try.func29 (by kernel_rfl) rfl #[.agg #[.int .i8 a2_0, .int .i8 a2_1, .int .i8 a2_2, .int .i8 a2_3, .int .i8 a2_4, .int .i8 a2_5]] (by rfl) rfl rfl (by (try simp only [List.map_toArray, List.map_cons, List.map_nil]); first | done | rfl | (simp only [List.length_drop, List.length_take]; rfl)) ?_
  with_reducible refine (laws_toBoat.calls a2_0 a2_1 a2_2 a2_3 a2_4 a2_5 t390 t391 t392 t393 t394 t395 _ A10.out).mono ?_
  rintro e w22 ⟨rfl, hb⟩
  refine ⟨_, rfl, ?_⟩
  have n0_ := am (Kd.R_below (kr HO389) hb)
  have n1_ := bB BK381 hb
  have n2_ := bB BK382 hb
  have n3_ := am (below_step (be HB) hb)
  clear HO389
  clear BK381
  clear BK382
  clear HB
  have HO389 := n0_
  have BK381 := n1_
  have BK382 := n2_
  have HB := n3_
  clear n0_ n1_ n2_ n3_
  (try clear hb)
  (try clear hb2)
  (try clear hk)
  (try clear hi)
  obtain ⟨Ao23, co23, eo23⟩ := Kd.R_slice HO389.out
  (first | subst eo23 | (injection eo23 with f1_ f2_ f3_; have f4_ := f1_.symm; have f5_ := f3_.symm; clear f1_ f2_ f3_; subst f4_; subst f5_))
  refine hK.out _ _ ⟨(blk_cell BK381.out 0).trans rfl, (blk_cell BK381.out 1).trans rfl, at_cells BK381.out, BayAt26_of BK381.out, lvv_of BK381.out, (blk_cell BK382.out 0).trans rfl, (blk_cell BK382.out 1).trans rfl, (blk_cell BK382.out 2).trans rfl, (blk_cell BK382.out 3).trans rfl, (blk_cell BK382.out 4).trans rfl, (blk_cell BK382.out 5).trans rfl⟩ (fun hHeld => ?_)
  clear hK K
  refine norm_ (a' := ?_) ?_ ?_
  rotate_left
  ·show Act.put _ (some 24) _ = _
   simp only [Act.put, List.setIfInBounds_toArray, List.set_cons_zero, List.set_cons_succ, i64_w, i32_w]
   rfl
  refine one_ (i := 6) (N := some 25) #[true, true, true, true, true, true, true, false, false, false, false, false] rfl rfl (one_of HT_.out (by kernel_rfl)) (by decide) (fun K hK => ?_)
  refine goes_ Try.func62 (by kernel_rfl) rfl #[.agg (csBay t384 t385 t386), .slice Ao23 t387.length co23, .agg #[.int .i8 t390, .int .i8 t391, .int .i8 t392, .int .i8 t393, .int .i8 t394, .int .i8 t395]] (by rfl) rfl rfl (by (try simp only [List.map_toArray, List.map_cons, List.map_nil]); first | done | rfl | (simp only [List.length_drop, List.length_take]; rfl)) ?_
  with_reducible refine (spec_LongestChain.calls k t384 t385 t386 _ _ t387 t390 t391 t392 t393 t394 t395 t396 t397 _ ?side1 ?side2 A11.out).mono ?_
  (case side1 => repeat (first | exact (Kd.R_reads' HO389.out).2.2 | (with_reducible refine Kd.C_alloc ?_ _) | (with_reducible refine Kd.C_drewN ?_ _) | (with_reducible refine Kd.C_drew ?_)))
  (case side2 => exact (Kd.R_reads' HO389.out).2.1)
  rintro e w24 ⟨rfl, hb⟩
  refine ⟨_, rfl, ?_⟩
  have n0_ := am (Kd.R_below (kr HO389) hb)
  have n1_ := bB BK381 hb
  have n2_ := bB BK382 hb
  have n3_ := am (below_step (be HB) hb)
  clear HO389
  clear BK381
  clear BK382
  clear HB
  have HO389 := n0_
  have BK381 := n1_
  have BK382 := n2_
  have HB := n3_
  clear n0_ n1_ n2_ n3_
  (try clear hb)
  (try clear hb2)
  (try clear hk)
  (try clear hi)
  refine hK.out _ _ ⟨(blk_cell BK381.out 0).trans rfl, (blk_cell BK381.out 1).trans rfl, at_cells BK381.out, BayAt26_of BK381.out, lvv_of BK381.out, (blk_cell BK382.out 0).trans rfl, (blk_cell BK382.out 1).trans rfl, (blk_cell BK382.out 2).trans rfl, (blk_cell BK382.out 3).trans rfl, (blk_cell BK382.out 4).trans rfl, (blk_cell BK382.out 5).trans rfl⟩ (fun hHeld => ?_)
  clear hK K
  refine norm_ (a' := ?_) ?_ ?_
  rotate_left
  ·show Act.put _ (some 25) _ = _
   simp only [Act.put, List.setIfInBounds_toArray, List.set_cons_zero, List.set_cons_succ, i64_w, i32_w]
   rfl
  refine pS (i := 7) (some 18) #[true, true, true, true, true, true, true, true, false, false, false, false] (any_of HT_.out (by kernel_rfl)) ?_
  refine pS (i := 8) (some 26) #[true, true, true, true, true, true, true, true, true, false, false, false] (any_of HT_.out (by kernel_rfl)) ?_
  refine pS (i := 9) (some 27) #[true, true, true, true, true, true, true, true, true, true, false, false] (any_of HT_.out (by kernel_rfl)) ?_
  refine pS (i := 10) (some 8) #[true, true, true, true, true, true, true, true, true, true, true, false] (any_of HT_.out (by kernel_rfl)) ?_
  refine pS (i := 11) (some 9) #[true, true, true, true, true, true, true, true, true, true, true, true] (any_of HT_.out (by kernel_rfl)) ?_
  refine done_ (done_of HT_.out (by kernel_rfl)) ?_
  try go_wp2_with (first | ((with_reducible refine gate_callee (f := 33) rfl ?_); refine gL (some 29) Try.func33 #[.slice A1 l1.length c1] ?_; (with_reducible refine (laws_toBoatS.calls k _ _ l1 t398 _ ?side1 ?side2 A12.out).mono ?_); (case side1 => repeat (first | exact (Kd.C_below HR1.out HB.out) | (with_reducible refine Kd.C_alloc ?_ _) | (with_reducible refine Kd.C_drewN ?_ _) | (with_reducible refine Kd.C_drew ?_))); (case side2 => exact HC1.out); rintro e w25 ⟨v399, rfl, ho0, hb⟩; refine ⟨_, rfl, ?_⟩; have HO400 := am (Kd.R_lower (Kd.R_new' ho0 (Kd.R_lt (kr HO389))) (below_size (be HB))); replace HO389 := am (Kd.R_elder' (kr HO389) (Kd.R_base ho0) hb); replace BK381 := bB BK381 hb; replace BK382 := bB BK382 hb; replace HB := am (below_step (be HB) hb); (try clear hb); (try clear hb2); (try clear hk); (try clear hi); (try clear ho0)))
  have n0_ := am (Kd.R_drew HO389.out)
  have n1_ := am (Kd.R_drew HO400.out)
  have n2_ := am (blk_drew BK381.out)
  have n3_ := am (blk_drew BK382.out)
  have n4_ := am (below_drew1 HB.out)
  clear HO389
  clear HO400
  clear BK381
  clear BK382
  clear HB
  have HO389 := n0_
  have HO400 := n1_
  have BK381 := n2_
  have BK382 := n3_
  have HB := n4_
  clear n0_ n1_ n2_ n3_ n4_
  refine start_ (n := 11) (S := fun w' => w'.cell? ⟨gb381, 0, none⟩ = some (.int .i8 a0_0) ∧ w'.cell? ⟨gb381, 1, none⟩ = some (.int .i8 a0_1) ∧ atCells w' gb381 a0_2 ∧ BayAt26 w' gb381 ∧ lvv w' gb381 = .agg (csBay a0_0 a0_1 a0_2) ∧ w'.cell? ⟨gb382, 0, none⟩ = some (.int .i8 a2_0) ∧ w'.cell? ⟨gb382, 1, none⟩ = some (.int .i8 a2_1) ∧ w'.cell? ⟨gb382, 2, none⟩ = some (.int .i8 a2_2) ∧ w'.cell? ⟨gb382, 3, none⟩ = some (.int .i8 a2_3) ∧ w'.cell? ⟨gb382, 4, none⟩ = some (.int .i8 a2_4) ∧ w'.cell? ⟨gb382, 5, none⟩ = some (.int .i8 a2_5)) (ds := []) #[false, false, false, false, false, false, false, false, false, false, false] (by kernel_rfl) rfl rfl ⟨(blk_cell BK381.out 0).trans rfl, (blk_cell BK381.out 1).trans rfl, at_cells BK381.out, BayAt26_of BK381.out, lvv_of BK381.out, (blk_cell BK382.out 0).trans rfl, (blk_cell BK382.out 1).trans rfl, (blk_cell BK382.out 2).trans rfl, (blk_cell BK382.out 3).trans rfl, (blk_cell BK382.out 4).trans rfl, (blk_cell BK382.out 5).trans rfl⟩ (fun hHeld => ?_); refine with_tabW laws_FnExactLongestChain.tab7 laws_FnExactLongestChain.bits7 (fun HT_ HW_ => ?_)
  generalize w25.drew = w26 at HO389 HO400 BK381 BK382 HB hHeld ⊢
  refine pS (i := 2) (some 33) #[false, false, true, false, false, false, false, false, false, false, false] (any_of HT_.out (by kernel_rfl)) ?_
  refine tS (i := 0) (some 31) #[true, false, true, false, false, false, false, false, false, false, false] (take_ofW HT_.out HW_.out (by kernel_rfl)) hHeld ?_
  refine tS (i := 3) (some 34) #[true, false, true, true, false, false, false, false, false, false, false] (take_ofW HT_.out HW_.out (by kernel_rfl)) hHeld ?_
  refine one_ (i := 1) (N := some 32) #[true, true, true, true, false, false, false, false, false, false, false] rfl rfl (one_of HT_.out (by kernel_rfl)) (by decide) (fun K hK => ?_)
  refine goes_ Try.func26 (by kernel_rfl) rfl #[.agg (csBay a0_0 a0_1 a0_2)] (by rfl) rfl rfl (by (try simp only [List.map_toArray, List.map_cons, List.map_nil]); first | done | rfl | (simp only [List.length_drop, List.length_take]; rfl)) ?_
  with_reducible refine (laws_toBay.calls a0_0 a0_1 a0_2 t401 t402 t403 _ A13.out).mono ?_
  rintro e w27 ⟨rfl, hb⟩
  refine ⟨_, rfl, ?_⟩
  have n0_ := am (Kd.R_below (kr HO389) hb)
  have n1_ := am (Kd.R_below (kr HO400) hb)
  have n2_ := bB BK381 hb
  have n3_ := bB BK382 hb
  have n4_ := am (below_step (be HB) hb)
  clear HO389
  clear HO400
  clear BK381
  clear BK382
  clear HB
  have HO389 := n0_
  have HO400 := n1_
  have BK381 := n2_
  have BK382 := n3_
  have HB := n4_
  clear n0_ n1_ n2_ n3_ n4_
  (try clear hb)
  (try clear hb2)
  (try clear hk)
  (try clear hi)
  refine hK.out _ _ ⟨(blk_cell BK381.out 0).trans rfl, (blk_cell BK381.out 1).trans rfl, at_cells BK381.out, BayAt26_of BK381.out, lvv_of BK381.out, (blk_cell BK382.out 0).trans rfl, (blk_cell BK382.out 1).trans rfl, (blk_cell BK382.out 2).trans rfl, (blk_cell BK382.out 3).trans rfl, (blk_cell BK382.out 4).trans rfl, (blk_cell BK382.out 5).trans rfl⟩ (fun hHeld => ?_)
  clear hK K
  refine norm_ (a' := ?_) ?_ ?_
  rotate_left
  ·show Act.put _ (some 32) _ = _
   simp only [Act.put, List.setIfInBounds_toArray, List.set_cons_zero, List.set_cons_succ, i64_w, i32_w]
   rfl
  refine one_ (i := 4) (N := some 35) #[true, true, true, true, true, false, false, false, false, false, false] rfl rfl (one_of HT_.out (by kernel_rfl)) (by decide) (fun K hK => ?_)
  refine goes_ Try.func29 (by kernel_rfl) rfl #[.agg #[.int .i8 a2_0, .int .i8 a2_1, .int .i8 a2_2, .int .i8 a2_3, .int .i8 a2_4, .int .i8 a2_5]] (by rfl) rfl rfl (by (try simp only [List.map_toArray, List.map_cons, List.map_nil]); first | done | rfl | (simp only [List.length_drop, List.length_take]; rfl)) ?_
  with_reducible refine (laws_toBoat.calls a2_0 a2_1 a2_2 a2_3 a2_4 a2_5 t404 t405 t406 t407 t408 t409 _ A14.out).mono ?_
  rintro e w28 ⟨rfl, hb⟩
  refine ⟨_, rfl, ?_⟩
  have n0_ := am (Kd.R_below (kr HO389) hb)
  have n1_ := am (Kd.R_below (kr HO400) hb)
  have n2_ := bB BK381 hb
  have n3_ := bB BK382 hb
  have n4_ := am (below_step (be HB) hb)
  clear HO389
  clear HO400
  clear BK381
  clear BK382
  clear HB
  have HO389 := n0_
  have HO400 := n1_
  have BK381 := n2_
  have BK382 := n3_
  have HB := n4_
  clear n0_ n1_ n2_ n3_ n4_
  (try clear hb)
  (try clear hb2)
  (try clear hk)
  (try clear hi)
  obtain ⟨Ao29, co29, eo29⟩ := Kd.R_slice HO400.out
  (first | subst eo29 | (injection eo29 with f1_ f2_ f3_; have f4_ := f1_.symm; have f5_ := f3_.symm; clear f1_ f2_ f3_; subst f4_; subst f5_))
  refine hK.out _ _ ⟨(blk_cell BK381.out 0).trans rfl, (blk_cell BK381.out 1).trans rfl, at_cells BK381.out, BayAt26_of BK381.out, lvv_of BK381.out, (blk_cell BK382.out 0).trans rfl, (blk_cell BK382.out 1).trans rfl, (blk_cell BK382.out 2).trans rfl, (blk_cell BK382.out 3).trans rfl, (blk_cell BK382.out 4).trans rfl, (blk_cell BK382.out 5).trans rfl⟩ (fun hHeld => ?_)
  clear hK K
  refine norm_ (a' := ?_) ?_ ?_
  rotate_left
  ·show Act.put _ (some 35) _ = _
   simp only [Act.put, List.setIfInBounds_toArray, List.set_cons_zero, List.set_cons_succ, i64_w, i32_w]
   rfl
  refine one_ (i := 5) (N := some 36) #[true, true, true, true, true, true, false, false, false, false, false] rfl rfl (one_of HT_.out (by kernel_rfl)) (by decide) (fun K hK => ?_)
  refine goes_ Try.func63 (by kernel_rfl) rfl #[.agg (csBay t401 t402 t403), .slice Ao29 t398.length co29, .agg #[.int .i8 t404, .int .i8 t405, .int .i8 t406, .int .i8 t407, .int .i8 t408, .int .i8 t409]] (by rfl) rfl rfl (by (try simp only [List.map_toArray, List.map_cons, List.map_nil]); first | done | rfl | (simp only [List.length_drop, List.length_take]; rfl)) ?_
  with_reducible refine (impl_LongestChain.calls k t401 t402 t403 _ _ t398 t404 t405 t406 t407 t408 t409 t410 t411 _ ?side1 ?side2 A15.out).mono ?_
  (case side1 => repeat (first | exact (Kd.R_reads' HO400.out).2.2 | (with_reducible refine Kd.C_alloc ?_ _) | (with_reducible refine Kd.C_drewN ?_ _) | (with_reducible refine Kd.C_drew ?_)))
  (case side2 => exact (Kd.R_reads' HO400.out).2.1)
  rintro e w30 ⟨rfl, hb⟩
  refine ⟨_, rfl, ?_⟩
  have n0_ := am (Kd.R_below (kr HO389) hb)
  have n1_ := am (Kd.R_below (kr HO400) hb)
  have n2_ := bB BK381 hb
  have n3_ := bB BK382 hb
  have n4_ := am (below_step (be HB) hb)
  clear HO389
  clear HO400
  clear BK381
  clear BK382
  clear HB
  have HO389 := n0_
  have HO400 := n1_
  have BK381 := n2_
  have BK382 := n3_
  have HB := n4_
  clear n0_ n1_ n2_ n3_ n4_
  (try clear hb)
  (try clear hb2)
  (try clear hk)
  (try clear hi)
  refine hK.out _ _ ⟨(blk_cell BK381.out 0).trans rfl, (blk_cell BK381.out 1).trans rfl, at_cells BK381.out, BayAt26_of BK381.out, lvv_of BK381.out, (blk_cell BK382.out 0).trans rfl, (blk_cell BK382.out 1).trans rfl, (blk_cell BK382.out 2).trans rfl, (blk_cell BK382.out 3).trans rfl, (blk_cell BK382.out 4).trans rfl, (blk_cell BK382.out 5).trans rfl⟩ (fun hHeld => ?_)
  clear hK K
  refine norm_ (a' := ?_) ?_ ?_
  rotate_left
  ·show Act.put _ (some 36) _ = _
   simp only [Act.put, List.setIfInBounds_toArray, List.set_cons_zero, List.set_cons_succ, i64_w, i32_w]
   rfl
  refine pS (i := 6) (some 30) #[true, true, true, true, true, true, true, false, false, false, false] (any_of HT_.out (by kernel_rfl)) ?_
  refine pS (i := 7) (some 37) #[true, true, true, true, true, true, true, true, false, false, false] (any_of HT_.out (by kernel_rfl)) ?_
  refine pS (i := 8) (some 38) #[true, true, true, true, true, true, true, true, true, false, false] (any_of HT_.out (by kernel_rfl)) ?_
  refine pS (i := 9) (some 11) #[true, true, true, true, true, true, true, true, true, true, false] (any_of HT_.out (by kernel_rfl)) ?_
  refine pS (i := 10) (some 12) #[true, true, true, true, true, true, true, true, true, true, true] (any_of HT_.out (by kernel_rfl)) ?_
  refine done_ (done_of HT_.out (by kernel_rfl)) ?_
  go_upto_region 8 with (fail)
  go_cut [46] (fun v46 wc => ∃ (kq : Nat) (x46_15 : Bool), v46 = .bool x46_15 ∧ Aside0 (laws_FnExactLongestChain.j0 kq l1 t398 x46_15 = some r) ∧ Aside0 (kq ≤ k) ∧ Aside0 (Kd.R k38 38 wc w.heap.size (fun _ => True) (.slice Ao29 t398.length co29) t398) ∧ Aside0 (wc.heap[gb381]? = some (.cells (csBay a0_0 a0_1 a0_2) 26 (0, 0))) ∧ Aside0 (wc.heap[gb382]? = some (.cells #[.int .i8 a2_0, .int .i8 a2_1, .int .i8 a2_2, .int .i8 a2_3, .int .i8 a2_4, .int .i8 a2_5] 34 (0, 0))) ∧ Aside0 (Below w.heap.size w wc))
  case first =>
   have H := HC16.out
   clear HC16
   by_cases c31 : t410 = t396
   ·rw [if_pos c31] at H
    have c31b0 : (t410 == t396) = true := beq_iff_eq.mpr c31
    have c31b1 : (t410 != t396) = false := bne_eq_false_iff_eq.mpr c31
    clear c31
    (first | rw [c31b0] | (simp only [i64_w, i32_w]; rw [c31b0]) | skip)
    have H' := am H
    clear H
    go_wp2
    go_meet
    case rel => exact ⟨_, ((t411 != t397)), vv, H', ⟨by first | omega | exact Nat.le_refl _⟩, ⟨by (with_reducible repeat (first | apply Kd.R_alloc | apply Kd.R_drewN | apply Kd.R_drew)); exact Kd.R_mono HO400.out (fun _ hk => trivial)⟩, ⟨kb BK381⟩, ⟨kb BK382⟩, ⟨be HB⟩⟩
   ·rw [if_neg c31] at H
    have c31b0 : (t410 == t396) = false := beq_eq_false_iff_ne.mpr c31
    have c31b1 : (t410 != t396) = true := bne_iff_ne.mpr c31
    (first | rw [c31b0] | (simp only [i64_w, i32_w]; rw [c31b0]) | skip)
    have H' := am H
    clear H
    go_wp2
    go_meet
    case rel => exact ⟨_, (true), vv, H', ⟨by first | omega | exact Nat.le_refl _⟩, ⟨by (with_reducible repeat (first | apply Kd.R_alloc | apply Kd.R_drewN | apply Kd.R_drew)); exact Kd.R_mono HO400.out (fun _ hk => trivial)⟩, ⟨kb BK381⟩, ⟨kb BK382⟩, ⟨be HB⟩⟩
  case rest =>
   clear HC16
   try clear c1
   try clear c2
   try clear p2
   try clear c3
   try clear c5
   try clear c5b0
   try clear c6
   try clear c15
   try clear c26
   try clear c29
   try clear c31
   try clear c31b0
   try clear c31b1
   obtain ⟨kq, x46_15, rfl, HA, HJ15, HO_10, BK381, BK382, HB⟩ := hcut
   cases kq with
   | zero => exact absurd HA.out (by simp [laws_FnExactLongestChain.j0])
   | succ kj15 =>
    have H := HA.out
    clear HA
    simp only [laws_FnExactLongestChain.j0] at H
    by_cases c32 : x46_15 = true
    ·subst c32
     rw [if_pos rfl] at H
     obtain rfl := Option.some.inj H
     go_wp2
     go_ret
     exact ⟨by first | rfl | (simp [errW_none, errW_some] <;> rfl) | (simp [*, errW_none, errW_some] <;> rfl), be HB⟩
    ·replace c32 := Bool.eq_false_iff.mpr c32
     subst c32
     have H1 : ((laws_toBoatS.f kj15 l1).bind fun t412 => ((laws_eqBoatS.f kj15 t398 t412).bind fun t415 => (if t415 = true then (some true) else (some false)))) = some r := by rw [if_neg (show ¬ (false = true) by decide)] at H; exact H
     clear H
     have H := H1
     clear H1
     replace H := Option.bind_eq_some_iff.mp H
     obtain ⟨t412, A330, H⟩ := H
     try dsimp only at H
     have A33 := am A330
     clear A330
     replace H := Option.bind_eq_some_iff.mp H
     obtain ⟨t415, A340, H⟩ := H
     try dsimp only at H
     have A34 := am A340
     clear A340
     by_cases c35 : t415 = true
     ·subst c35
      rw [if_pos rfl] at H
      obtain rfl := Option.some.inj H
      go_wp2_with (first | ((with_reducible refine gate_callee (f := 33) rfl ?_); refine gL (some 49) Try.func33 #[.slice A1 l1.length c1] ?_; (with_reducible refine (laws_toBoatS.calls kj15 _ _ l1 t412 _ ?side1 ?side2 A33.out).mono ?_); (case side1 => repeat (first | exact (Kd.C_below HR1.out HB.out) | (with_reducible refine Kd.C_alloc ?_ _) | (with_reducible refine Kd.C_drewN ?_ _) | (with_reducible refine Kd.C_drew ?_))); (case side2 => exact HC1.out); rintro e w36 ⟨v413, rfl, ho0, hb⟩; refine ⟨_, rfl, ?_⟩; have HO414 := am (Kd.R_lower (Kd.R_new' ho0 (Kd.R_lt (kr HO_10))) (below_size (be HB))); replace HO_10 := am (Kd.R_elder' (kr HO_10) (Kd.R_base ho0) hb); replace BK381 := bB BK381 hb; replace BK382 := bB BK382 hb; replace HB := am (below_step (be HB) hb); (try clear hb); (try clear hb2); (try clear hk); (try clear hi); (try clear ho0); obtain ⟨Ao37, co37, eo37⟩ := Kd.R_slice HO414.out; subst eo37) | ((with_reducible refine gate_callee (f := 35) rfl ?_); refine gL (some 50) Try.func35 #[.slice Ao29 t398.length co29, .slice Ao37 t412.length co37] ?_; (with_reducible refine (laws_eqBoatS.calls kj15 _ _ t398 _ _ t412 true _ ?side1 ?side2 ?side3 ?side4 A34.out).mono ?_); (case side1 => repeat (first | exact (Kd.R_reads' HO_10.out).2.2 | (with_reducible refine Kd.C_alloc ?_ _) | (with_reducible refine Kd.C_drewN ?_ _) | (with_reducible refine Kd.C_drew ?_))); (case side2 => exact (Kd.R_reads' HO_10.out).2.1); (case side3 => repeat (first | exact (Kd.R_reads' HO414.out).2.2 | (with_reducible refine Kd.C_alloc ?_ _) | (with_reducible refine Kd.C_drewN ?_ _) | (with_reducible refine Kd.C_drew ?_))); (case side4 => exact (Kd.R_reads' HO414.out).2.1); rintro e w38 ⟨rfl, hb⟩; refine ⟨_, rfl, ?_⟩; replace HO_10 := am (Kd.R_below (kr HO_10) hb); replace HO414 := am (Kd.R_below (kr HO414) hb); replace BK381 := bB BK381 hb; replace BK382 := bB BK382 hb; replace HB := am (below_step (be HB) hb); (try clear hb); (try clear hb2); (try clear hk); (try clear hi)))
      go_ret
      exact ⟨by first | rfl | (simp [errW_none, errW_some] <;> rfl) | (simp [*, errW_none, errW_some] <;> rfl), be HB⟩
     ·replace c35 := Bool.eq_false_iff.mpr c35
      subst c35
      have H1 : (some false) = some r := by rw [if_neg (show ¬ (false = true) by decide)] at H; exact H
      clear H
      have H := H1
      clear H1
      obtain rfl := Option.some.inj H
      go_wp2_with (first | ((with_reducible refine gate_callee (f := 33) rfl ?_); refine gL (some 49) Try.func33 #[.slice A1 l1.length c1] ?_; (with_reducible refine (laws_toBoatS.calls kj15 _ _ l1 t412 _ ?side1 ?side2 A33.out).mono ?_); (case side1 => repeat (first | exact (Kd.C_below HR1.out HB.out) | (with_reducible refine Kd.C_alloc ?_ _) | (with_reducible refine Kd.C_drewN ?_ _) | (with_reducible refine Kd.C_drew ?_))); (case side2 => exact HC1.out); rintro e w39 ⟨v413, rfl, ho0, hb⟩; refine ⟨_, rfl, ?_⟩; have HO414 := am (Kd.R_lower (Kd.R_new' ho0 (Kd.R_lt (kr HO_10))) (below_size (be HB))); replace HO_10 := am (Kd.R_elder' (kr HO_10) (Kd.R_base ho0) hb); replace BK381 := bB BK381 hb; replace BK382 := bB BK382 hb; replace HB := am (below_step (be HB) hb); (try clear hb); (try clear hb2); (try clear hk); (try clear hi); (try clear ho0); obtain ⟨Ao40, co40, eo40⟩ := Kd.R_slice HO414.out; subst eo40) | ((with_reducible refine gate_callee (f := 35) rfl ?_); refine gL (some 50) Try.func35 #[.slice Ao29 t398.length co29, .slice Ao40 t412.length co40] ?_; (with_reducible refine (laws_eqBoatS.calls kj15 _ _ t398 _ _ t412 false _ ?side1 ?side2 ?side3 ?side4 A34.out).mono ?_); (case side1 => repeat (first | exact (Kd.R_reads' HO_10.out).2.2 | (with_reducible refine Kd.C_alloc ?_ _) | (with_reducible refine Kd.C_drewN ?_ _) | (with_reducible refine Kd.C_drew ?_))); (case side2 => exact (Kd.R_reads' HO_10.out).2.1); (case side3 => repeat (first | exact (Kd.R_reads' HO414.out).2.2 | (with_reducible refine Kd.C_alloc ?_ _) | (with_reducible refine Kd.C_drewN ?_ _) | (with_reducible refine Kd.C_drew ?_))); (case side4 => exact (Kd.R_reads' HO414.out).2.1); rintro e w41 ⟨rfl, hb⟩; refine ⟨_, rfl, ?_⟩; replace HO_10 := am (Kd.R_below (kr HO_10) hb); replace HO414 := am (Kd.R_below (kr HO414) hb); replace BK381 := bB BK381 hb; replace BK382 := bB BK382 hb; replace HB := am (below_step (be HB) hb); (try clear hb); (try clear hb2); (try clear hk); (try clear hi)))
      go_ret
      exact ⟨by first | rfl | (simp [errW_none, errW_some] <;> rfl) | (simp [*, errW_none, errW_some] <;> rfl), be HB⟩

end Go.Proofs.Ytcollbifdfhfoaa.PFnExactLongestChain
