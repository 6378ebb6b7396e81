-- Written by a program out of this seat's translation (functions, and that the code comes to them).
import Derived.Test.YtcollbifdfhfoaaPFnExactPlacesForx0
import Derived.Test.YtcollbifdfhfoaaPFnExactPlacesForx2
import Derived.Test.YtcollbifdfhfoaaPFnExactPlacesForx3
import Derived.Test.YtcollbifdfhfoaaPFnExactPlacesForx8
import Derived.Test.YtcollbifdfhfoaaPFnExactPlacesForx14
namespace Go.Proofs.Ytcollbifdfhfoaa.PFnExactPlacesFor
open Go.RowKit Go.Proofs.YtcollbifdfhfoaaW.PrintWords Go.Proofs.YtcollbifdfhfoaaW.PrintLast Go.Proofs.YtcollbifdfhfoaaW.PrintMore
attribute [local go_sem] max2_int min2_int max_two min_two max_three min_three max_four min_four   -- for this text's walks alone
open Go.Proofs.Ytcollbifdfhfoaa.Bay Go.Proofs.Ytcollbifdfhfoaa.Short
attribute [local go_sem ↓] lv26_eq lv28_eq
attribute [local go_sem] lvv_set lvv_drewN lvv_drew lv26_run BayAt26_set BayAt26_drewN BayAt26_drew lv28_run BayAt28_set BayAt28_drewN BayAt28_drew
set_option linter.unusedVariables false
set_option linter.unusedSimpArgs false

/-! ### laws_FnExactPlacesFor: function 18 -/
mutual
def laws_FnExactPlacesFor.j0 : Nat → List (S34) → List (S36) → Int → List (S38) → List (S36) → Int → Bool → Int → Int → (Nat → Int) → Int → Int → Int → Int → Int → Int → Option (Bool)
 | 0, _, _, _, _, _, _, _, _, _, _, _, _, _, _, _, _ => none
 | k + 1, x1, x8, x9, x10, x11, x12, x52, x428000, x428001, x428002, x429000, x429001, x429002, x429003, x429004, x429005 => if x52 = true then (some false) else ((laws_toBoatS.f k x1).bind fun t463 => ((laws_eqBoatS.f k x10 t463).bind fun t466 => (if t466 = true then ((laws_markBoatS.f k x10 1).bind fun bt467 => (if bt467.1 < 0 then (laws_FnExactPlacesFor.j1 k x1 x8 x9 x11 true x428000 x428001 x428002 x429000 x429001 x429002 x429003 x429004 x429005) else ((laws_eqPlaceS.f k x11 x8).bind fun t469 => (if t469 = true then (laws_FnExactPlacesFor.j1 k x1 x8 x9 x11 (x12 != x9) x428000 x428001 x428002 x429000 x429001 x429002 x429003 x429004 x429005) else (laws_FnExactPlacesFor.j1 k x1 x8 x9 x11 true x428000 x428001 x428002 x429000 x429001 x429002 x429003 x429004 x429005))))) else (some false))))
def laws_FnExactPlacesFor.j1 : Nat → List (S34) → List (S36) → Int → List (S36) → Bool → Int → Int → (Nat → Int) → Int → Int → Int → Int → Int → Int → Option (Bool)
 | 0, _, _, _, _, _, _, _, _, _, _, _, _, _, _ => none
 | k + 1, x1, x8, x9, x11, x73, x428000, x428001, x428002, x429000, x429001, x429002, x429003, x429004, x429005 => if x73 = true then (some false) else ((laws_markPlaceS.f k x11 1).bind fun bt470 => ((laws_heldPlaceS.f k bt470.2 1).bind fun t472 => (if t472 < 0 then (some false) else (if t472 = bt470.1 then ((laws_toBay.f x428000 x428001 x428002).bind fun bt473 => ((laws_toBoatS.f k x1).bind fun t476 => ((laws_toBoat.f x429000 x429001 x429002 x429003 x429004 x429005).bind fun bt479 => ((impl_PlacesFor.f k bt473.1 bt473.2.1 bt473.2.2 t476 bt479.1 bt479.2.1 bt479.2.2.1 bt479.2.2.2.1 bt479.2.2.2.2.1 bt479.2.2.2.2.2).bind fun bt485 => ((laws_eqPlaceS.f k bt485.1 x8).bind fun t489 => (if t489 = true then (laws_FnExactPlacesFor.j2 k bt470.2 bt470.1 (bt485.2 != x9)) else (laws_FnExactPlacesFor.j2 k bt470.2 bt470.1 true))))))) else (some false)))))
def laws_FnExactPlacesFor.j2 : Nat → List (S36) → Int → Bool → Option (Bool)
 | 0, _, _, _ => none
 | k + 1, x11, x14, x103 => if x103 = true then (some false) else ((laws_heldPlaceS.f k x11 1).bind fun t490 => (if t490 < 0 then (some false) else (if t490 = x14 then (some true) else (some false))))
end
def laws_FnExactPlacesFor.f (k : Nat) (a0_0 : Int) (a0_1 : Int) (a0_2 : (Nat → Int)) (l1 : List (S34)) (a2_0 : Int) (a2_1 : Int) (a2_2 : Int) (a2_3 : Int) (a2_4 : Int) (a2_5 : Int) : Option (Bool) := (laws_szBoatS.f l1 1048576).bind fun t429 => (if t429 < 0 then (some true) else ((laws_toBay.f a0_0 a0_1 a0_2).bind fun bt430 => ((laws_toBoatS.f k l1).bind fun t433 => ((laws_toBoat.f a2_0 a2_1 a2_2 a2_3 a2_4 a2_5).bind fun bt436 => ((spec_PlacesFor.f k bt430.1 bt430.2.1 bt430.2.2 t433 bt436.1 bt436.2.1 bt436.2.2.1 bt436.2.2.2.1 bt436.2.2.2.2.1 bt436.2.2.2.2.2).bind fun bt442 => ((laws_toBoatS.f k l1).bind fun t446 => ((laws_toBay.f a0_0 a0_1 a0_2).bind fun bt449 => ((laws_toBoat.f a2_0 a2_1 a2_2 a2_3 a2_4 a2_5).bind fun bt452 => ((impl_PlacesFor.f k bt449.1 bt449.2.1 bt449.2.2 t446 bt452.1 bt452.2.1 bt452.2.2.1 bt452.2.2.2.1 bt452.2.2.2.2.1 bt452.2.2.2.2.2).bind fun bt458 => ((laws_eqPlaceS.f k bt458.1 bt442.1).bind fun t462 => (if t462 = true then (laws_FnExactPlacesFor.j0 k l1 bt442.1 bt442.2 t446 bt458.1 bt458.2 (bt458.2 != bt442.2) a0_0 a0_1 a0_2 a2_0 a2_1 a2_2 a2_3 a2_4 a2_5) else (laws_FnExactPlacesFor.j0 k l1 bt442.1 bt442.2 t446 bt458.1 bt458.2 true a0_0 a0_1 a0_2 a2_0 a2_1 a2_2 a2_3 a2_4 a2_5))))))))))))
def laws_FnExactPlacesFor.T5 : Bool × List (List Nat × List Nat) := (true, [([], []), ([0], [0]), ([], []), ([2, 1], [2]), ([], []), ([4, 3], [4]), ([1, 3, 5, 5], [1, 3, 5]), ([6], [6]), ([7], [7]), ([7], [7]), ([8, 6, 0, 1, 2, 3, 4, 5, 6, 7, 8], [8]), ([9, 10, 0, 1, 2, 3, 4, 5, 6, 7, 8, 9, 10], [9])])
def laws_FnExactPlacesFor.B5 : List Nat := [0, 1, 0, 7, 0, 31, 63, 127, 255, 255, 511, 2047]
theorem laws_FnExactPlacesFor.tab5 : rtab .any (opsOf Try.f18 5) = laws_FnExactPlacesFor.T5 := by kernel_rfl
theorem laws_FnExactPlacesFor.bits5 : waitsOk laws_FnExactPlacesFor.T5.2 laws_FnExactPlacesFor.B5 = true := by kernel_rfl
def laws_FnExactPlacesFor.T7 : Bool × List (List Nat × List Nat) := (true, [([], []), ([0], [0]), ([], []), ([], []), ([3, 1], [3]), ([1, 2, 4, 4], [1, 2, 4]), ([5], [5]), ([6], [6]), ([6], [6]), ([7, 5, 0, 1, 2, 3, 4, 5, 6, 7], [7]), ([8, 9, 0, 1, 2, 3, 4, 5, 6, 7, 8, 9], [8])])
def laws_FnExactPlacesFor.B7 : List Nat := [0, 1, 0, 0, 11, 31, 63, 127, 127, 255, 1023]
theorem laws_FnExactPlacesFor.tab7 : rtab .any (opsOf Try.f18 7) = laws_FnExactPlacesFor.T7 := by kernel_rfl
theorem laws_FnExactPlacesFor.bits7 : waitsOk laws_FnExactPlacesFor.T7.2 laws_FnExactPlacesFor.B7 = true := by kernel_rfl
def laws_FnExactPlacesFor.T24 : Bool × List (List Nat × List Nat) := (true, [([], []), ([0], [0]), ([], []), ([2, 1], [2]), ([], []), ([4, 3], [4]), ([1, 3, 5, 5], [1, 3, 5]), ([6], [6]), ([7], [7]), ([7], [7]), ([8, 6, 0, 1, 2, 3, 4, 5, 6, 7, 8], [8]), ([9, 10, 0, 1, 2, 3, 4, 5, 6, 7, 8, 9, 10], [9])])
def laws_FnExactPlacesFor.B24 : List Nat := [0, 1, 0, 7, 0, 31, 63, 127, 255, 255, 511, 2047]
theorem laws_FnExactPlacesFor.tab24 : rtab .any (opsOf Try.f18 24) = laws_FnExactPlacesFor.T24 := by kernel_rfl
theorem laws_FnExactPlacesFor.bits24 : waitsOk laws_FnExactPlacesFor.T24.2 laws_FnExactPlacesFor.B24 = true := by kernel_rfl
set_option maxHeartbeats 8000000 in
set_option maxRecDepth 100000 in
theorem laws_FnExactPlacesFor.calls (k : Nat) (a0_0 : Int) (a0_1 : Int) (a0_2 : (Nat → Int)) (A1 : Option Addr) (c1 : Nat) (l1 : List (S34)) (a2_0 : Int) (a2_1 : Int) (a2_2 : Int) (a2_3 : Int) (a2_4 : Int) (a2_5 : Int) (r : Bool) (w : World) (hr1 : Kd.C k34 w A1 l1.length l1) (hc1 : l1.length ≤ c1) (h : laws_FnExactPlacesFor.f k a0_0 a0_1 a0_2 l1 a2_0 a2_1 a2_2 a2_3 a2_4 a2_5 = some r) :
  Calls Try.prog 18 #[.agg (csBay a0_0 a0_1 a0_2), .slice A1 l1.length c1, .agg #[.int .i8 a2_0, .int .i8 a2_1, .int .i8 a2_2, .int .i8 a2_3, .int .i8 a2_4, .int .i8 a2_5]] w fun e w' => e = .returned (.bool r) ∧ Below w.heap.size w w' := by
 have hu26 := Try.underlying26
 have hu34 := Try.underlying34
 have HR1 := am hr1
 have HC1 := am hc1
 clear hr1 hc1
 have HB := am (Below.refl w.heap.size w)
 have H : ((laws_szBoatS.f l1 1048576).bind fun t429 => (if t429 < 0 then (some true) else ((laws_toBay.f a0_0 a0_1 a0_2).bind fun bt430 => ((laws_toBoatS.f k l1).bind fun t433 => ((laws_toBoat.f a2_0 a2_1 a2_2 a2_3 a2_4 a2_5).bind fun bt436 => ((spec_PlacesFor.f k bt430.1 bt430.2.1 bt430.2.2 t433 bt436.1 bt436.2.1 bt436.2.2.1 bt436.2.2.2.1 bt436.2.2.2.2.1 bt436.2.2.2.2.2).bind fun bt442 => ((laws_toBoatS.f k l1).bind fun t446 => ((laws_toBay.f a0_0 a0_1 a0_2).bind fun bt449 => ((laws_toBoat.f a2_0 a2_1 a2_2 a2_3 a2_4 a2_5).bind fun bt452 => ((impl_PlacesFor.f k bt449.1 bt449.2.1 bt449.2.2 t446 bt452.1 bt452.2.1 bt452.2.2.1 bt452.2.2.2.1 bt452.2.2.2.2.1 bt452.2.2.2.2.2).bind fun bt458 => ((laws_eqPlaceS.f k bt458.1 bt442.1).bind fun t462 => (if t462 = true then (laws_FnExactPlacesFor.j0 k l1 bt442.1 bt442.2 t446 bt458.1 bt458.2 (bt458.2 != bt442.2) a0_0 a0_1 a0_2 a2_0 a2_1 a2_2 a2_3 a2_4 a2_5) else (laws_FnExactPlacesFor.j0 k l1 bt442.1 bt442.2 t446 bt458.1 bt458.2 true a0_0 a0_1 a0_2 a2_0 a2_1 a2_2 a2_3 a2_4 a2_5))))))))))))) = some r := h
 clear h
 replace H := Option.bind_eq_some_iff.mp H
 obtain ⟨t429, A40, H⟩ := H
 try dsimp only at H
 have A4 := am A40
 clear A40
 by_cases c5 : t429 < 0
 ·rw [if_pos c5] at H
  have c5b0 : decide (t429 < 0) = true := decide_eq_true c5
  clear c5
  obtain rfl := Option.some.inj H
  go_enter Try.func18, Try.ntmps18
  go_wp2_with (first | ((with_reducible refine gate_dst (N := 3) rfl ?_); refine bxe (N := 3) (cs := (csBay a0_0 a0_1 a0_2)) (t := 26) ?_; intro gb427 hg w6 hbox hb; have BK427 := am (hbox); have GW427 := am (gN hg (below_size (be HB))); have GE427 := am (gN hg (below_size (be HB))); replace HB := am (below_step (be HB) hb); clear hb hbox hg) | ((with_reducible refine gate_dst (N := 5) rfl ?_); refine bxe (N := 5) (cs := #[.int .i8 a2_0, .int .i8 a2_1, .int .i8 a2_2, .int .i8 a2_3, .int .i8 a2_4, .int .i8 a2_5]) (t := 34) ?_; intro gb428 hg w7 hbox hb; have BK428 := am (hbox); have GW428 := am (gN hg (below_size (be HB))); have GE428 := am (gN hg (below_size (be HB))); have NB427_428 := nL BK427 hg; have NB428_427 := nR BK427 hg; replace BK427 := bB BK427 hb; replace HB := am (below_step (be HB) hb); clear hb hbox hg) | ((with_reducible refine gate_callee (f := 31) rfl ?_); refine gL (some 20) Try.func31 #[.slice A1 l1.length c1, .int .i64 1048576] ?_; (with_reducible refine (laws_szBoatS.calls _ _ l1 1048576 t429 _ ?side1 ?side2 A4.out).mono ?_); (case side1 => repeat (first | exact (Kd.C_below HR1.out HB.out) | (with_reducible refine Kd.C_alloc ?_ _) | (with_reducible refine Kd.C_drewN ?_ _) | (with_reducible refine Kd.C_drew ?_))); (case side2 => exact HC1.out); rintro e w' ⟨rfl, ⟨nd, rfl⟩⟩; refine ⟨_, rfl, ?_⟩))
  go_ret
  exact ⟨by first | rfl | (simp [errW_none, errW_some] <;> rfl) | (simp [*, errW_none, errW_some] <;> rfl), be HB⟩
 ·rw [if_neg c5] at H
  have c5b0 : decide (t429 < 0) = false := decide_eq_false c5
  clear c5
  replace H := Option.bind_eq_some_iff.mp H
  obtain ⟨⟨t430, t431, t432⟩, A80, H⟩ := H
  try dsimp only at H
  have A8 := am A80
  clear A80
  replace H := Option.bind_eq_some_iff.mp H
  obtain ⟨t433, A90, H⟩ := H
  try dsimp only at H
  have A9 := am A90
  clear A90
  replace H := Option.bind_eq_some_iff.mp H
  obtain ⟨⟨t436, t437, t438, t439, t440, t441⟩, A100, H⟩ := H
  try dsimp only at H
  have A10 := am A100
  clear A100
  replace H := Option.bind_eq_some_iff.mp H
  obtain ⟨⟨t442, t445⟩, A110, H⟩ := H
  try dsimp only at H
  have A11 := am A110
  clear A110
  replace H := Option.bind_eq_some_iff.mp H
  obtain ⟨t446, A120, H⟩ := H
  try dsimp only at H
  have A12 := am A120
  clear A120
  replace H := Option.bind_eq_some_iff.mp H
  obtain ⟨⟨t449, t450, t451⟩, A130, H⟩ := H
  try dsimp only at H
  have A13 := am A130
  clear A130
  replace H := Option.bind_eq_some_iff.mp H
  obtain ⟨⟨t452, t453, t454, t455, t456, t457⟩, A140, H⟩ := H
  try dsimp only at H
  have A14 := am A140
  clear A140
  replace H := Option.bind_eq_some_iff.mp H
  obtain ⟨⟨t458, t461⟩, A150, H⟩ := H
  try dsimp only at H
  have A15 := am A150
  clear A150
  have HC16 := am H
  clear H
  go_enter Try.func18, Try.ntmps18
  try go_wp2_with (first | ((with_reducible refine gate_dst (N := 3) rfl ?_); refine bxe (N := 3) (cs := (csBay a0_0 a0_1 a0_2)) (t := 26) ?_; intro gb427 hg w17 hbox hb; have BK427 := am (hbox); have GW427 := am (gN hg (below_size (be HB))); have GE427 := am (gN hg (below_size (be HB))); replace HB := am (below_step (be HB) hb); clear hb hbox hg) | ((with_reducible refine gate_dst (N := 5) rfl ?_); refine bxe (N := 5) (cs := #[.int .i8 a2_0, .int .i8 a2_1, .int .i8 a2_2, .int .i8 a2_3, .int .i8 a2_4, .int .i8 a2_5]) (t := 34) ?_; intro gb428 hg w18 hbox hb; have BK428 := am (hbox); have GW428 := am (gN hg (below_size (be HB))); have GE428 := am (gN hg (below_size (be HB))); have NB427_428 := nL BK427 hg; have NB428_427 := nR BK427 hg; replace BK427 := bB BK427 hb; replace HB := am (below_step (be HB) hb); clear hb hbox hg) | ((with_reducible refine gate_callee (f := 31) rfl ?_); refine gL (some 20) Try.func31 #[.slice A1 l1.length c1, .int .i64 1048576] ?_; (with_reducible refine (laws_szBoatS.calls _ _ l1 1048576 t429 _ ?side1 ?side2 A4.out).mono ?_); (case side1 => repeat (first | exact (Kd.C_below HR1.out HB.out) | (with_reducible refine Kd.C_alloc ?_ _) | (with_reducible refine Kd.C_drewN ?_ _) | (with_reducible refine Kd.C_drew ?_))); (case side2 => exact HC1.out); rintro e w' ⟨rfl, ⟨nd, rfl⟩⟩; refine ⟨_, rfl, ?_⟩))
  (try (rw [drewN_self w18]; generalize hq_ : World.drewN w18 _ = w18; have n0_ : Aside0 (w18.heap[gb427]? = some (.cells (csBay a0_0 a0_1 a0_2) 26 (0, 0))) := ⟨by rw [← hq_]; exact (kb BK427)⟩; have n1_ : Aside0 (w18.heap[gb428]? = some (.cells #[.int .i8 a2_0, .int .i8 a2_1, .int .i8 a2_2, .int .i8 a2_3, .int .i8 a2_4, .int .i8 a2_5] 34 (0, 0))) := ⟨by rw [← hq_]; exact (kb BK428)⟩; have n2_ : Aside0 (Below w.heap.size w w18) := ⟨by rw [← hq_]; exact (be HB)⟩; clear BK427 BK428 HB hq_; have BK427 := n0_; have BK428 := n1_; have HB := n2_; clear n0_ n1_ n2_))
  have n0_ := am (blk_drew BK427.out)
  have n1_ := am (blk_drew BK428.out)
  have n2_ := am (below_drew1 HB.out)
  clear BK427
  clear BK428
  clear HB
  have BK427 := n0_
  have BK428 := n1_
  have HB := n2_
  clear n0_ n1_ n2_
  refine start_ (n := 12) (S := fun w' => w'.cell? ⟨gb427, 0, none⟩ = some (.int .i8 a0_0) ∧ w'.cell? ⟨gb427, 1, none⟩ = some (.int .i8 a0_1) ∧ atCells w' gb427 a0_2 ∧ BayAt26 w' gb427 ∧ lvv w' gb427 = .agg (csBay a0_0 a0_1 a0_2) ∧ w'.cell? ⟨gb428, 0, none⟩ = some (.int .i8 a2_0) ∧ w'.cell? ⟨gb428, 1, none⟩ = some (.int .i8 a2_1) ∧ w'.cell? ⟨gb428, 2, none⟩ = some (.int .i8 a2_2) ∧ w'.cell? ⟨gb428, 3, none⟩ = some (.int .i8 a2_3) ∧ w'.cell? ⟨gb428, 4, none⟩ = some (.int .i8 a2_4) ∧ w'.cell? ⟨gb428, 5, none⟩ = some (.int .i8 a2_5)) (ds := []) #[false, false, false, false, false, false, false, false, false, false, false, false] (by kernel_rfl) rfl rfl ⟨(blk_cell BK427.out 0).trans rfl, (blk_cell BK427.out 1).trans rfl, at_cells BK427.out, BayAt26_of BK427.out, lvv_of BK427.out, (blk_cell BK428.out 0).trans rfl, (blk_cell BK428.out 1).trans rfl, (blk_cell BK428.out 2).trans rfl, (blk_cell BK428.out 3).trans rfl, (blk_cell BK428.out 4).trans rfl, (blk_cell BK428.out 5).trans rfl⟩ (fun hHeld => ?_); refine with_tabW laws_FnExactPlacesFor.tab5 laws_FnExactPlacesFor.bits5 (fun HT_ HW_ => ?_)
  generalize w18.drew = w19 at BK427 BK428 HB hHeld ⊢
  refine pS (i := 2) (some 26) #[false, false, true, false, false, false, false, false, false, false, false, false] (any_of HT_.out (by kernel_rfl)) ?_
  refine tS (i := 0) (some 24) #[true, false, true, false, false, false, false, false, false, false, false, false] (take_ofW HT_.out HW_.out (by kernel_rfl)) hHeld ?_
  refine tS (i := 4) (some 28) #[true, false, true, false, true, false, false, false, false, false, false, false] (take_ofW HT_.out HW_.out (by kernel_rfl)) hHeld ?_
  refine one_ (i := 1) (N := some 25) #[true, true, true, false, true, false, false, false, false, false, false, false] rfl rfl (one_of HT_.out (by kernel_rfl)) (by decide) (fun K hK => ?_)
  refine goes_ Try.func26 (by kernel_rfl) rfl #[.agg (csBay a0_0 a0_1 a0_2)] (by rfl) rfl rfl (by (try simp only [List.map_toArray, List.map_cons, List.map_nil]); first | done | rfl | (simp only [List.length_drop, List.length_take]; rfl)) ?_
  with_reducible refine (laws_toBay.calls a0_0 a0_1 a0_2 t430 t431 t432 _ A8.out).mono ?_
  rintro e w20 ⟨rfl, hb⟩
  refine ⟨_, rfl, ?_⟩
  have n0_ := bB BK427 hb
  have n1_ := bB BK428 hb
  have n2_ := am (below_step (be HB) hb)
  clear BK427
  clear BK428
  clear HB
  have BK427 := n0_
  have BK428 := n1_
  have HB := n2_
  clear n0_ n1_ n2_
  (try clear hb)
  (try clear hb2)
  (try clear hk)
  (try clear hi)
  refine hK.out _ _ ⟨(blk_cell BK427.out 0).trans rfl, (blk_cell BK427.out 1).trans rfl, at_cells BK427.out, BayAt26_of BK427.out, lvv_of BK427.out, (blk_cell BK428.out 0).trans rfl, (blk_cell BK428.out 1).trans rfl, (blk_cell BK428.out 2).trans rfl, (blk_cell BK428.out 3).trans rfl, (blk_cell BK428.out 4).trans rfl, (blk_cell BK428.out 5).trans rfl⟩ (fun hHeld => ?_)
  clear hK K
  refine norm_ (a' := ?_) ?_ ?_
  rotate_left
  ·show Act.put _ (some 25) _ = _
   simp only [Act.put, List.setIfInBounds_toArray, List.set_cons_zero, List.set_cons_succ, i64_w, i32_w]
   rfl
  refine one_ (i := 3) (N := some 27) #[true, true, true, true, true, false, false, false, false, false, false, false] rfl rfl (one_of HT_.out (by kernel_rfl)) (by decide) (fun K hK => ?_)
  refine goes_ Try.func33 (by kernel_rfl) rfl #[.slice A1 l1.length c1] (by rfl) rfl rfl (by (try simp only [List.map_toArray, List.map_cons, List.map_nil]); first | done | rfl | (simp only [List.length_drop, List.length_take]; rfl)) ?_
  with_reducible refine (laws_toBoatS.calls k _ _ l1 t433 _ ?side1 ?side2 A9.out).mono ?_
  (case side1 => repeat (first | exact (Kd.C_below HR1.out HB.out) | (with_reducible refine Kd.C_alloc ?_ _) | (with_reducible refine Kd.C_drewN ?_ _) | (with_reducible refine Kd.C_drew ?_)))
  (case side2 => exact HC1.out)
  rintro e w21 ⟨v434, rfl, ho0, hb⟩
  refine ⟨_, rfl, ?_⟩
  have n0_ := am (Kd.R_lower ho0 (below_size (be HB)))
  have n1_ := bB BK427 hb
  have n2_ := bB BK428 hb
  have n3_ := am (below_step (be HB) hb)
  clear BK427
  clear BK428
  clear HB
  have HO435 := n0_
  have BK427 := n1_
  have BK428 := n2_
  have HB := n3_
  clear n0_ n1_ n2_ n3_
  (try clear hb)
  (try clear hb2)
  (try clear hk)
  (try clear hi)
  (try clear ho0)
  refine hK.out _ _ ⟨(blk_cell BK427.out 0).trans rfl, (blk_cell BK427.out 1).trans rfl, at_cells BK427.out, BayAt26_of BK427.out, lvv_of BK427.out, (blk_cell BK428.out 0).trans rfl, (blk_cell BK428.out 1).trans rfl, (blk_cell BK428.out 2).trans rfl, (blk_cell BK428.out 3).trans rfl, (blk_cell BK428.out 4).trans rfl, (blk_cell BK428.out 5).trans rfl⟩ (fun hHeld => ?_)
  clear hK K
  refine norm_ (a' := ?_) ?_ ?_
  rotate_left
  ·show Act.put _ (some 27) _ = _
   simp only [Act.put, List.setIfInBounds_toArray, List.set_cons_zero, List.set_cons_succ, i64_w, i32_w]
   rfl
  refine one_ (i := 5) (N := some 29) #[true, true, true, true, true, true, false, false, false, false, false, false] rfl rfl (one_of HT_.out (by kernel_rfl)) (by decide) (fun K hK => ?_)
  refine goes_ Try.func29 (by kernel_rfl) rfl #[.agg #[.int .i8 a2_0, .int .i8 a2_1, .int .i8 a2_2, .int .i8 a2_3, .int .i8 a2_4, .int .i8 a2_5]] (by rfl) rfl rfl (by (try simp only [List.map_toArray, List.map_cons, List.map_nil]); first | done | rfl | (simp only [List.length_drop, List.length_take]; rfl)) ?_
  with_reducible refine (laws_toBoat.calls a2_0 a2_1 a2_2 a2_3 a2_4 a2_5 t436 t437 t438 t439 t440 t441 _ A10.out).mono ?_
  rintro e w22 ⟨rfl, hb⟩
  refine ⟨_, rfl, ?_⟩
  have n0_ := am (Kd.R_below (kr HO435) hb)
  have n1_ := bB BK427 hb
  have n2_ := bB BK428 hb
  have n3_ := am (below_step (be HB) hb)
  clear HO435
  clear BK427
  clear BK428
  clear HB
  have HO435 := n0_
  have BK427 := n1_
  have BK428 := n2_
  have HB := n3_
  clear n0_ n1_ n2_ n3_
  (try clear hb)
  (try clear hb2)
  (try clear hk)
  (try clear hi)
  obtain ⟨Ao23, co23, eo23⟩ := Kd.R_slice HO435.out
  (first | subst eo23 | (injection eo23 with f1_ f2_ f3_; have f4_ := f1_.symm; have f5_ := f3_.symm; clear f1_ f2_ f3_; subst f4_; subst f5_))
  refine hK.out _ _ ⟨(blk_cell BK427.out 0).trans rfl, (blk_cell BK427.out 1).trans rfl, at_cells BK427.out, BayAt26_of BK427.out, lvv_of BK427.out, (blk_cell BK428.out 0).trans rfl, (blk_cell BK428.out 1).trans rfl, (blk_cell BK428.out 2).trans rfl, (blk_cell BK428.out 3).trans rfl, (blk_cell BK428.out 4).trans rfl, (blk_cell BK428.out 5).trans rfl⟩ (fun hHeld => ?_)
  clear hK K
  refine norm_ (a' := ?_) ?_ ?_
  rotate_left
  ·show Act.put _ (some 29) _ = _
   simp only [Act.put, List.setIfInBounds_toArray, List.set_cons_zero, List.set_cons_succ, i64_w, i32_w]
   rfl
  refine one_ (i := 6) (N := some 30) #[true, true, true, true, true, true, true, false, false, false, false, false] rfl rfl (one_of HT_.out (by kernel_rfl)) (by decide) (fun K hK => ?_)
  refine goes_ Try.func71 (by kernel_rfl) rfl #[.agg (csBay t430 t431 t432), .slice Ao23 t433.length co23, .agg #[.int .i8 t436, .int .i8 t437, .int .i8 t438, .int .i8 t439, .int .i8 t440, .int .i8 t441]] (by rfl) rfl rfl (by (try simp only [List.map_toArray, List.map_cons, List.map_nil]); first | done | rfl | (simp only [List.length_drop, List.length_take]; rfl)) ?_
  with_reducible refine (spec_PlacesFor.calls k t430 t431 t432 _ _ t433 t436 t437 t438 t439 t440 t441 t442 t445 _ ?side1 ?side2 A11.out).mono ?_
  (case side1 => repeat (first | exact (Kd.R_reads' HO435.out).2.2 | (with_reducible refine Kd.C_alloc ?_ _) | (with_reducible refine Kd.C_drewN ?_ _) | (with_reducible refine Kd.C_drew ?_)))
  (case side2 => exact (Kd.R_reads' HO435.out).2.1)
  rintro e w24 ⟨v443, rfl, ho0, hb⟩
  refine ⟨_, rfl, ?_⟩
  have n0_ := am (Kd.R_below (kr HO435) hb)
  have n1_ := am (Kd.R_lower ho0 (below_size (be HB)))
  have n2_ := bB BK427 hb
  have n3_ := bB BK428 hb
  have n4_ := am (below_step (be HB) hb)
  clear HO435
  clear BK427
  clear BK428
  clear HB
  have HO435 := n0_
  have HO444 := n1_
  have BK427 := n2_
  have BK428 := n3_
  have HB := n4_
  clear n0_ n1_ n2_ n3_ n4_
  (try clear hb)
  (try clear hb2)
  (try clear hk)
  (try clear hi)
  (try clear ho0)
  refine hK.out _ _ ⟨(blk_cell BK427.out 0).trans rfl, (blk_cell BK427.out 1).trans rfl, at_cells BK427.out, BayAt26_of BK427.out, lvv_of BK427.out, (blk_cell BK428.out 0).trans rfl, (blk_cell BK428.out 1).trans rfl, (blk_cell BK428.out 2).trans rfl, (blk_cell BK428.out 3).trans rfl, (blk_cell BK428.out 4).trans rfl, (blk_cell BK428.out 5).trans rfl⟩ (fun hHeld => ?_)
  clear hK K
  refine norm_ (a' := ?_) ?_ ?_
  rotate_left
  ·show Act.put _ (some 30) _ = _
   simp only [Act.put, List.setIfInBounds_toArray, List.set_cons_zero, List.set_cons_succ, i64_w, i32_w]
   rfl
  refine pS (i := 7) (some 23) #[true, true, true, true, true, true, true, true, false, false, false, false] (any_of HT_.out (by kernel_rfl)) ?_
  refine pS (i := 8) (some 31) #[true, true, true, true, true, true, true, true, true, false, false, false] (any_of HT_.out (by kernel_rfl)) ?_
  refine pS (i := 9) (some 32) #[true, true, true, true, true, true, true, true, true, true, false, false] (any_of HT_.out (by kernel_rfl)) ?_
  refine pS (i := 10) (some 8) #[true, true, true, true, true, true, true, true, true, true, true, false] (any_of HT_.out (by kernel_rfl)) ?_
  refine pS (i := 11) (some 9) #[true, true, true, true, true, true, true, true, true, true, true, true] (any_of HT_.out (by kernel_rfl)) ?_
  refine done_ (done_of HT_.out (by kernel_rfl)) ?_
  try go_wp2_with (first | ((with_reducible refine gate_callee (f := 33) rfl ?_); refine gL (some 34) Try.func33 #[.slice A1 l1.length c1] ?_; (with_reducible refine (laws_toBoatS.calls k _ _ l1 t446 _ ?side1 ?side2 A12.out).mono ?_); (case side1 => repeat (first | exact (Kd.C_below HR1.out HB.out) | (with_reducible refine Kd.C_alloc ?_ _) | (with_reducible refine Kd.C_drewN ?_ _) | (with_reducible refine Kd.C_drew ?_))); (case side2 => exact HC1.out); rintro e w25 ⟨v447, rfl, ho0, hb⟩; refine ⟨_, rfl, ?_⟩; have HO448 := am (Kd.R_lower (Kd.R_new' ho0 (Kd.R_lt (kr HO435))) (below_size (be HB))); replace HO435 := am (Kd.R_elder' (kr HO435) (Kd.R_base ho0) hb); replace HO444 := am (Kd.R_below (kr HO444) hb); replace BK427 := bB BK427 hb; replace BK428 := bB BK428 hb; replace HB := am (below_step (be HB) hb); (try clear hb); (try clear hb2); (try clear hk); (try clear hi); (try clear ho0)))
  have n0_ := am (Kd.R_drew HO435.out)
  have n1_ := am (Kd.R_drew HO444.out)
  have n2_ := am (Kd.R_drew HO448.out)
  have n3_ := am (blk_drew BK427.out)
  have n4_ := am (blk_drew BK428.out)
  have n5_ := am (below_drew1 HB.out)
  clear HO435
  clear HO444
  clear HO448
  clear BK427
  clear BK428
  clear HB
  have HO435 := n0_
  have HO444 := n1_
  have HO448 := n2_
  have BK427 := n3_
  have BK428 := n4_
  have HB := n5_
  clear n0_ n1_ n2_ n3_ n4_ n5_
  refine start_ (n := 11) (S := fun w' => w'.cell? ⟨gb427, 0, none⟩ = some (.int .i8 a0_0) ∧ w'.cell? ⟨gb427, 1, none⟩ = some (.int .i8 a0_1) ∧ atCells w' gb427 a0_2 ∧ BayAt26 w' gb427 ∧ lvv w' gb427 = .agg (csBay a0_0 a0_1 a0_2) ∧ w'.cell? ⟨gb428, 0, none⟩ = some (.int .i8 a2_0) ∧ w'.cell? ⟨gb428, 1, none⟩ = some (.int .i8 a2_1) ∧ w'.cell? ⟨gb428, 2, none⟩ = some (.int .i8 a2_2) ∧ w'.cell? ⟨gb428, 3, none⟩ = some (.int .i8 a2_3) ∧ w'.cell? ⟨gb428, 4, none⟩ = some (.int .i8 a2_4) ∧ w'.cell? ⟨gb428, 5, none⟩ = some (.int .i8 a2_5)) (ds := []) #[false, false, false, false, false, false, false, false, false, false, false] (by kernel_rfl) rfl rfl ⟨(blk_cell BK427.out 0).trans rfl, (blk_cell BK427.out 1).trans rfl, at_cells BK427.out, BayAt26_of BK427.out, lvv_of BK427.out, (blk_cell BK428.out 0).trans rfl, (blk_cell BK428.out 1).trans rfl, (blk_cell BK428.out 2).trans rfl, (blk_cell BK428.out 3).trans rfl, (blk_cell BK428.out 4).trans rfl, (blk_cell BK428.out 5).trans rfl⟩ (fun hHeld => ?_); refine with_tabW laws_FnExactPlacesFor.tab7 laws_FnExactPlacesFor.bits7 (fun HT_ HW_ => ?_)
  generalize w25.drew = w26 at HO435 HO444 HO448 BK427 BK428 HB hHeld ⊢
  refine pS (i := 2) (some 38) #[false, false, true, false, false, false, false, false, false, false, false] (any_of HT_.out (by kernel_rfl)) ?_
  refine tS (i := 0) (some 36) #[true, false, true, false, false, false, false, false, false, false, false] (take_ofW HT_.out HW_.out (by kernel_rfl)) hHeld ?_
  refine tS (i := 3) (some 39) #[true, false, true, true, false, false, false, false, false, false, false] (take_ofW HT_.out HW_.out (by kernel_rfl)) hHeld ?_
  refine one_ (i := 1) (N := some 37) #[true, true, true, true, false, false, false, false, false, false, false] rfl rfl (one_of HT_.out (by kernel_rfl)) (by decide) (fun K hK => ?_)
  refine goes_ Try.func26 (by kernel_rfl) rfl #[.agg (csBay a0_0 a0_1 a0_2)] (by rfl) rfl rfl (by (try simp only [List.map_toArray, List.map_cons, List.map_nil]); first | done | rfl | (simp only [List.length_drop, List.length_take]; rfl)) ?_
  with_reducible refine (laws_toBay.calls a0_0 a0_1 a0_2 t449 t450 t451 _ A13.out).mono ?_
  rintro e w27 ⟨rfl, hb⟩
  refine ⟨_, rfl, ?_⟩
  have n0_ := am (Kd.R_below (kr HO435) hb)
  have n1_ := am (Kd.R_below (kr HO444) hb)
  have n2_ := am (Kd.R_below (kr HO448) hb)
  have n3_ := bB BK427 hb
  have n4_ := bB BK428 hb
  have n5_ := am (below_step (be HB) hb)
  clear HO435
  clear HO444
  clear HO448
  clear BK427
  clear BK428
  clear HB
  have HO435 := n0_
  have HO444 := n1_
  have HO448 := n2_
  have BK427 := n3_
  have BK428 := n4_
  have HB := n5_
  clear n0_ n1_ n2_ n3_ n4_ n5_
  (try clear hb)
  (try clear hb2)
  (try clear hk)
  (try clear hi)
  refine hK.out _ _ ⟨(blk_cell BK427.out 0).trans rfl, (blk_cell BK427.out 1).trans rfl, at_cells BK427.out, BayAt26_of BK427.out, lvv_of BK427.out, (blk_cell BK428.out 0).trans rfl, (blk_cell BK428.out 1).trans rfl, (blk_cell BK428.out 2).trans rfl, (blk_cell BK428.out 3).trans rfl, (blk_cell BK428.out 4).trans rfl, (blk_cell BK428.out 5).trans rfl⟩ (fun hHeld => ?_)
  clear hK K
  refine norm_ (a' := ?_) ?_ ?_
  rotate_left
  ·show Act.put _ (some 37) _ = _
   simp only [Act.put, List.setIfInBounds_toArray, List.set_cons_zero, List.set_cons_succ, i64_w, i32_w]
   rfl
  refine one_ (i := 4) (N := some 40) #[true, true, true, true, true, false, false, false, false, false, false] rfl rfl (one_of HT_.out (by kernel_rfl)) (by decide) (fun K hK => ?_)
  refine goes_ Try.func29 (by kernel_rfl) rfl #[.agg #[.int .i8 a2_0, .int .i8 a2_1, .int .i8 a2_2, .int .i8 a2_3, .int .i8 a2_4, .int .i8 a2_5]] (by rfl) rfl rfl (by (try simp only [List.map_toArray, List.map_cons, List.map_nil]); first | done | rfl | (simp only [List.length_drop, List.length_take]; rfl)) ?_
  with_reducible refine (laws_toBoat.calls a2_0 a2_1 a2_2 a2_3 a2_4 a2_5 t452 t453 t454 t455 t456 t457 _ A14.out).mono ?_
  rintro e w28 ⟨rfl, hb⟩
  refine ⟨_, rfl, ?_⟩
  have n0_ := am (Kd.R_below (kr HO435) hb)
  have n1_ := am (Kd.R_below (kr HO444) hb)
  have n2_ := am (Kd.R_below (kr HO448) hb)
  have n3_ := bB BK427 hb
  have n4_ := bB BK428 hb
  have n5_ := am (below_step (be HB) hb)
  clear HO435
  clear HO444
  clear HO448
  clear BK427
  clear BK428
  clear HB
  have HO435 := n0_
  have HO444 := n1_
  have HO448 := n2_
  have BK427 := n3_
  have BK428 := n4_
  have HB := n5_
  clear n0_ n1_ n2_ n3_ n4_ n5_
  (try clear hb)
  (try clear hb2)
  (try clear hk)
  (try clear hi)
  obtain ⟨Ao29, co29, eo29⟩ := Kd.R_slice HO448.out
  (first | subst eo29 | (injection eo29 with f1_ f2_ f3_; have f4_ := f1_.symm; have f5_ := f3_.symm; clear f1_ f2_ f3_; subst f4_; subst f5_))
  refine hK.out _ _ ⟨(blk_cell BK427.out 0).trans rfl, (blk_cell BK427.out 1).trans rfl, at_cells BK427.out, BayAt26_of BK427.out, lvv_of BK427.out, (blk_cell BK428.out 0).trans rfl, (blk_cell BK428.out 1).trans rfl, (blk_cell BK428.out 2).trans rfl, (blk_cell BK428.out 3).trans rfl, (blk_cell BK428.out 4).trans rfl, (blk_cell BK428.out 5).trans rfl⟩ (fun hHeld => ?_)
  clear hK K
  refine norm_ (a' := ?_) ?_ ?_
  rotate_left
  ·show Act.put _ (some 40) _ = _
   simp only [Act.put, List.setIfInBounds_toArray, List.set_cons_zero, List.set_cons_succ, i64_w, i32_w]
   rfl
  refine one_ (i := 5) (N := some 41) #[true, true, true, true, true, true, false, false, false, false, false] rfl rfl (one_of HT_.out (by kernel_rfl)) (by decide) (fun K hK => ?_)
  refine goes_ Try.func72 (by kernel_rfl) rfl #[.agg (csBay t449 t450 t451), .slice Ao29 t446.length co29, .agg #[.int .i8 t452, .int .i8 t453, .int .i8 t454, .int .i8 t455, .int .i8 t456, .int .i8 t457]] (by rfl) rfl rfl (by (try simp only [List.map_toArray, List.map_cons, List.map_nil]); first | done | rfl | (simp only [List.length_drop, List.length_take]; rfl)) ?_
  with_reducible refine (impl_PlacesFor.calls k t449 t450 t451 _ _ t446 t452 t453 t454 t455 t456 t457 t458 t461 _ ?side1 ?side2 A15.out).mono ?_
  (case side1 => repeat (first | exact (Kd.R_reads' HO448.out).2.2 | (with_reducible refine Kd.C_alloc ?_ _) | (with_reducible refine Kd.C_drewN ?_ _) | (with_reducible refine Kd.C_drew ?_)))
  (case side2 => exact (Kd.R_reads' HO448.out).2.1)
  rintro e w30 ⟨v459, rfl, ho0, hb⟩
  refine ⟨_, rfl, ?_⟩
  have n0_ := am (Kd.R_below (kr HO435) hb)
  have n1_ := am (Kd.R_elder' (kr HO444) (Kd.R_base ho0) hb)
  have n2_ := am (Kd.R_below (kr HO448) hb)
  have n3_ := am (Kd.R_lower (Kd.R_new' ho0 (Kd.R_lt (kr HO444))) (below_size (be HB)))
  have n4_ := bB BK427 hb
  have n5_ := bB BK428 hb
  have n6_ := am (below_step (be HB) hb)
  clear HO435
  clear HO444
  clear HO448
  clear BK427
  clear BK428
  clear HB
  have HO435 := n0_
  have HO444 := n1_
  have HO448 := n2_
  have HO460 := n3_
  have BK427 := n4_
  have BK428 := n5_
  have HB := n6_
  clear n0_ n1_ n2_ n3_ n4_ n5_ n6_
  (try clear hb)
  (try clear hb2)
  (try clear hk)
  (try clear hi)
  (try clear ho0)
  refine hK.out _ _ ⟨(blk_cell BK427.out 0).trans rfl, (blk_cell BK427.out 1).trans rfl, at_cells BK427.out, BayAt26_of BK427.out, lvv_of BK427.out, (blk_cell BK428.out 0).trans rfl, (blk_cell BK428.out 1).trans rfl, (blk_cell BK428.out 2).trans rfl, (blk_cell BK428.out 3).trans rfl, (blk_cell BK428.out 4).trans rfl, (blk_cell BK428.out 5).trans rfl⟩ (fun hHeld => ?_)
  clear hK K
  refine norm_ (a' := ?_) ?_ ?_
  rotate_left
  ·show Act.put _ (some 41) _ = _
   simp only [Act.put, List.setIfInBounds_toArray, List.set_cons_zero, List.set_cons_succ, i64_w, i32_w]
   rfl
  refine pS (i := 6) (some 35) #[true, true, true, true, true, true, true, false, false, false, false] (any_of HT_.out (by kernel_rfl)) ?_
  refine pS (i := 7) (some 42) #[true, true, true, true, true, true, true, true, false, false, false] (any_of HT_.out (by kernel_rfl)) ?_
  refine pS (i := 8) (some 43) #[true, true, true, true, true, true, true, true, true, false, false] (any_of HT_.out (by kernel_rfl)) ?_
  refine pS (i := 9) (some 11) #[true, true, true, true, true, true, true, true, true, true, false] (any_of HT_.out (by kernel_rfl)) ?_
  refine pS (i := 10) (some 12) #[true, true, true, true, true, true, true, true, true, true, true] (any_of HT_.out (by kernel_rfl)) ?_
  refine done_ (done_of HT_.out (by kernel_rfl)) ?_
  go_upto_region 8 with (fail)
  go_cut [52] (fun v52 wc => ∃ (kq : Nat) (x52_15 : Bool), v52 = .bool x52_15 ∧ Aside0 (laws_FnExactPlacesFor.j0 kq l1 t442 t445 t446 t458 t461 x52_15 a0_0 a0_1 a0_2 a2_0 a2_1 a2_2 a2_3 a2_4 a2_5 = some r) ∧ Aside0 (kq ≤ k) ∧ Aside0 (Kd.R k36 36 wc w.heap.size (fun k_ => some k_ ≠ (v459 : Value).ownBlock) v443 t442) ∧ Aside0 (Kd.R k38 38 wc w.heap.size (fun _ => True) (.slice Ao29 t446.length co29) t446) ∧ Aside0 (Kd.R k36 36 wc w.heap.size (fun k_ => some k_ ≠ (v443 : Value).ownBlock) v459 t458) ∧ Aside0 (wc.heap[gb427]? = some (.cells (csBay a0_0 a0_1 a0_2) 26 (0, 0))) ∧ Aside0 (wc.heap[gb428]? = some (.cells #[.int .i8 a2_0, .int .i8 a2_1, .int .i8 a2_2, .int .i8 a2_3, .int .i8 a2_4, .int .i8 a2_5] 34 (0, 0))) ∧ Aside0 (Below w.heap.size w wc))
  case first =>
   have H := HC16.out
   clear HC16
   replace H := Option.bind_eq_some_iff.mp H
   obtain ⟨t462, A310, H⟩ := H
   try dsimp only at H
   have A31 := am A310
   clear A310
   by_cases c32 : t462 = true
   ·subst c32
    rw [if_pos rfl] at H
    have H' := am H
    clear H
    obtain ⟨Ao33, co33, eo33⟩ := Kd.R_slice HO460.out
    subst eo33
    obtain ⟨Ao34, co34, eo34⟩ := Kd.R_slice HO444.out
    subst eo34
    go_wp2_with (first | ((with_reducible refine gate_callee (f := 49) rfl ?_); refine gL (some 46) Try.func49 #[.slice Ao33 t458.length co33, .slice Ao34 t442.length co34] ?_; (with_reducible refine (laws_eqPlaceS.calls k _ _ t458 _ _ t442 true _ ?side1 ?side2 ?side3 ?side4 A31.out).mono ?_); (case side1 => repeat (first | exact (Kd.R_reads' HO460.out).2.2 | (with_reducible refine Kd.C_alloc ?_ _) | (with_reducible refine Kd.C_drewN ?_ _) | (with_reducible refine Kd.C_drew ?_))); (case side2 => exact (Kd.R_reads' HO460.out).2.1); (case side3 => repeat (first | exact (Kd.R_reads' HO444.out).2.2 | (with_reducible refine Kd.C_alloc ?_ _) | (with_reducible refine Kd.C_drewN ?_ _) | (with_reducible refine Kd.C_drew ?_))); (case side4 => exact (Kd.R_reads' HO444.out).2.1); rintro e w35 ⟨rfl, hb⟩; refine ⟨_, rfl, ?_⟩; replace HO435 := am (Kd.R_below (kr HO435) hb); replace HO444 := am (Kd.R_below (kr HO444) hb); replace HO448 := am (Kd.R_below (kr HO448) hb); replace HO460 := am (Kd.R_below (kr HO460) hb); replace BK427 := bB BK427 hb; replace BK428 := bB BK428 hb; replace HB := am (below_step (be HB) hb); (try clear hb); (try clear hb2); (try clear hk); (try clear hi)))
    go_meet
    case rel => exact ⟨_, ((t461 != t445)), vv, H', ⟨by first | omega | exact Nat.le_refl _⟩, ⟨by (with_reducible repeat (first | apply Kd.R_alloc | apply Kd.R_drewN | apply Kd.R_drew)); exact Kd.R_mono HO444.out (fun _ hk => hk.2)⟩, ⟨by (with_reducible repeat (first | apply Kd.R_alloc | apply Kd.R_drewN | apply Kd.R_drew)); exact Kd.R_mono HO448.out (fun _ hk => trivial)⟩, ⟨by (with_reducible repeat (first | apply Kd.R_alloc | apply Kd.R_drewN | apply Kd.R_drew)); exact Kd.R_mono HO460.out (fun _ hk => hk.2)⟩, ⟨kb BK427⟩, ⟨kb BK428⟩, ⟨be HB⟩⟩
   ·replace c32 := Bool.eq_false_iff.mpr c32
    subst c32
    have H1 : (laws_FnExactPlacesFor.j0 k l1 t442 t445 t446 t458 t461 true a0_0 a0_1 a0_2 a2_0 a2_1 a2_2 a2_3 a2_4 a2_5) = some r := by rw [if_neg (show ¬ (false = true) by decide)] at H; exact H
    clear H
    have H := H1
    clear H1
    have H' := am H
    clear H
    obtain ⟨Ao36, co36, eo36⟩ := Kd.R_slice HO460.out
    subst eo36
    obtain ⟨Ao37, co37, eo37⟩ := Kd.R_slice HO444.out
    subst eo37
    go_wp2_with (first | ((with_reducible refine gate_callee (f := 49) rfl ?_); refine gL (some 46) Try.func49 #[.slice Ao36 t458.length co36, .slice Ao37 t442.length co37] ?_; (with_reducible refine (laws_eqPlaceS.calls k _ _ t458 _ _ t442 false _ ?side1 ?side2 ?side3 ?side4 A31.out).mono ?_); (case side1 => repeat (first | exact (Kd.R_reads' HO460.out).2.2 | (with_reducible refine Kd.C_alloc ?_ _) | (with_reducible refine Kd.C_drewN ?_ _) | (with_reducible refine Kd.C_drew ?_))); (case side2 => exact (Kd.R_reads' HO460.out).2.1); (case side3 => repeat (first | exact (Kd.R_reads' HO444.out).2.2 | (with_reducible refine Kd.C_alloc ?_ _) | (with_reducible refine Kd.C_drewN ?_ _) | (with_reducible refine Kd.C_drew ?_))); (case side4 => exact (Kd.R_reads' HO444.out).2.1); rintro e w38 ⟨rfl, hb⟩; refine ⟨_, rfl, ?_⟩; replace HO435 := am (Kd.R_below (kr HO435) hb); replace HO444 := am (Kd.R_below (kr HO444) hb); replace HO448 := am (Kd.R_below (kr HO448) hb); replace HO460 := am (Kd.R_below (kr HO460) hb); replace BK427 := bB BK427 hb; replace BK428 := bB BK428 hb; replace HB := am (below_step (be HB) hb); (try clear hb); (try clear hb2); (try clear hk); (try clear hi)))
    go_meet
    case rel => exact ⟨_, (true), vv, H', ⟨by first | omega | exact Nat.le_refl _⟩, ⟨by (with_reducible repeat (first | apply Kd.R_alloc | apply Kd.R_drewN | apply Kd.R_drew)); exact Kd.R_mono HO444.out (fun _ hk => hk.2)⟩, ⟨by (with_reducible repeat (first | apply Kd.R_alloc | apply Kd.R_drewN | apply Kd.R_drew)); exact Kd.R_mono HO448.out (fun _ hk => trivial)⟩, ⟨by (with_reducible repeat (first | apply Kd.R_alloc | apply Kd.R_drewN | apply Kd.R_drew)); exact Kd.R_mono HO460.out (fun _ hk => hk.2)⟩, ⟨kb BK427⟩, ⟨kb BK428⟩, ⟨be HB⟩⟩
  case rest =>
   clear HC16
   try clear c1
   try clear c2
   try clear p2
   try clear c3
   try clear c4
   try clear c5
   try clear c5b0
   try clear c7
   try clear c18
   try clear c26
   try clear c29
   try clear c31
   try clear c32
   try clear c33
   obtain ⟨kq, x52_15, rfl, HA, HJ15, HO_8, HO_10, HO_11, BK427, BK428, HB⟩ := hcut
   cases kq with
   | zero => exact absurd HA.out (by simp [laws_FnExactPlacesFor.j0])
   | succ kj15 =>
    have H := HA.out
    clear HA
    simp only [laws_FnExactPlacesFor.j0] at H
    by_cases c39 : x52_15 = true
    ·subst c39
     rw [if_pos rfl] at H
     obtain rfl := Option.some.inj H
     go_wp2
     go_ret
     exact ⟨by first | rfl | (simp [errW_none, errW_some] <;> rfl) | (simp [*, errW_none, errW_some] <;> rfl), be HB⟩
    ·replace c39 := Bool.eq_false_iff.mpr c39
     subst c39
     have H1 : ((laws_toBoatS.f kj15 l1).bind fun t463 => ((laws_eqBoatS.f kj15 t446 t463).bind fun t466 => (if t466 = true then ((laws_markBoatS.f kj15 t446 1).bind fun bt467 => (if bt467.1 < 0 then (laws_FnExactPlacesFor.j1 kj15 l1 t442 t445 t458 true a0_0 a0_1 a0_2 a2_0 a2_1 a2_2 a2_3 a2_4 a2_5) else ((laws_eqPlaceS.f kj15 t458 t442).bind fun t469 => (if t469 = true then (laws_FnExactPlacesFor.j1 kj15 l1 t442 t445 t458 (t461 != t445) a0_0 a0_1 a0_2 a2_0 a2_1 a2_2 a2_3 a2_4 a2_5) else (laws_FnExactPlacesFor.j1 kj15 l1 t442 t445 t458 true a0_0 a0_1 a0_2 a2_0 a2_1 a2_2 a2_3 a2_4 a2_5))))) else (some false)))) = some r := by rw [if_neg (show ¬ (false = true) by decide)] at H; exact H
     clear H
     have H := H1
     clear H1
     replace H := Option.bind_eq_some_iff.mp H
     obtain ⟨t463, A400, H⟩ := H
     try dsimp only at H
     have A40 := am A400
     clear A400
     replace H := Option.bind_eq_some_iff.mp H
     obtain ⟨t466, A410, H⟩ := H
     try dsimp only at H
     have A41 := am A410
     clear A410
     by_cases c42 : t466 = true
     ·subst c42
      rw [if_pos rfl] at H
      replace H := Option.bind_eq_some_iff.mp H
      obtain ⟨⟨t467, t468⟩, A430, H⟩ := H
      try dsimp only at H
      have A43 := am A430
      clear A430
      have HC44 := am H
      clear H
      go_upto_region 14 with (first | ((with_reducible refine gate_callee (f := 33) rfl ?_); refine gL (some 55) Try.func33 #[.slice A1 l1.length c1] ?_; (with_reducible refine (laws_toBoatS.calls kj15 _ _ l1 t463 _ ?side1 ?side2 A40.out).mono ?_); (case side1 => repeat (first | exact (Kd.C_below HR1.out HB.out) | (with_reducible refine Kd.C_alloc ?_ _) | (with_reducible refine Kd.C_drewN ?_ _) | (with_reducible refine Kd.C_drew ?_))); (case side2 => exact HC1.out); rintro e w45 ⟨v464, rfl, ho0, hb⟩; refine ⟨_, rfl, ?_⟩; have HO465 := am (Kd.R_lower (Kd.R_new' ho0 (Kd.R_lt (kr HO_10))) (below_size (be HB))); replace HO_8 := am (Kd.R_below (kr HO_8) hb); replace HO_10 := am (Kd.R_elder' (kr HO_10) (Kd.R_base ho0) hb); replace HO_11 := am (Kd.R_below (kr HO_11) hb); replace BK427 := bB BK427 hb; replace BK428 := bB BK428 hb; replace HB := am (below_step (be HB) hb); (try clear hb); (try clear hb2); (try clear hk); (try clear hi); (try clear ho0); obtain ⟨Ao46, co46, eo46⟩ := Kd.R_slice HO465.out; subst eo46) | ((with_reducible refine gate_callee (f := 35) rfl ?_); refine gL (some 56) Try.func35 #[.slice Ao29 t446.length co29, .slice Ao46 t463.length co46] ?_; (with_reducible refine (laws_eqBoatS.calls kj15 _ _ t446 _ _ t463 true _ ?side1 ?side2 ?side3 ?side4 A41.out).mono ?_); (case side1 => repeat (first | exact (Kd.R_reads' HO_10.out).2.2 | (with_reducible refine Kd.C_alloc ?_ _) | (with_reducible refine Kd.C_drewN ?_ _) | (with_reducible refine Kd.C_drew ?_))); (case side2 => exact (Kd.R_reads' HO_10.out).2.1); (case side3 => repeat (first | exact (Kd.R_reads' HO465.out).2.2 | (with_reducible refine Kd.C_alloc ?_ _) | (with_reducible refine Kd.C_drewN ?_ _) | (with_reducible refine Kd.C_drew ?_))); (case side4 => exact (Kd.R_reads' HO465.out).2.1); rintro e w47 ⟨rfl, hb⟩; refine ⟨_, rfl, ?_⟩; replace HO_8 := am (Kd.R_below (kr HO_8) hb); replace HO_10 := am (Kd.R_below (kr HO_10) hb); replace HO_11 := am (Kd.R_below (kr HO_11) hb); replace HO465 := am (Kd.R_below (kr HO465) hb); replace BK427 := bB BK427 hb; replace BK428 := bB BK428 hb; replace HB := am (below_step (be HB) hb); (try clear hb); (try clear hb2); (try clear hk); (try clear hi)) | ((with_reducible refine gate_callee (f := 57) rfl ?_); refine gL (some 60) Try.func57 #[.slice Ao29 t446.length co29, .int .i64 1] ?_; (with_reducible refine (laws_markBoatS.calls kj15 (fun k_ => some k_ = (.slice Ao29 t446.length co29 : Value).ownBlock) (.slice Ao29 t446.length co29) t446 1 t467 t468 w _ ?side1 ?side2 A43.out).mono ?_); (case side1 => exact be HB); (case side2 => exact Kd.R_tight rfl HO_10.out); rintro e w48 ⟨rfl, hy0, hb, hkp⟩; refine ⟨_, rfl, ?_⟩; replace HO_8 := am (Kd.R_mono (ok' := fun k_ => some k_ ≠ (v459 : Value).ownBlock) (Kd.R_keptB ((Kd.R_apart' HO_8.out (Kd.R_typed HO_10.out) (by decide))) hkp (fun k_ hk_ hs_ => (hk_.2) hs_)) (fun k_ hk_ => hk_.1.1)); replace HO_11 := am (Kd.R_mono (ok' := fun k_ => some k_ ≠ (v443 : Value).ownBlock) (Kd.R_keptB ((Kd.R_apart' HO_11.out (Kd.R_typed HO_10.out) (by decide))) hkp (fun k_ hk_ hs_ => (hk_.2) hs_)) (fun k_ hk_ => hk_.1.1)); replace BK427 := am (blk_kept (kb BK427) hkp (fun hs_ => (fun e_ => (Kd.R_ne HO_10.out BK427.out (by decide)) e_) hs_)); replace BK428 := am (blk_kept (kb BK428) hkp (fun hs_ => (fun e_ => (Kd.R_ne HO_10.out BK428.out (by decide)) e_) hs_)); replace HO_10 := am (Kd.R_reok rfl hy0 (fun k_ e_ => HO_10.out.1 k_ e_)); replace HO465 := am (Kd.R_mono (ok' := fun k_ => some k_ ≠ (.slice Ao29 t446.length co29 : Value).ownBlock) (Kd.R_keptB (HO465.out) hkp (fun k_ hk_ hs_ => (hk_.2) hs_)) (fun k_ hk_ => hk_.1.2)); replace HB := am (hb); (try clear hb); (try clear hkp); (try clear hy0)))
      (try simp only [Act.put, List.setIfInBounds_toArray, List.set_cons_zero, List.set_cons_succ])
      go_cut [73] (fun v73 wc => ∃ (kq : Nat) (x73_43 : Bool), v73 = .bool x73_43 ∧ Aside0 (laws_FnExactPlacesFor.j1 kq l1 t442 t445 t458 x73_43 a0_0 a0_1 a0_2 a2_0 a2_1 a2_2 a2_3 a2_4 a2_5 = some r) ∧ Aside0 (kq ≤ kj15) ∧ Aside0 (Kd.R k36 36 wc w.heap.size (fun k_ => some k_ ≠ (v459 : Value).ownBlock) v443 t442) ∧ Aside0 (Kd.R k36 36 wc w.heap.size (fun k_ => some k_ ≠ (v443 : Value).ownBlock) v459 t458) ∧ Aside0 (wc.heap[gb427]? = some (.cells (csBay a0_0 a0_1 a0_2) 26 (0, 0))) ∧ Aside0 (wc.heap[gb428]? = some (.cells #[.int .i8 a2_0, .int .i8 a2_1, .int .i8 a2_2, .int .i8 a2_3, .int .i8 a2_4, .int .i8 a2_5] 34 (0, 0))) ∧ Aside0 (Below w.heap.size w wc))
      case first =>
       have H := HC44.out
       clear HC44
       by_cases c49 : t467 < 0
       ·rw [if_pos c49] at H
        have c49b0 : decide (t467 < 0) = true := decide_eq_true c49
        clear c49
        (first | rw [c49b0] | (simp only [i64_w, i32_w]; rw [c49b0]) | skip)
        have H' := am H
        clear H
        go_wp2
        go_meet
        case rel => exact ⟨_, (true), vv, H', ⟨by have := HJ15.out; first | omega | exact Nat.le_refl _⟩, ⟨kr HO_8⟩, ⟨kr HO_11⟩, ⟨kb BK427⟩, ⟨kb BK428⟩, ⟨be HB⟩⟩
       ·rw [if_neg c49] at H
        have c49b0 : decide (t467 < 0) = false := decide_eq_false c49
        clear c49
        (first | rw [c49b0] | (simp only [i64_w, i32_w]; rw [c49b0]) | skip)
        replace H := Option.bind_eq_some_iff.mp H
        obtain ⟨t469, A500, H⟩ := H
        try dsimp only at H
        have A50 := am A500
        clear A500
        by_cases c51 : t469 = true
        ·subst c51
         rw [if_pos rfl] at H
         have H' := am H
         clear H
         obtain ⟨Ao52, co52, eo52⟩ := Kd.R_slice HO_11.out
         subst eo52
         obtain ⟨Ao53, co53, eo53⟩ := Kd.R_slice HO_8.out
         subst eo53
         go_wp2_with (first | (go_at_call 49; (with_reducible refine (laws_eqPlaceS.calls kj15 _ _ t458 _ _ t442 true _ ?side1 ?side2 ?side3 ?side4 A50.out).mono ?_); (case side1 => repeat (first | exact (Kd.R_reads' HO_11.out).2.2 | (with_reducible refine Kd.C_alloc ?_ _) | (with_reducible refine Kd.C_drewN ?_ _) | (with_reducible refine Kd.C_drew ?_))); (case side2 => exact (Kd.R_reads' HO_11.out).2.1); (case side3 => repeat (first | exact (Kd.R_reads' HO_8.out).2.2 | (with_reducible refine Kd.C_alloc ?_ _) | (with_reducible refine Kd.C_drewN ?_ _) | (with_reducible refine Kd.C_drew ?_))); (case side4 => exact (Kd.R_reads' HO_8.out).2.1); rintro e w54 ⟨rfl, hb⟩; replace HO_8 := am (Kd.R_below (kr HO_8) hb); replace HO_10 := am (Kd.R_below (kr HO_10) hb); replace HO_11 := am (Kd.R_below (kr HO_11) hb); replace HO465 := am (Kd.R_below (kr HO465) hb); replace BK427 := bB BK427 hb; replace BK428 := bB BK428 hb; replace HB := am (below_step (be HB) hb); (try clear hb); (try clear hb2); (try clear hk); (try clear hi)))
         go_meet
         case rel => exact ⟨_, ((t461 != t445)), vv, H', ⟨by have := HJ15.out; first | omega | exact Nat.le_refl _⟩, ⟨kr HO_8⟩, ⟨kr HO_11⟩, ⟨kb BK427⟩, ⟨kb BK428⟩, ⟨be HB⟩⟩
        ·replace c51 := Bool.eq_false_iff.mpr c51
         subst c51
         have H1 : (laws_FnExactPlacesFor.j1 kj15 l1 t442 t445 t458 true a0_0 a0_1 a0_2 a2_0 a2_1 a2_2 a2_3 a2_4 a2_5) = some r := by rw [if_neg (show ¬ (false = true) by decide)] at H; exact H
         clear H
         have H := H1
         clear H1
         have H' := am H
         clear H
         obtain ⟨Ao55, co55, eo55⟩ := Kd.R_slice HO_11.out
         subst eo55
         obtain ⟨Ao56, co56, eo56⟩ := Kd.R_slice HO_8.out
         subst eo56
         go_wp2_with (first | (go_at_call 49; (with_reducible refine (laws_eqPlaceS.calls kj15 _ _ t458 _ _ t442 false _ ?side1 ?side2 ?side3 ?side4 A50.out).mono ?_); (case side1 => repeat (first | exact (Kd.R_reads' HO_11.out).2.2 | (with_reducible refine Kd.C_alloc ?_ _) | (with_reducible refine Kd.C_drewN ?_ _) | (with_reducible refine Kd.C_drew ?_))); (case side2 => exact (Kd.R_reads' HO_11.out).2.1); (case side3 => repeat (first | exact (Kd.R_reads' HO_8.out).2.2 | (with_reducible refine Kd.C_alloc ?_ _) | (with_reducible refine Kd.C_drewN ?_ _) | (with_reducible refine Kd.C_drew ?_))); (case side4 => exact (Kd.R_reads' HO_8.out).2.1); rintro e w57 ⟨rfl, hb⟩; replace HO_8 := am (Kd.R_below (kr HO_8) hb); replace HO_10 := am (Kd.R_below (kr HO_10) hb); replace HO_11 := am (Kd.R_below (kr HO_11) hb); replace HO465 := am (Kd.R_below (kr HO465) hb); replace BK427 := bB BK427 hb; replace BK428 := bB BK428 hb; replace HB := am (below_step (be HB) hb); (try clear hb); (try clear hb2); (try clear hk); (try clear hi)))
         go_meet
         case rel => exact ⟨_, (true), vv, H', ⟨by have := HJ15.out; first | omega | exact Nat.le_refl _⟩, ⟨kr HO_8⟩, ⟨kr HO_11⟩, ⟨kb BK427⟩, ⟨kb BK428⟩, ⟨be HB⟩⟩
      case rest =>
       clear HC44
       try clear c1
       try clear c2
       try clear p2
       try clear c3
       try clear c4
       try clear c5
       try clear c5b0
       try clear c7
       try clear c18
       try clear c26
       try clear c29
       try clear c31
       try clear c32
       try clear c33
       try clear c35
       try clear c39
       try clear c42
       try clear c49
       try clear c49b0
       try clear c51
       try clear c57
       try clear p2
       obtain ⟨kq, x73_43, rfl, HA, HJ43, HO_8, HO_11, BK427, BK428, HB⟩ := hcut
       cases kq with
       | zero => exact absurd HA.out (by simp [laws_FnExactPlacesFor.j1])
       | succ kj43 =>
        have H := HA.out
        clear HA
        simp only [laws_FnExactPlacesFor.j1] at H
        by_cases c58 : x73_43 = true
        ·subst c58
         rw [if_pos rfl] at H
         obtain rfl := Option.some.inj H
         go_wp2
         go_ret
         exact ⟨by first | rfl | (simp [errW_none, errW_some] <;> rfl) | (simp [*, errW_none, errW_some] <;> rfl), be HB⟩
        ·replace c58 := Bool.eq_false_iff.mpr c58
         subst c58
         have H1 : ((laws_markPlaceS.f kj43 t458 1).bind fun bt470 => ((laws_heldPlaceS.f kj43 bt470.2 1).bind fun t472 => (if t472 < 0 then (some false) else (if t472 = bt470.1 then ((laws_toBay.f a0_0 a0_1 a0_2).bind fun bt473 => ((laws_toBoatS.f kj43 l1).bind fun t476 => ((laws_toBoat.f a2_0 a2_1 a2_2 a2_3 a2_4 a2_5).bind fun bt479 => ((impl_PlacesFor.f kj43 bt473.1 bt473.2.1 bt473.2.2 t476 bt479.1 bt479.2.1 bt479.2.2.1 bt479.2.2.2.1 bt479.2.2.2.2.1 bt479.2.2.2.2.2).bind fun bt485 => ((laws_eqPlaceS.f kj43 bt485.1 t442).bind fun t489 => (if t489 = true then (laws_FnExactPlacesFor.j2 kj43 bt470.2 bt470.1 (bt485.2 != t445)) else (laws_FnExactPlacesFor.j2 kj43 bt470.2 bt470.1 true))))))) else (some false))))) = some r := by rw [if_neg (show ¬ (false = true) by decide)] at H; exact H
         clear H
         have H := H1
         clear H1
         replace H := Option.bind_eq_some_iff.mp H
         obtain ⟨⟨t470, t471⟩, A590, H⟩ := H
         try dsimp only at H
         have A59 := am A590
         clear A590
         replace H := Option.bind_eq_some_iff.mp H
         obtain ⟨t472, A600, H⟩ := H
         try dsimp only at H
         have A60 := am A600
         clear A600
         by_cases c61 : t472 < 0
         ·rw [if_pos c61] at H
          have c61b0 : decide (t472 < 0) = true := decide_eq_true c61
          clear c61
          obtain rfl := Option.some.inj H
          obtain ⟨Ao62, co62, eo62⟩ := Kd.R_slice HO_11.out
          subst eo62
          go_wp2_with (first | ((with_reducible refine gate_callee (f := 50) rfl ?_); refine gL (some 76) Try.func50 #[.slice Ao62 t458.length co62, .int .i64 1] ?_; (with_reducible refine (laws_markPlaceS.calls kj43 (fun k_ => some k_ = (.slice Ao62 t458.length co62 : Value).ownBlock) (.slice Ao62 t458.length co62) t458 1 t470 t471 w _ ?side1 ?side2 A59.out).mono ?_); (case side1 => exact be HB); (case side2 => exact Kd.R_tight rfl HO_11.out); rintro e w63 ⟨rfl, hy0, hb, hkp⟩; refine ⟨_, rfl, ?_⟩; replace HO_8 := am (Kd.R_mono (ok' := fun k_ => some k_ ≠ (.slice Ao62 t458.length co62 : Value).ownBlock) (Kd.R_keptB (HO_8.out) hkp (fun k_ hk_ hs_ => (hk_) hs_)) (fun k_ hk_ => hk_.1)); replace BK427 := am (blk_kept (kb BK427) hkp (fun hs_ => (fun e_ => (Kd.R_ne HO_11.out BK427.out (by decide)) e_) hs_)); replace BK428 := am (blk_kept (kb BK428) hkp (fun hs_ => (fun e_ => (Kd.R_ne HO_11.out BK428.out (by decide)) e_) hs_)); replace HO_11 := am (Kd.R_reok rfl hy0 (fun k_ e_ => HO_11.out.1 k_ e_)); replace HB := am (hb); (try clear hb); (try clear hkp); (try clear hy0)) | ((with_reducible refine gate_callee (f := 51) rfl ?_); refine goesL_ (some 79) rfl rfl Try.func51 (by kernel_rfl) rfl #[.slice Ao62 t471.length co62, .int .i64 1] rfl (by (try simp only [List.map_toArray, List.map_cons, List.map_nil]); first | done | (rw [show t471.length = t458.length from (Kd.R_reads' HO_11.out).1.symm] <;> rfl) | rfl | (simp only [List.length_drop, List.length_take]; rfl)) ?_; (with_reducible refine (laws_heldPlaceS.calls kj43 _ _ t471 1 t472 _ ?side1 ?side2 A60.out).mono ?_); (case side1 => repeat (first | exact (Kd.R_reads' HO_11.out).2.2 | (with_reducible refine Kd.C_alloc ?_ _) | (with_reducible refine Kd.C_drewN ?_ _) | (with_reducible refine Kd.C_drew ?_))); (case side2 => rw [show t471.length = t458.length from (Kd.R_reads' HO_11.out).1.symm]; exact (Kd.R_reads' HO_11.out).2.1); rintro e w' ⟨rfl, ⟨nd, rfl⟩⟩; refine ⟨_, rfl, ?_⟩))
          go_ret
          exact ⟨by first | rfl | (simp [errW_none, errW_some] <;> rfl) | (simp [*, errW_none, errW_some] <;> rfl), be HB⟩
         ·rw [if_neg c61] at H
          have c61b0 : decide (t472 < 0) = false := decide_eq_false c61
          clear c61
          by_cases c64 : t472 = t470
          ·rw [if_pos c64] at H
           have c64b0 : (t472 == t470) = true := beq_iff_eq.mpr c64
           have c64b1 : (t472 != t470) = false := bne_eq_false_iff_eq.mpr c64
           clear c64
           replace H := Option.bind_eq_some_iff.mp H
           obtain ⟨⟨t473, t474, t475⟩, A650, H⟩ := H
           try dsimp only at H
           have A65 := am A650
           clear A650
           replace H := Option.bind_eq_some_iff.mp H
           obtain ⟨t476, A660, H⟩ := H
           try dsimp only at H
           have A66 := am A660
           clear A660
           replace H := Option.bind_eq_some_iff.mp H
           obtain ⟨⟨t479, t480, t481, t482, t483, t484⟩, A670, H⟩ := H
           try dsimp only at H
           have A67 := am A670
           clear A670
           replace H := Option.bind_eq_some_iff.mp H
           obtain ⟨⟨t485, t488⟩, A680, H⟩ := H
           try dsimp only at H
           have A68 := am A680
           clear A680
           have HC69 := am H
           clear H
           obtain ⟨Ao70, co70, eo70⟩ := Kd.R_slice HO_11.out
           subst eo70
           try go_wp2_with (first | ((with_reducible refine gate_callee (f := 50) rfl ?_); refine gL (some 76) Try.func50 #[.slice Ao70 t458.length co70, .int .i64 1] ?_; (with_reducible refine (laws_markPlaceS.calls kj43 (fun k_ => some k_ = (.slice Ao70 t458.length co70 : Value).ownBlock) (.slice Ao70 t458.length co70) t458 1 t470 t471 w _ ?side1 ?side2 A59.out).mono ?_); (case side1 => exact be HB); (case side2 => exact Kd.R_tight rfl HO_11.out); rintro e w71 ⟨rfl, hy0, hb, hkp⟩; refine ⟨_, rfl, ?_⟩; replace HO_8 := am (Kd.R_mono (ok' := fun k_ => some k_ ≠ (.slice Ao70 t458.length co70 : Value).ownBlock) (Kd.R_keptB (HO_8.out) hkp (fun k_ hk_ hs_ => (hk_) hs_)) (fun k_ hk_ => hk_.1)); replace BK427 := am (blk_kept (kb BK427) hkp (fun hs_ => (fun e_ => (Kd.R_ne HO_11.out BK427.out (by decide)) e_) hs_)); replace BK428 := am (blk_kept (kb BK428) hkp (fun hs_ => (fun e_ => (Kd.R_ne HO_11.out BK428.out (by decide)) e_) hs_)); replace HO_11 := am (Kd.R_reok rfl hy0 (fun k_ e_ => HO_11.out.1 k_ e_)); replace HB := am (hb); (try clear hb); (try clear hkp); (try clear hy0)) | ((with_reducible refine gate_callee (f := 51) rfl ?_); refine goesL_ (some 79) rfl rfl Try.func51 (by kernel_rfl) rfl #[.slice Ao70 t471.length co70, .int .i64 1] rfl (by (try simp only [List.map_toArray, List.map_cons, List.map_nil]); first | done | (rw [show t471.length = t458.length from (Kd.R_reads' HO_11.out).1.symm] <;> rfl) | rfl | (simp only [List.length_drop, List.length_take]; rfl)) ?_; (with_reducible refine (laws_heldPlaceS.calls kj43 _ _ t471 1 t472 _ ?side1 ?side2 A60.out).mono ?_); (case side1 => repeat (first | exact (Kd.R_reads' HO_11.out).2.2 | (with_reducible refine Kd.C_alloc ?_ _) | (with_reducible refine Kd.C_drewN ?_ _) | (with_reducible refine Kd.C_drew ?_))); (case side2 => rw [show t471.length = t458.length from (Kd.R_reads' HO_11.out).1.symm]; exact (Kd.R_reads' HO_11.out).2.1); rintro e w' ⟨rfl, ⟨nd, rfl⟩⟩; refine ⟨_, rfl, ?_⟩))
           (try (rw [drewN_self w71]; generalize hq_ : World.drewN w71 _ = w71; have n0_ : Aside0 (Kd.R k36 36 w71 w.heap.size (fun k_ => some k_ ≠ (v443 : Value).ownBlock) (.slice Ao70 t458.length co70) t471) := ⟨by rw [← hq_]; exact (kr HO_11)⟩; have n1_ : Aside0 (Kd.R k36 36 w71 w.heap.size (fun k_ => some k_ ≠ (.slice Ao70 t458.length co70 : Value).ownBlock) v443 t442) := ⟨by rw [← hq_]; exact (kr HO_8)⟩; have n2_ : Aside0 (w71.heap[gb427]? = some (.cells (csBay a0_0 a0_1 a0_2) 26 (0, 0))) := ⟨by rw [← hq_]; exact (kb BK427)⟩; have n3_ : Aside0 (w71.heap[gb428]? = some (.cells #[.int .i8 a2_0, .int .i8 a2_1, .int .i8 a2_2, .int .i8 a2_3, .int .i8 a2_4, .int .i8 a2_5] 34 (0, 0))) := ⟨by rw [← hq_]; exact (kb BK428)⟩; have n4_ : Aside0 (Below w.heap.size w w71) := ⟨by rw [← hq_]; exact (be HB)⟩; clear HO_11 HO_8 BK427 BK428 HB hq_; have HO_11 := n0_; have HO_8 := n1_; have BK427 := n2_; have BK428 := n3_; have HB := n4_; clear n0_ n1_ n2_ n3_ n4_))
           have n0_ := am (Kd.R_drew HO_8.out)
           have n1_ := am (Kd.R_drew HO_11.out)
           have n2_ := am (blk_drew BK427.out)
           have n3_ := am (blk_drew BK428.out)
           have n4_ := am (below_drew1 HB.out)
           clear HO_8
           clear HO_11
           clear BK427
           clear BK428
           clear HB
           have HO_8 := n0_
           have HO_11 := n1_
           have BK427 := n2_
           have BK428 := n3_
           have HB := n4_
           clear n0_ n1_ n2_ n3_ n4_
           refine start_ (n := 12) (S := fun w' => w'.cell? ⟨gb427, 0, none⟩ = some (.int .i8 a0_0) ∧ w'.cell? ⟨gb427, 1, none⟩ = some (.int .i8 a0_1) ∧ atCells w' gb427 a0_2 ∧ BayAt26 w' gb427 ∧ lvv w' gb427 = .agg (csBay a0_0 a0_1 a0_2) ∧ w'.cell? ⟨gb428, 0, none⟩ = some (.int .i8 a2_0) ∧ w'.cell? ⟨gb428, 1, none⟩ = some (.int .i8 a2_1) ∧ w'.cell? ⟨gb428, 2, none⟩ = some (.int .i8 a2_2) ∧ w'.cell? ⟨gb428, 3, none⟩ = some (.int .i8 a2_3) ∧ w'.cell? ⟨gb428, 4, none⟩ = some (.int .i8 a2_4) ∧ w'.cell? ⟨gb428, 5, none⟩ = some (.int .i8 a2_5)) (ds := []) #[false, false, false, false, false, false, false, false, false, false, false, false] (by kernel_rfl) rfl rfl ⟨(blk_cell BK427.out 0).trans rfl, (blk_cell BK427.out 1).trans rfl, at_cells BK427.out, BayAt26_of BK427.out, lvv_of BK427.out, (blk_cell BK428.out 0).trans rfl, (blk_cell BK428.out 1).trans rfl, (blk_cell BK428.out 2).trans rfl, (blk_cell BK428.out 3).trans rfl, (blk_cell BK428.out 4).trans rfl, (blk_cell BK428.out 5).trans rfl⟩ (fun hHeld => ?_); refine with_tabW laws_FnExactPlacesFor.tab24 laws_FnExactPlacesFor.bits24 (fun HT_ HW_ => ?_)
           generalize w71.drew = w72 at HO_8 HO_11 BK427 BK428 HB hHeld ⊢
           refine pS (i := 2) (some 88) #[false, false, true, false, false, false, false, false, false, false, false, false] (any_of HT_.out (by kernel_rfl)) ?_
           refine tS (i := 0) (some 86) #[true, false, true, false, false, false, false, false, false, false, false, false] (take_ofW HT_.out HW_.out (by kernel_rfl)) hHeld ?_
           refine tS (i := 4) (some 90) #[true, false, true, false, true, false, false, false, false, false, false, false] (take_ofW HT_.out HW_.out (by kernel_rfl)) hHeld ?_
           refine one_ (i := 1) (N := some 87) #[true, true, true, false, true, false, false, false, false, false, false, false] rfl rfl (one_of HT_.out (by kernel_rfl)) (by decide) (fun K hK => ?_)
           refine goes_ Try.func26 (by kernel_rfl) rfl #[.agg (csBay a0_0 a0_1 a0_2)] (by rfl) rfl rfl (by (try simp only [List.map_toArray, List.map_cons, List.map_nil]); first | done | rfl | (simp only [List.length_drop, List.length_take]; rfl)) ?_
           with_reducible refine (laws_toBay.calls a0_0 a0_1 a0_2 t473 t474 t475 _ A65.out).mono ?_
           rintro e w73 ⟨rfl, hb⟩
           refine ⟨_, rfl, ?_⟩
           have n0_ := am (Kd.R_below (kr HO_8) hb)
           have n1_ := am (Kd.R_below (kr HO_11) hb)
           have n2_ := bB BK427 hb
           have n3_ := bB BK428 hb
           have n4_ := am (below_step (be HB) hb)
           clear HO_8
           clear HO_11
           clear BK427
           clear BK428
           clear HB
           have HO_8 := n0_
           have HO_11 := n1_
           have BK427 := n2_
           have BK428 := n3_
           have HB := n4_
           clear n0_ n1_ n2_ n3_ n4_
           (try clear hb)
           (try clear hb2)
           (try clear hk)
           (try clear hi)
           refine hK.out _ _ ⟨(blk_cell BK427.out 0).trans rfl, (blk_cell BK427.out 1).trans rfl, at_cells BK427.out, BayAt26_of BK427.out, lvv_of BK427.out, (blk_cell BK428.out 0).trans rfl, (blk_cell BK428.out 1).trans rfl, (blk_cell BK428.out 2).trans rfl, (blk_cell BK428.out 3).trans rfl, (blk_cell BK428.out 4).trans rfl, (blk_cell BK428.out 5).trans rfl⟩ (fun hHeld => ?_)
           clear hK K
           refine norm_ (a' := ?_) ?_ ?_
           rotate_left
           ·show Act.put _ (some 87) _ = _
            simp only [Act.put, List.setIfInBounds_toArray, List.set_cons_zero, List.set_cons_succ, i64_w, i32_w]
            rfl
           refine one_ (i := 3) (N := some 89) #[true, true, true, true, true, false, false, false, false, false, false, false] rfl rfl (one_of HT_.out (by kernel_rfl)) (by decide) (fun K hK => ?_)
           refine goes_ Try.func33 (by kernel_rfl) rfl #[.slice A1 l1.length c1] (by rfl) rfl rfl (by (try simp only [List.map_toArray, List.map_cons, List.map_nil]); first | done | rfl | (simp only [List.length_drop, List.length_take]; rfl)) ?_
           with_reducible refine (laws_toBoatS.calls kj43 _ _ l1 t476 _ ?side1 ?side2 A66.out).mono ?_
           (case side1 => repeat (first | exact (Kd.C_below HR1.out HB.out) | (with_reducible refine Kd.C_alloc ?_ _) | (with_reducible refine Kd.C_drewN ?_ _) | (with_reducible refine Kd.C_drew ?_)))
           (case side2 => exact HC1.out)
           rintro e w74 ⟨v477, rfl, ho0, hb⟩
           refine ⟨_, rfl, ?_⟩
           have n0_ := am (Kd.R_below (kr HO_8) hb)
           have n1_ := am (Kd.R_below (kr HO_11) hb)
           have n2_ := am (Kd.R_lower ho0 (below_size (be HB)))
           have n3_ := bB BK427 hb
           have n4_ := bB BK428 hb
           have n5_ := am (below_step (be HB) hb)
           clear HO_8
           clear HO_11
           clear BK427
           clear BK428
           clear HB
           have HO_8 := n0_
           have HO_11 := n1_
           have HO478 := n2_
           have BK427 := n3_
           have BK428 := n4_
           have HB := n5_
           clear n0_ n1_ n2_ n3_ n4_ n5_
           (try clear hb)
           (try clear hb2)
           (try clear hk)
           (try clear hi)
           (try clear ho0)
           refine hK.out _ _ ⟨(blk_cell BK427.out 0).trans rfl, (blk_cell BK427.out 1).trans rfl, at_cells BK427.out, BayAt26_of BK427.out, lvv_of BK427.out, (blk_cell BK428.out 0).trans rfl, (blk_cell BK428.out 1).trans rfl, (blk_cell BK428.out 2).trans rfl, (blk_cell BK428.out 3).trans rfl, (blk_cell BK428.out 4).trans rfl, (blk_cell BK428.out 5).trans rfl⟩ (fun hHeld => ?_)
           clear hK K
           refine norm_ (a' := ?_) ?_ ?_
           rotate_left
           ·show Act.put _ (some 89) _ = _
            simp only [Act.put, List.setIfInBounds_toArray, List.set_cons_zero, List.set_cons_succ, i64_w, i32_w]
            rfl
           refine one_ (i := 5) (N := some 91) #[true, true, true, true, true, true, false, false, false, false, false, false] rfl rfl (one_of HT_.out (by kernel_rfl)) (by decide) (fun K hK => ?_)
           refine goes_ Try.func29 (by kernel_rfl) rfl #[.agg #[.int .i8 a2_0, .int .i8 a2_1, .int .i8 a2_2, .int .i8 a2_3, .int .i8 a2_4, .int .i8 a2_5]] (by rfl) rfl rfl (by (try simp only [List.map_toArray, List.map_cons, List.map_nil]); first | done | rfl | (simp only [List.length_drop, List.length_take]; rfl)) ?_
           with_reducible refine (laws_toBoat.calls a2_0 a2_1 a2_2 a2_3 a2_4 a2_5 t479 t480 t481 t482 t483 t484 _ A67.out).mono ?_
           rintro e w75 ⟨rfl, hb⟩
           refine ⟨_, rfl, ?_⟩
           have n0_ := am (Kd.R_below (kr HO_8) hb)
           have n1_ := am (Kd.R_below (kr HO_11) hb)
           have n2_ := am (Kd.R_below (kr HO478) hb)
           have n3_ := bB BK427 hb
           have n4_ := bB BK428 hb
           have n5_ := am (below_step (be HB) hb)
           clear HO_8
           clear HO_11
           clear HO478
           clear BK427
           clear BK428
           clear HB
           have HO_8 := n0_
           have HO_11 := n1_
           have HO478 := n2_
           have BK427 := n3_
           have BK428 := n4_
           have HB := n5_
           clear n0_ n1_ n2_ n3_ n4_ n5_
           (try clear hb)
           (try clear hb2)
           (try clear hk)
           (try clear hi)
           obtain ⟨Ao76, co76, eo76⟩ := Kd.R_slice HO478.out
           (first | subst eo76 | (injection eo76 with f1_ f2_ f3_; have f4_ := f1_.symm; have f5_ := f3_.symm; clear f1_ f2_ f3_; subst f4_; subst f5_))
           refine hK.out _ _ ⟨(blk_cell BK427.out 0).trans rfl, (blk_cell BK427.out 1).trans rfl, at_cells BK427.out, BayAt26_of BK427.out, lvv_of BK427.out, (blk_cell BK428.out 0).trans rfl, (blk_cell BK428.out 1).trans rfl, (blk_cell BK428.out 2).trans rfl, (blk_cell BK428.out 3).trans rfl, (blk_cell BK428.out 4).trans rfl, (blk_cell BK428.out 5).trans rfl⟩ (fun hHeld => ?_)
           clear hK K
           refine norm_ (a' := ?_) ?_ ?_
           rotate_left
           ·show Act.put _ (some 91) _ = _
            simp only [Act.put, List.setIfInBounds_toArray, List.set_cons_zero, List.set_cons_succ, i64_w, i32_w]
            rfl
           refine one_ (i := 6) (N := some 92) #[true, true, true, true, true, true, true, false, false, false, false, false] rfl rfl (one_of HT_.out (by kernel_rfl)) (by decide) (fun K hK => ?_)
           refine goes_ Try.func72 (by kernel_rfl) rfl #[.agg (csBay t473 t474 t475), .slice Ao76 t476.length co76, .agg #[.int .i8 t479, .int .i8 t480, .int .i8 t481, .int .i8 t482, .int .i8 t483, .int .i8 t484]] (by rfl) rfl rfl (by (try simp only [List.map_toArray, List.map_cons, List.map_nil]); first | done | rfl | (simp only [List.length_drop, List.length_take]; rfl)) ?_
           with_reducible refine (impl_PlacesFor.calls kj43 t473 t474 t475 _ _ t476 t479 t480 t481 t482 t483 t484 t485 t488 _ ?side1 ?side2 A68.out).mono ?_
           (case side1 => repeat (first | exact (Kd.R_reads' HO478.out).2.2 | (with_reducible refine Kd.C_alloc ?_ _) | (with_reducible refine Kd.C_drewN ?_ _) | (with_reducible refine Kd.C_drew ?_)))
           (case side2 => exact (Kd.R_reads' HO478.out).2.1)
           rintro e w77 ⟨v486, rfl, ho0, hb⟩
           refine ⟨_, rfl, ?_⟩
           have n0_ := am (Kd.R_elder' (kr HO_8) (Kd.R_base ho0) hb)
           have n1_ := am (Kd.R_elder' (kr HO_11) (Kd.R_base ho0) hb)
           have n2_ := am (Kd.R_below (kr HO478) hb)
           have n3_ := am (Kd.R_lower (Kd.R_new' (Kd.R_new' ho0 (Kd.R_lt (kr HO_8))) (Kd.R_lt (kr HO_11))) (below_size (be HB)))
           have n4_ := bB BK427 hb
           have n5_ := bB BK428 hb
           have n6_ := am (below_step (be HB) hb)
           clear HO_8
           clear HO_11
           clear HO478
           clear BK427
           clear BK428
           clear HB
           have HO_8 := n0_
           have HO_11 := n1_
           have HO478 := n2_
           have HO487 := n3_
           have BK427 := n4_
           have BK428 := n5_
           have HB := n6_
           clear n0_ n1_ n2_ n3_ n4_ n5_ n6_
           (try clear hb)
           (try clear hb2)
           (try clear hk)
           (try clear hi)
           (try clear ho0)
           refine hK.out _ _ ⟨(blk_cell BK427.out 0).trans rfl, (blk_cell BK427.out 1).trans rfl, at_cells BK427.out, BayAt26_of BK427.out, lvv_of BK427.out, (blk_cell BK428.out 0).trans rfl, (blk_cell BK428.out 1).trans rfl, (blk_cell BK428.out 2).trans rfl, (blk_cell BK428.out 3).trans rfl, (blk_cell BK428.out 4).trans rfl, (blk_cell BK428.out 5).trans rfl⟩ (fun hHeld => ?_)
           clear hK K
           refine norm_ (a' := ?_) ?_ ?_
           rotate_left
           ·show Act.put _ (some 92) _ = _
            simp only [Act.put, List.setIfInBounds_toArray, List.set_cons_zero, List.set_cons_succ, i64_w, i32_w]
            rfl
           refine pS (i := 7) (some 85) #[true, true, true, true, true, true, true, true, false, false, false, false] (any_of HT_.out (by kernel_rfl)) ?_
           refine pS (i := 8) (some 93) #[true, true, true, true, true, true, true, true, true, false, false, false] (any_of HT_.out (by kernel_rfl)) ?_
           refine pS (i := 9) (some 94) #[true, true, true, true, true, true, true, true, true, true, false, false] (any_of HT_.out (by kernel_rfl)) ?_
           refine pS (i := 10) (some 16) #[true, true, true, true, true, true, true, true, true, true, true, false] (any_of HT_.out (by kernel_rfl)) ?_
           refine pS (i := 11) (some 17) #[true, true, true, true, true, true, true, true, true, true, true, true] (any_of HT_.out (by kernel_rfl)) ?_
           refine done_ (done_of HT_.out (by kernel_rfl)) ?_
           go_upto_region 25 with (fail)
           go_cut [103] (fun v103 wc => ∃ (kq : Nat) (x103_68 : Bool), v103 = .bool x103_68 ∧ Aside0 (laws_FnExactPlacesFor.j2 kq t471 t470 x103_68 = some r) ∧ Aside0 (kq ≤ kj43) ∧ Aside0 (Kd.R k36 36 wc w.heap.size (fun _ => True) (.slice Ao70 t458.length co70) t471) ∧ Aside0 (wc.heap[gb427]? = some (.cells (csBay a0_0 a0_1 a0_2) 26 (0, 0))) ∧ Aside0 (wc.heap[gb428]? = some (.cells #[.int .i8 a2_0, .int .i8 a2_1, .int .i8 a2_2, .int .i8 a2_3, .int .i8 a2_4, .int .i8 a2_5] 34 (0, 0))) ∧ Aside0 (Below w.heap.size w wc))
           case first =>
            have H := HC69.out
            clear HC69
            replace H := Option.bind_eq_some_iff.mp H
            obtain ⟨t489, A780, H⟩ := H
            try dsimp only at H
            have A78 := am A780
            clear A780
            by_cases c79 : t489 = true
            ·subst c79
             rw [if_pos rfl] at H
             have H' := am H
             clear H
             obtain ⟨Ao80, co80, eo80⟩ := Kd.R_slice HO487.out
             subst eo80
             obtain ⟨Ao81, co81, eo81⟩ := Kd.R_slice HO_8.out
             subst eo81
             go_wp2_with (first | ((with_reducible refine gate_callee (f := 49) rfl ?_); refine gL (some 97) Try.func49 #[.slice Ao80 t485.length co80, .slice Ao81 t442.length co81] ?_; (with_reducible refine (laws_eqPlaceS.calls kj43 _ _ t485 _ _ t442 true _ ?side1 ?side2 ?side3 ?side4 A78.out).mono ?_); (case side1 => repeat (first | exact (Kd.R_reads' HO487.out).2.2 | (with_reducible refine Kd.C_alloc ?_ _) | (with_reducible refine Kd.C_drewN ?_ _) | (with_reducible refine Kd.C_drew ?_))); (case side2 => exact (Kd.R_reads' HO487.out).2.1); (case side3 => repeat (first | exact (Kd.R_reads' HO_8.out).2.2 | (with_reducible refine Kd.C_alloc ?_ _) | (with_reducible refine Kd.C_drewN ?_ _) | (with_reducible refine Kd.C_drew ?_))); (case side4 => exact (Kd.R_reads' HO_8.out).2.1); rintro e w82 ⟨rfl, hb⟩; refine ⟨_, rfl, ?_⟩; replace HO_8 := am (Kd.R_below (kr HO_8) hb); replace HO_11 := am (Kd.R_below (kr HO_11) hb); replace HO478 := am (Kd.R_below (kr HO478) hb); replace HO487 := am (Kd.R_below (kr HO487) hb); replace BK427 := bB BK427 hb; replace BK428 := bB BK428 hb; replace HB := am (below_step (be HB) hb); (try clear hb); (try clear hb2); (try clear hk); (try clear hi)))
             go_meet
             case rel => exact ⟨_, ((t488 != t445)), vv, H', ⟨by have := HJ15.out; have := HJ43.out; first | omega | exact Nat.le_refl _⟩, ⟨by (with_reducible repeat (first | apply Kd.R_alloc | apply Kd.R_drewN | apply Kd.R_drew)); exact Kd.R_mono HO_11.out (fun _ hk => trivial)⟩, ⟨kb BK427⟩, ⟨kb BK428⟩, ⟨be HB⟩⟩
            ·replace c79 := Bool.eq_false_iff.mpr c79
             subst c79
             have H1 : (laws_FnExactPlacesFor.j2 kj43 t471 t470 true) = some r := by rw [if_neg (show ¬ (false = true) by decide)] at H; exact H
             clear H
             have H := H1
             clear H1
             have H' := am H
             clear H
             obtain ⟨Ao83, co83, eo83⟩ := Kd.R_slice HO487.out
             subst eo83
             obtain ⟨Ao84, co84, eo84⟩ := Kd.R_slice HO_8.out
             subst eo84
             go_wp2_with (first | ((with_reducible refine gate_callee (f := 49) rfl ?_); refine gL (some 97) Try.func49 #[.slice Ao83 t485.length co83, .slice Ao84 t442.length co84] ?_; (with_reducible refine (laws_eqPlaceS.calls kj43 _ _ t485 _ _ t442 false _ ?side1 ?side2 ?side3 ?side4 A78.out).mono ?_); (case side1 => repeat (first | exact (Kd.R_reads' HO487.out).2.2 | (with_reducible refine Kd.C_alloc ?_ _) | (with_reducible refine Kd.C_drewN ?_ _) | (with_reducible refine Kd.C_drew ?_))); (case side2 => exact (Kd.R_reads' HO487.out).2.1); (case side3 => repeat (first | exact (Kd.R_reads' HO_8.out).2.2 | (with_reducible refine Kd.C_alloc ?_ _) | (with_reducible refine Kd.C_drewN ?_ _) | (with_reducible refine Kd.C_drew ?_))); (case side4 => exact (Kd.R_reads' HO_8.out).2.1); rintro e w85 ⟨rfl, hb⟩; refine ⟨_, rfl, ?_⟩; replace HO_8 := am (Kd.R_below (kr HO_8) hb); replace HO_11 := am (Kd.R_below (kr HO_11) hb); replace HO478 := am (Kd.R_below (kr HO478) hb); replace HO487 := am (Kd.R_below (kr HO487) hb); replace BK427 := bB BK427 hb; replace BK428 := bB BK428 hb; replace HB := am (below_step (be HB) hb); (try clear hb); (try clear hb2); (try clear hk); (try clear hi)))
             go_meet
             case rel => exact ⟨_, (true), vv, H', ⟨by have := HJ15.out; have := HJ43.out; first | omega | exact Nat.le_refl _⟩, ⟨by (with_reducible repeat (first | apply Kd.R_alloc | apply Kd.R_drewN | apply Kd.R_drew)); exact Kd.R_mono HO_11.out (fun _ hk => trivial)⟩, ⟨kb BK427⟩, ⟨kb BK428⟩, ⟨be HB⟩⟩
           case rest =>
            clear HC69
            try clear c1
            try clear c2
            try clear p2
            try clear c3
            try clear c4
            try clear c5
            try clear c5b0
            try clear c6
            try clear c7
            try clear c18
            try clear c26
            try clear c29
            try clear c31
            try clear c32
            try clear c33
            try clear c35
            try clear c39
            try clear c42
            try clear c49
            try clear c49b0
            try clear c50
            try clear c51
            try clear c57
            try clear c58
            try clear c61
            try clear c61b0
            try clear c64
            try clear c64b0
            try clear c64b1
            try clear c72
            try clear c79
            try clear p2
            obtain ⟨kq, x103_68, rfl, HA, HJ68, HO_11, BK427, BK428, HB⟩ := hcut
            have hl11_68 := (Kd.R_reads' HO_11.out).1
            rw [hl11_68] at HO_11
            (try simp only [hl11_68])
            (try simp only [hl11_68] at BK427)
            (try simp only [hl11_68] at BK428)
            cases kq with
            | zero => exact absurd HA.out (by simp [laws_FnExactPlacesFor.j2])
            | succ kj68 =>
             have H := HA.out
             clear HA
             simp only [laws_FnExactPlacesFor.j2] at H
             by_cases c86 : x103_68 = true
             ·subst c86
              rw [if_pos rfl] at H
              obtain rfl := Option.some.inj H
              go_wp2
              go_ret
              exact ⟨by first | rfl | (simp [errW_none, errW_some] <;> rfl) | (simp [*, errW_none, errW_some] <;> rfl), be HB⟩
             ·replace c86 := Bool.eq_false_iff.mpr c86
              subst c86
              have H1 : ((laws_heldPlaceS.f kj68 t471 1).bind fun t490 => (if t490 < 0 then (some false) else (if t490 = t470 then (some true) else (some false)))) = some r := by rw [if_neg (show ¬ (false = true) by decide)] at H; exact H
              clear H
              have H := H1
              clear H1
              replace H := Option.bind_eq_some_iff.mp H
              obtain ⟨t490, A870, H⟩ := H
              try dsimp only at H
              have A87 := am A870
              clear A870
              by_cases c88 : t490 < 0
              ·rw [if_pos c88] at H
               have c88b0 : decide (t490 < 0) = true := decide_eq_true c88
               clear c88
               obtain rfl := Option.some.inj H
               go_wp2_with (first | ((with_reducible refine gate_callee (f := 51) rfl ?_); refine gL (some 106) Try.func51 #[.slice Ao70 t471.length co70, .int .i64 1] ?_; (with_reducible refine (laws_heldPlaceS.calls kj68 _ _ t471 1 t490 _ ?side1 ?side2 A87.out).mono ?_); (case side1 => repeat (first | exact (Kd.R_reads' HO_11.out).2.2 | (with_reducible refine Kd.C_alloc ?_ _) | (with_reducible refine Kd.C_drewN ?_ _) | (with_reducible refine Kd.C_drew ?_))); (case side2 => exact (Kd.R_reads' HO_11.out).2.1); rintro e w' ⟨rfl, ⟨nd, rfl⟩⟩; refine ⟨_, rfl, ?_⟩))
               go_ret
               exact ⟨by first | rfl | (simp [errW_none, errW_some] <;> rfl) | (simp [*, errW_none, errW_some] <;> rfl), be HB⟩
              ·rw [if_neg c88] at H
               have c88b0 : decide (t490 < 0) = false := decide_eq_false c88
               clear c88
               by_cases c89 : t490 = t470
               ·rw [if_pos c89] at H
                have c89b0 : (t490 == t470) = true := beq_iff_eq.mpr c89
                have c89b1 : (t490 != t470) = false := bne_eq_false_iff_eq.mpr c89
                clear c89
                obtain rfl := Option.some.inj H
                go_wp2_with (first | ((with_reducible refine gate_callee (f := 51) rfl ?_); refine gL (some 106) Try.func51 #[.slice Ao70 t471.length co70, .int .i64 1] ?_; (with_reducible refine (laws_heldPlaceS.calls kj68 _ _ t471 1 t490 _ ?side1 ?side2 A87.out).mono ?_); (case side1 => repeat (first | exact (Kd.R_reads' HO_11.out).2.2 | (with_reducible refine Kd.C_alloc ?_ _) | (with_reducible refine Kd.C_drewN ?_ _) | (with_reducible refine Kd.C_drew ?_))); (case side2 => exact (Kd.R_reads' HO_11.out).2.1); rintro e w' ⟨rfl, ⟨nd, rfl⟩⟩; refine ⟨_, rfl, ?_⟩))
                go_ret
                exact ⟨by first | rfl | (simp [errW_none, errW_some] <;> rfl) | (simp [*, errW_none, errW_some] <;> rfl), be HB⟩
               ·rw [if_neg c89] at H
                have c89b0 : (t490 == t470) = false := beq_eq_false_iff_ne.mpr c89
                have c89b1 : (t490 != t470) = true := bne_iff_ne.mpr c89
                obtain rfl := Option.some.inj H
                go_wp2_with (first | ((with_reducible refine gate_callee (f := 51) rfl ?_); refine gL (some 106) Try.func51 #[.slice Ao70 t471.length co70, .int .i64 1] ?_; (with_reducible refine (laws_heldPlaceS.calls kj68 _ _ t471 1 t490 _ ?side1 ?side2 A87.out).mono ?_); (case side1 => repeat (first | exact (Kd.R_reads' HO_11.out).2.2 | (with_reducible refine Kd.C_alloc ?_ _) | (with_reducible refine Kd.C_drewN ?_ _) | (with_reducible refine Kd.C_drew ?_))); (case side2 => exact (Kd.R_reads' HO_11.out).2.1); rintro e w' ⟨rfl, ⟨nd, rfl⟩⟩; refine ⟨_, rfl, ?_⟩))
                go_ret
                exact ⟨by first | rfl | (simp [errW_none, errW_some] <;> rfl) | (simp [*, errW_none, errW_some] <;> rfl), be HB⟩
          ·rw [if_neg c64] at H
           have c64b0 : (t472 == t470) = false := beq_eq_false_iff_ne.mpr c64
           have c64b1 : (t472 != t470) = true := bne_iff_ne.mpr c64
           obtain rfl := Option.some.inj H
           obtain ⟨Ao90, co90, eo90⟩ := Kd.R_slice HO_11.out
           subst eo90
           go_wp2_with (first | ((with_reducible refine gate_callee (f := 50) rfl ?_); refine gL (some 76) Try.func50 #[.slice Ao90 t458.length co90, .int .i64 1] ?_; (with_reducible refine (laws_markPlaceS.calls kj43 (fun k_ => some k_ = (.slice Ao90 t458.length co90 : Value).ownBlock) (.slice Ao90 t458.length co90) t458 1 t470 t471 w _ ?side1 ?side2 A59.out).mono ?_); (case side1 => exact be HB); (case side2 => exact Kd.R_tight rfl HO_11.out); rintro e w91 ⟨rfl, hy0, hb, hkp⟩; refine ⟨_, rfl, ?_⟩; replace HO_8 := am (Kd.R_mono (ok' := fun k_ => some k_ ≠ (.slice Ao90 t458.length co90 : Value).ownBlock) (Kd.R_keptB (HO_8.out) hkp (fun k_ hk_ hs_ => (hk_) hs_)) (fun k_ hk_ => hk_.1)); replace BK427 := am (blk_kept (kb BK427) hkp (fun hs_ => (fun e_ => (Kd.R_ne HO_11.out BK427.out (by decide)) e_) hs_)); replace BK428 := am (blk_kept (kb BK428) hkp (fun hs_ => (fun e_ => (Kd.R_ne HO_11.out BK428.out (by decide)) e_) hs_)); replace HO_11 := am (Kd.R_reok rfl hy0 (fun k_ e_ => HO_11.out.1 k_ e_)); replace HB := am (hb); (try clear hb); (try clear hkp); (try clear hy0)) | ((with_reducible refine gate_callee (f := 51) rfl ?_); refine goesL_ (some 79) rfl rfl Try.func51 (by kernel_rfl) rfl #[.slice Ao90 t471.length co90, .int .i64 1] rfl (by (try simp only [List.map_toArray, List.map_cons, List.map_nil]); first | done | (rw [show t471.length = t458.length from (Kd.R_reads' HO_11.out).1.symm] <;> rfl) | rfl | (simp only [List.length_drop, List.length_take]; rfl)) ?_; (with_reducible refine (laws_heldPlaceS.calls kj43 _ _ t471 1 t472 _ ?side1 ?side2 A60.out).mono ?_); (case side1 => repeat (first | exact (Kd.R_reads' HO_11.out).2.2 | (with_reducible refine Kd.C_alloc ?_ _) | (with_reducible refine Kd.C_drewN ?_ _) | (with_reducible refine Kd.C_drew ?_))); (case side2 => rw [show t471.length = t458.length from (Kd.R_reads' HO_11.out).1.symm]; exact (Kd.R_reads' HO_11.out).2.1); rintro e w' ⟨rfl, ⟨nd, rfl⟩⟩; refine ⟨_, rfl, ?_⟩))
           go_ret
           exact ⟨by first | rfl | (simp [errW_none, errW_some] <;> rfl) | (simp [*, errW_none, errW_some] <;> rfl), be HB⟩
     ·replace c42 := Bool.eq_false_iff.mpr c42
      subst c42
      have H1 : (some false) = some r := by rw [if_neg (show ¬ (false = true) by decide)] at H; exact H
      clear H
      have H := H1
      clear H1
      obtain rfl := Option.some.inj H
      go_wp2_with (first | ((with_reducible refine gate_callee (f := 33) rfl ?_); refine gL (some 55) Try.func33 #[.slice A1 l1.length c1] ?_; (with_reducible refine (laws_toBoatS.calls kj15 _ _ l1 t463 _ ?side1 ?side2 A40.out).mono ?_); (case side1 => repeat (first | exact (Kd.C_below HR1.out HB.out) | (with_reducible refine Kd.C_alloc ?_ _) | (with_reducible refine Kd.C_drewN ?_ _) | (with_reducible refine Kd.C_drew ?_))); (case side2 => exact HC1.out); rintro e w92 ⟨v464, rfl, ho0, hb⟩; refine ⟨_, rfl, ?_⟩; have HO465 := am (Kd.R_lower (Kd.R_new' ho0 (Kd.R_lt (kr HO_10))) (below_size (be HB))); replace HO_8 := am (Kd.R_below (kr HO_8) hb); replace HO_10 := am (Kd.R_elder' (kr HO_10) (Kd.R_base ho0) hb); replace HO_11 := am (Kd.R_below (kr HO_11) hb); replace BK427 := bB BK427 hb; replace BK428 := bB BK428 hb; replace HB := am (below_step (be HB) hb); (try clear hb); (try clear hb2); (try clear hk); (try clear hi); (try clear ho0); obtain ⟨Ao93, co93, eo93⟩ := Kd.R_slice HO465.out; subst eo93) | ((with_reducible refine gate_callee (f := 35) rfl ?_); refine gL (some 56) Try.func35 #[.slice Ao29 t446.length co29, .slice Ao93 t463.length co93] ?_; (with_reducible refine (laws_eqBoatS.calls kj15 _ _ t446 _ _ t463 false _ ?side1 ?side2 ?side3 ?side4 A41.out).mono ?_); (case side1 => repeat (first | exact (Kd.R_reads' HO_10.out).2.2 | (with_reducible refine Kd.C_alloc ?_ _) | (with_reducible refine Kd.C_drewN ?_ _) | (with_reducible refine Kd.C_drew ?_))); (case side2 => exact (Kd.R_reads' HO_10.out).2.1); (case side3 => repeat (first | exact (Kd.R_reads' HO465.out).2.2 | (with_reducible refine Kd.C_alloc ?_ _) | (with_reducible refine Kd.C_drewN ?_ _) | (with_reducible refine Kd.C_drew ?_))); (case side4 => exact (Kd.R_reads' HO465.out).2.1); rintro e w94 ⟨rfl, hb⟩; refine ⟨_, rfl, ?_⟩; replace HO_8 := am (Kd.R_below (kr HO_8) hb); replace HO_10 := am (Kd.R_below (kr HO_10) hb); replace HO_11 := am (Kd.R_below (kr HO_11) hb); replace HO465 := am (Kd.R_below (kr HO465) hb); replace BK427 := bB BK427 hb; replace BK428 := bB BK428 hb; replace HB := am (below_step (be HB) hb); (try clear hb); (try clear hb2); (try clear hk); (try clear hi)))
      go_ret
      exact ⟨by first | rfl | (simp [errW_none, errW_some] <;> rfl) | (simp [*, errW_none, errW_some] <;> rfl), be HB⟩

end Go.Proofs.Ytcollbifdfhfoaa.PFnExactPlacesFor
