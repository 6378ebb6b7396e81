-- Written by a program out of this seat's translation (functions, and that the code comes to them).
import Derived.Test.YtcollbifdfhfoaaPFnExactShoalsOfx0
import Derived.Test.YtcollbifdfhfoaaPFnExactShoalsOfx1
import Derived.Test.YtcollbifdfhfoaaPFnExactShoalsOfx5
import Derived.Test.YtcollbifdfhfoaaPFnExactShoalsOfx6
namespace Go.Proofs.Ytcollbifdfhfoaa.PFnExactShoalsOf
open Go.RowKit Go.Proofs.YtcollbifdfhfoaaW.PrintWords Go.Proofs.YtcollbifdfhfoaaW.PrintLast Go.Proofs.YtcollbifdfhfoaaW.PrintMore
attribute [local go_sem] max2_int min2_int max_two min_two max_three min_three max_four min_four   -- for this text's walks alone
open Go.Proofs.Ytcollbifdfhfoaa.Bay Go.Proofs.Ytcollbifdfhfoaa.Short
attribute [local go_sem ↓] lv26_eq lv28_eq
attribute [local go_sem] lvv_set lvv_drewN lvv_drew lv26_run BayAt26_set BayAt26_drewN BayAt26_drew lv28_run BayAt28_set BayAt28_drewN BayAt28_drew
set_option linter.unusedVariables false
set_option linter.unusedSimpArgs false

/-! ### laws_FnExactShoalsOf: function 12 -/
mutual
def laws_FnExactShoalsOf.j0 : Nat → List (S36) → Int → List (S36) → Bool → Int → Int → (Nat → Int) → Int → Int → Int → Int → Int → Int → Option (Bool)
  | 0, _, _, _, _, _, _, _, _, _, _, _, _, _ => none
  | k + 1, x5, x6, x7, x37, x284000, x284001, x284002, x285000, x285001, x285002, x285003, x285004, x285005 => if x37 = true then (some false) else ((laws_markPlaceS.f k x7 1).bind fun bt312 => ((laws_heldPlaceS.f k bt312.2 1).bind fun t314 => (if t314 < 0 then (some false) else (if t314 = bt312.1 then ((laws_toBay.f x284000 x284001 x284002).bind fun bt315 => ((laws_toBoat.f x285000 x285001 x285002 x285003 x285004 x285005).bind fun bt318 => ((impl_ShoalsOf.f k bt315.1 bt315.2.1 bt315.2.2 bt318.1 bt318.2.1 bt318.2.2.1 bt318.2.2.2.1 bt318.2.2.2.2.1 bt318.2.2.2.2.2).bind fun bt324 => ((laws_eqPlaceS.f k bt324.1 x5).bind fun t328 => (if t328 = true then (laws_FnExactShoalsOf.j1 k bt312.2 bt312.1 (bt324.2 != x6)) else (laws_FnExactShoalsOf.j1 k bt312.2 bt312.1 true)))))) else (some false)))))
def laws_FnExactShoalsOf.j1 : Nat → List (S36) → Int → Bool → Option (Bool)
  | 0, _, _, _ => none
  | k + 1, x7, x9, x65 => if x65 = true then (some false) else ((laws_heldPlaceS.f k x7 1).bind fun t329 => (if t329 < 0 then (some false) else (if t329 = x9 then (some true) else (some false))))
end
def laws_FnExactShoalsOf.f (k : Nat) (a0_0 : Int) (a0_1 : Int) (a0_2 : (Nat → Int)) (a1_0 : Int) (a1_1 : Int) (a1_2 : Int) (a1_3 : Int) (a1_4 : Int) (a1_5 : Int) : Option (Bool) := (laws_toBay.f a0_0 a0_1 a0_2).bind fun bt285 => ((laws_toBoat.f a1_0 a1_1 a1_2 a1_3 a1_4 a1_5).bind fun bt288 => ((spec_ShoalsOf.f k bt285.1 bt285.2.1 bt285.2.2 bt288.1 bt288.2.1 bt288.2.2.1 bt288.2.2.2.1 bt288.2.2.2.2.1 bt288.2.2.2.2.2).bind fun bt294 => ((laws_toBay.f a0_0 a0_1 a0_2).bind fun bt298 => ((laws_toBoat.f a1_0 a1_1 a1_2 a1_3 a1_4 a1_5).bind fun bt301 => ((impl_ShoalsOf.f k bt298.1 bt298.2.1 bt298.2.2 bt301.1 bt301.2.1 bt301.2.2.1 bt301.2.2.2.1 bt301.2.2.2.2.1 bt301.2.2.2.2.2).bind fun bt307 => ((laws_eqPlaceS.f k bt307.1 bt294.1).bind fun t311 => (if t311 = true then (laws_FnExactShoalsOf.j0 k bt294.1 bt294.2 bt307.1 (bt307.2 != bt294.2) a0_0 a0_1 a0_2 a1_0 a1_1 a1_2 a1_3 a1_4 a1_5) else (laws_FnExactShoalsOf.j0 k bt294.1 bt294.2 bt307.1 true a0_0 a0_1 a0_2 a1_0 a1_1 a1_2 a1_3 a1_4 a1_5))))))))
def laws_FnExactShoalsOf.T1 : Bool × List (List Nat × List Nat) := (true, [([], []), ([0], [0]), ([], []), ([2, 1], [2]), ([1, 3, 3], [1, 3]), ([4], [4]), ([5], [5]), ([5], [5]), ([6, 4, 0, 1, 2, 3, 4, 5, 6], [6]), ([7, 8, 0, 1, 2, 3, 4, 5, 6, 7, 8], [7])])
def laws_FnExactShoalsOf.B1 : List Nat := [0, 1, 0, 7, 15, 31, 63, 63, 127, 511]
theorem laws_FnExactShoalsOf.tab1 : rtab .any (opsOf Try.f12 1) = laws_FnExactShoalsOf.T1 := by kernel_rfl
theorem laws_FnExactShoalsOf.bits1 : waitsOk laws_FnExactShoalsOf.T1.2 laws_FnExactShoalsOf.B1 = true := by kernel_rfl
def laws_FnExactShoalsOf.T2 : Bool × List (List Nat × List Nat) := (true, [([], []), ([0], [0]), ([], []), ([2, 1], [2]), ([1, 3, 3], [1, 3]), ([4], [4]), ([5], [5]), ([5], [5]), ([6, 4, 0, 1, 2, 3, 4, 5, 6], [6]), ([7, 8, 0, 1, 2, 3, 4, 5, 6, 7, 8], [7])])
def laws_FnExactShoalsOf.B2 : List Nat := [0, 1, 0, 7, 15, 31, 63, 63, 127, 511]
theorem laws_FnExactShoalsOf.tab2 : rtab .any (opsOf Try.f12 2) = laws_FnExactShoalsOf.T2 := by kernel_rfl
theorem laws_FnExactShoalsOf.bits2 : waitsOk laws_FnExactShoalsOf.T2.2 laws_FnExactShoalsOf.B2 = true := by kernel_rfl
def laws_FnExactShoalsOf.T13 : Bool × List (List Nat × List Nat) := (true, [([], []), ([0], [0]), ([], []), ([2, 1], [2]), ([1, 3, 3], [1, 3]), ([4], [4]), ([5], [5]), ([5], [5]), ([6, 4, 0, 1, 2, 3, 4, 5, 6], [6]), ([7, 8, 0, 1, 2, 3, 4, 5, 6, 7, 8], [7])])
def laws_FnExactShoalsOf.B13 : List Nat := [0, 1, 0, 7, 15, 31, 63, 63, 127, 511]
theorem laws_FnExactShoalsOf.tab13 : rtab .any (opsOf Try.f12 13) = laws_FnExactShoalsOf.T13 := by kernel_rfl
theorem laws_FnExactShoalsOf.bits13 : waitsOk laws_FnExactShoalsOf.T13.2 laws_FnExactShoalsOf.B13 = true := by kernel_rfl
set_option maxHeartbeats 8000000 in
set_option maxRecDepth 100000 in
theorem laws_FnExactShoalsOf.calls (k : Nat) (a0_0 : Int) (a0_1 : Int) (a0_2 : (Nat → Int)) (a1_0 : Int) (a1_1 : Int) (a1_2 : Int) (a1_3 : Int) (a1_4 : Int) (a1_5 : Int) (r : Bool) (w : World) (h : laws_FnExactShoalsOf.f k a0_0 a0_1 a0_2 a1_0 a1_1 a1_2 a1_3 a1_4 a1_5 = some r) :
    Calls Try.prog 12 #[.agg (csBay a0_0 a0_1 a0_2), .agg #[.int .i8 a1_0, .int .i8 a1_1, .int .i8 a1_2, .int .i8 a1_3, .int .i8 a1_4, .int .i8 a1_5]] w fun e w' => e = .returned (.bool r) ∧ Below w.heap.size w w' := by
  have hu26 := Try.underlying26
  have hu34 := Try.underlying34
  have HB := am (Below.refl w.heap.size w)
  have H : ((laws_toBay.f a0_0 a0_1 a0_2).bind fun bt285 => ((laws_toBoat.f a1_0 a1_1 a1_2 a1_3 a1_4 a1_5).bind fun bt288 => ((spec_ShoalsOf.f k bt285.1 bt285.2.1 bt285.2.2 bt288.1 bt288.2.1 bt288.2.2.1 bt288.2.2.2.1 bt288.2.2.2.2.1 bt288.2.2.2.2.2).bind fun bt294 => ((laws_toBay.f a0_0 a0_1 a0_2).bind fun bt298 => ((laws_toBoat.f a1_0 a1_1 a1_2 a1_3 a1_4 a1_5).bind fun bt301 => ((impl_ShoalsOf.f k bt298.1 bt298.2.1 bt298.2.2 bt301.1 bt301.2.1 bt301.2.2.1 bt301.2.2.2.1 bt301.2.2.2.2.1 bt301.2.2.2.2.2).bind fun bt307 => ((laws_eqPlaceS.f k bt307.1 bt294.1).bind fun t311 => (if t311 = true then (laws_FnExactShoalsOf.j0 k bt294.1 bt294.2 bt307.1 (bt307.2 != bt294.2) a0_0 a0_1 a0_2 a1_0 a1_1 a1_2 a1_3 a1_4 a1_5) else (laws_FnExactShoalsOf.j0 k bt294.1 bt294.2 bt307.1 true a0_0 a0_1 a0_2 a1_0 a1_1 a1_2 a1_3 a1_4 a1_5))))))))) = some r := h
  clear h
  replace H := Option.bind_eq_some_iff.mp H
  obtain ⟨⟨t285, t286, t287⟩, A30, H⟩ := H
  try dsimp only at H
  have A3 := am A30
  clear A30
  replace H := Option.bind_eq_some_iff.mp H
  obtain ⟨⟨t288, t289, t290, t291, t292, t293⟩, A40, H⟩ := H
  try dsimp only at H
  have A4 := am A40
  clear A40
  replace H := Option.bind_eq_some_iff.mp H
  obtain ⟨⟨t294, t297⟩, A50, H⟩ := H
  try dsimp only at H
  have A5 := am A50
  clear A50
  replace H := Option.bind_eq_some_iff.mp H
  obtain ⟨⟨t298, t299, t300⟩, A60, H⟩ := H
  try dsimp only at H
  have A6 := am A60
  clear A60
  replace H := Option.bind_eq_some_iff.mp H
  obtain ⟨⟨t301, t302, t303, t304, t305, t306⟩, A70, H⟩ := H
  try dsimp only at H
  have A7 := am A70
  clear A70
  replace H := Option.bind_eq_some_iff.mp H
  obtain ⟨⟨t307, t310⟩, A80, H⟩ := H
  try dsimp only at H
  have A8 := am A80
  clear A80
  have HC9 := am H
  clear H
  go_enter Try.func12, Try.ntmps12
  try go_wp2_with (first | ((with_reducible refine gate_dst (N := 2) rfl ?_); refine bxe (N := 2) (cs := (csBay a0_0 a0_1 a0_2)) (t := 26) ?_; intro gb283 hg w10 hbox hb; have BK283 := am (hbox); have GW283 := am (gN hg (below_size (be HB))); have GE283 := am (gN hg (below_size (be HB))); replace HB := am (below_step (be HB) hb); clear hb hbox hg) | ((with_reducible refine gate_dst (N := 3) rfl ?_); refine bxe (N := 3) (cs := #[.int .i8 a1_0, .int .i8 a1_1, .int .i8 a1_2, .int .i8 a1_3, .int .i8 a1_4, .int .i8 a1_5]) (t := 34) ?_; intro gb284 hg w11 hbox hb; have BK284 := am (hbox); have GW284 := am (gN hg (below_size (be HB))); have GE284 := am (gN hg (below_size (be HB))); have NB283_284 := nL BK283 hg; have NB284_283 := nR BK283 hg; replace BK283 := bB BK283 hb; replace HB := am (below_step (be HB) hb); clear hb hbox hg))
  have n0_ := am (blk_drew BK283.out)
  have n1_ := am (blk_drew BK284.out)
  have n2_ := am (below_drew1 HB.out)
  clear BK283
  clear BK284
  clear HB
  have BK283 := n0_
  have BK284 := n1_
  have HB := n2_
  clear n0_ n1_ n2_
  refine start_ (n := 10) (S := fun w' => w'.cell? ⟨gb283, 0, none⟩ = some (.int .i8 a0_0) ∧ w'.cell? ⟨gb283, 1, none⟩ = some (.int .i8 a0_1) ∧ atCells w' gb283 a0_2 ∧ BayAt26 w' gb283 ∧ lvv w' gb283 = .agg (csBay a0_0 a0_1 a0_2) ∧ w'.cell? ⟨gb284, 0, none⟩ = some (.int .i8 a1_0) ∧ w'.cell? ⟨gb284, 1, none⟩ = some (.int .i8 a1_1) ∧ w'.cell? ⟨gb284, 2, none⟩ = some (.int .i8 a1_2) ∧ w'.cell? ⟨gb284, 3, none⟩ = some (.int .i8 a1_3) ∧ w'.cell? ⟨gb284, 4, none⟩ = some (.int .i8 a1_4) ∧ w'.cell? ⟨gb284, 5, none⟩ = some (.int .i8 a1_5)) (ds := []) #[false, false, false, false, false, false, false, false, false, false] (by kernel_rfl) rfl rfl ⟨(blk_cell BK283.out 0).trans rfl, (blk_cell BK283.out 1).trans rfl, at_cells BK283.out, BayAt26_of BK283.out, lvv_of BK283.out, (blk_cell BK284.out 0).trans rfl, (blk_cell BK284.out 1).trans rfl, (blk_cell BK284.out 2).trans rfl, (blk_cell BK284.out 3).trans rfl, (blk_cell BK284.out 4).trans rfl, (blk_cell BK284.out 5).trans rfl⟩ (fun hHeld => ?_); refine with_tabW laws_FnExactShoalsOf.tab1 laws_FnExactShoalsOf.bits1 (fun HT_ HW_ => ?_)
  generalize w11.drew = w12 at BK283 BK284 HB hHeld ⊢
  refine take_ (i := 0) (N := some 14) (v := ?_) (a' := ?_) #[true, false, false, false, false, false, false, false, false, false] rfl rfl (take_ofW HT_.out HW_.out (by kernel_rfl)) (fun _ _ _ h => h) (Or.inl ⟨by rfl, ?_⟩) hHeld ?_ ?_
  rotate_left
  · rintro w' ⟨s0, s1, s2, s3, s4, s5, s6, s7, s8, s9, s10⟩
    go_simp
    with_reducible rfl
  rotate_left
  · simp only [Act.put, List.setIfInBounds_toArray, List.set_cons_zero, List.set_cons_succ, i64_w, i32_w]
    rfl
  refine take_ (i := 2) (N := some 16) (v := ?_) (a' := ?_) #[true, false, true, false, false, false, false, false, false, false] rfl rfl (take_ofW HT_.out HW_.out (by kernel_rfl)) (fun _ _ _ h => h) (Or.inl ⟨by rfl, ?_⟩) hHeld ?_ ?_
  rotate_left
  · rintro w' ⟨s0, s1, s2, s3, s4, s5, s6, s7, s8, s9, s10⟩
    go_simp
    with_reducible rfl
  rotate_left
  · simp only [Act.put, List.setIfInBounds_toArray, List.set_cons_zero, List.set_cons_succ, i64_w, i32_w]
    rfl
  refine one_ (i := 1) (N := some 15) #[true, true, true, false, false, false, false, false, false, false] rfl rfl (one_of HT_.out (by kernel_rfl)) (by decide) (fun K hK => ?_)
  refine goes_ Try.func26 (by kernel_rfl) rfl #[.agg (csBay a0_0 a0_1 a0_2)] (by rfl) rfl rfl (by (try simp only [List.map_toArray, List.map_cons, List.map_nil]); first | done | rfl | (simp only [List.length_drop, List.length_take]; rfl)) ?_
  with_reducible refine (laws_toBay.calls a0_0 a0_1 a0_2 t285 t286 t287 _ A3.out).mono ?_
  rintro e w13 ⟨rfl, hb⟩
  refine ⟨_, rfl, ?_⟩
  have n0_ := bB BK283 hb
  have n1_ := bB BK284 hb
  have n2_ := am (below_step (be HB) hb)
  clear BK283
  clear BK284
  clear HB
  have BK283 := n0_
  have BK284 := n1_
  have HB := n2_
  clear n0_ n1_ n2_
  (try clear hb)
  (try clear hb2)
  (try clear hk)
  (try clear hi)
  refine hK.out _ _ ⟨(blk_cell BK283.out 0).trans rfl, (blk_cell BK283.out 1).trans rfl, at_cells BK283.out, BayAt26_of BK283.out, lvv_of BK283.out, (blk_cell BK284.out 0).trans rfl, (blk_cell BK284.out 1).trans rfl, (blk_cell BK284.out 2).trans rfl, (blk_cell BK284.out 3).trans rfl, (blk_cell BK284.out 4).trans rfl, (blk_cell BK284.out 5).trans rfl⟩ (fun hHeld => ?_)
  clear hK K
  refine norm_ (a' := ?_) ?_ ?_
  rotate_left
  · show Act.put _ (some 15) _ = _
    simp only [Act.put, List.setIfInBounds_toArray, List.set_cons_zero, List.set_cons_succ, i64_w, i32_w]
    rfl
  refine one_ (i := 3) (N := some 17) #[true, true, true, true, false, false, false, false, false, false] rfl rfl (one_of HT_.out (by kernel_rfl)) (by decide) (fun K hK => ?_)
  refine goes_ Try.func29 (by kernel_rfl) rfl #[.agg #[.int .i8 a1_0, .int .i8 a1_1, .int .i8 a1_2, .int .i8 a1_3, .int .i8 a1_4, .int .i8 a1_5]] (by rfl) rfl rfl (by (try simp only [List.map_toArray, List.map_cons, List.map_nil]); first | done | rfl | (simp only [List.length_drop, List.length_take]; rfl)) ?_
  with_reducible refine (laws_toBoat.calls a1_0 a1_1 a1_2 a1_3 a1_4 a1_5 t288 t289 t290 t291 t292 t293 _ A4.out).mono ?_
  rintro e w14 ⟨rfl, hb⟩
  refine ⟨_, rfl, ?_⟩
  have n0_ := bB BK283 hb
  have n1_ := bB BK284 hb
  have n2_ := am (below_step (be HB) hb)
  clear BK283
  clear BK284
  clear HB
  have BK283 := n0_
  have BK284 := n1_
  have HB := n2_
  clear n0_ n1_ n2_
  (try clear hb)
  (try clear hb2)
  (try clear hk)
  (try clear hi)
  refine hK.out _ _ ⟨(blk_cell BK283.out 0).trans rfl, (blk_cell BK283.out 1).trans rfl, at_cells BK283.out, BayAt26_of BK283.out, lvv_of BK283.out, (blk_cell BK284.out 0).trans rfl, (blk_cell BK284.out 1).trans rfl, (blk_cell BK284.out 2).trans rfl, (blk_cell BK284.out 3).trans rfl, (blk_cell BK284.out 4).trans rfl, (blk_cell BK284.out 5).trans rfl⟩ (fun hHeld => ?_)
  clear hK K
  refine norm_ (a' := ?_) ?_ ?_
  rotate_left
  · show Act.put _ (some 17) _ = _
    simp only [Act.put, List.setIfInBounds_toArray, List.set_cons_zero, List.set_cons_succ, i64_w, i32_w]
    rfl
  refine one_ (i := 4) (N := some 18) #[true, true, true, true, true, false, false, false, false, false] rfl rfl (one_of HT_.out (by kernel_rfl)) (by decide) (fun K hK => ?_)
  refine goes_ Try.func52 (by kernel_rfl) rfl #[.agg (csBay t285 t286 t287), .agg #[.int .i8 t288, .int .i8 t289, .int .i8 t290, .int .i8 t291, .int .i8 t292, .int .i8 t293]] (by rfl) rfl rfl (by (try simp only [List.map_toArray, List.map_cons, List.map_nil]); first | done | rfl | (simp only [List.length_drop, List.length_take]; rfl)) ?_
  with_reducible refine (spec_ShoalsOf.calls k t285 t286 t287 t288 t289 t290 t291 t292 t293 t294 t297 _ A5.out).mono ?_
  rintro e w15 ⟨v295, rfl, ho0, hb⟩
  refine ⟨_, rfl, ?_⟩
  have n0_ := am (Kd.R_lower ho0 (below_size (be HB)))
  have n1_ := bB BK283 hb
  have n2_ := bB BK284 hb
  have n3_ := am (below_step (be HB) hb)
  clear BK283
  clear BK284
  clear HB
  have HO296 := n0_
  have BK283 := n1_
  have BK284 := n2_
  have HB := n3_
  clear n0_ n1_ n2_ n3_
  (try clear hb)
  (try clear hb2)
  (try clear hk)
  (try clear hi)
  (try clear ho0)
  refine hK.out _ _ ⟨(blk_cell BK283.out 0).trans rfl, (blk_cell BK283.out 1).trans rfl, at_cells BK283.out, BayAt26_of BK283.out, lvv_of BK283.out, (blk_cell BK284.out 0).trans rfl, (blk_cell BK284.out 1).trans rfl, (blk_cell BK284.out 2).trans rfl, (blk_cell BK284.out 3).trans rfl, (blk_cell BK284.out 4).trans rfl, (blk_cell BK284.out 5).trans rfl⟩ (fun hHeld => ?_)
  clear hK K
  refine norm_ (a' := ?_) ?_ ?_
  rotate_left
  · show Act.put _ (some 18) _ = _
    simp only [Act.put, List.setIfInBounds_toArray, List.set_cons_zero, List.set_cons_succ, i64_w, i32_w]
    rfl
  refine pure_ (i := 5) (N := some 13) (v := ?_) (a' := ?_) #[true, true, true, true, true, true, false, false, false, false] rfl rfl (any_of HT_.out (by kernel_rfl)) (fun _ _ _ h => h) (Or.inl ⟨by rfl, ?_⟩) ?_ ?_
  rotate_left
  · intro w'
    go_simp
    with_reducible rfl
  rotate_left
  · simp only [Act.put, List.setIfInBounds_toArray, List.set_cons_zero, List.set_cons_succ, i64_w, i32_w]
    rfl
  refine pure_ (i := 6) (N := some 19) (v := ?_) (a' := ?_) #[true, true, true, true, true, true, true, false, false, false] rfl rfl (any_of HT_.out (by kernel_rfl)) (fun _ _ _ h => h) (Or.inl ⟨by rfl, ?_⟩) ?_ ?_
  rotate_left
  · intro w'
    go_simp
    with_reducible rfl
  rotate_left
  · simp only [Act.put, List.setIfInBounds_toArray, List.set_cons_zero, List.set_cons_succ, i64_w, i32_w]
    rfl
  refine pure_ (i := 7) (N := some 20) (v := ?_) (a' := ?_) #[true, true, true, true, true, true, true, true, false, false] rfl rfl (any_of HT_.out (by kernel_rfl)) (fun _ _ _ h => h) (Or.inl ⟨by rfl, ?_⟩) ?_ ?_
  rotate_left
  · intro w'
    go_simp
    with_reducible rfl
  rotate_left
  · simp only [Act.put, List.setIfInBounds_toArray, List.set_cons_zero, List.set_cons_succ, i64_w, i32_w]
    rfl
  refine pure_ (i := 8) (N := some 5) (v := ?_) (a' := ?_) #[true, true, true, true, true, true, true, true, true, false] rfl rfl (any_of HT_.out (by kernel_rfl)) (fun _ _ _ h => h) (Or.inl ⟨by rfl, ?_⟩) ?_ ?_
  rotate_left
  · intro w'
    go_simp
    with_reducible rfl
  rotate_left
  · simp only [Act.put, List.setIfInBounds_toArray, List.set_cons_zero, List.set_cons_succ, i64_w, i32_w]
    rfl
  refine pure_ (i := 9) (N := some 6) (v := ?_) (a' := ?_) #[true, true, true, true, true, true, true, true, true, true] rfl rfl (any_of HT_.out (by kernel_rfl)) (fun _ _ _ h => h) (Or.inl ⟨by rfl, ?_⟩) ?_ ?_
  rotate_left
  · intro w'
    go_simp
    with_reducible rfl
  rotate_left
  · simp only [Act.put, List.setIfInBounds_toArray, List.set_cons_zero, List.set_cons_succ, i64_w, i32_w]
    rfl
  refine done_ (done_of HT_.out (by kernel_rfl)) ?_
  try go_wp2
  have n0_ := am (Kd.R_drew HO296.out)
  have n1_ := am (blk_drew BK283.out)
  have n2_ := am (blk_drew BK284.out)
  have n3_ := am (below_drew1 HB.out)
  clear HO296
  clear BK283
  clear BK284
  clear HB
  have HO296 := n0_
  have BK283 := n1_
  have BK284 := n2_
  have HB := n3_
  clear n0_ n1_ n2_ n3_
  refine start_ (n := 10) (S := fun w' => w'.cell? ⟨gb283, 0, none⟩ = some (.int .i8 a0_0) ∧ w'.cell? ⟨gb283, 1, none⟩ = some (.int .i8 a0_1) ∧ atCells w' gb283 a0_2 ∧ BayAt26 w' gb283 ∧ lvv w' gb283 = .agg (csBay a0_0 a0_1 a0_2) ∧ w'.cell? ⟨gb284, 0, none⟩ = some (.int .i8 a1_0) ∧ w'.cell? ⟨gb284, 1, none⟩ = some (.int .i8 a1_1) ∧ w'.cell? ⟨gb284, 2, none⟩ = some (.int .i8 a1_2) ∧ w'.cell? ⟨gb284, 3, none⟩ = some (.int .i8 a1_3) ∧ w'.cell? ⟨gb284, 4, none⟩ = some (.int .i8 a1_4) ∧ w'.cell? ⟨gb284, 5, none⟩ = some (.int .i8 a1_5)) (ds := []) #[false, false, false, false, false, false, false, false, false, false] (by kernel_rfl) rfl rfl ⟨(blk_cell BK283.out 0).trans rfl, (blk_cell BK283.out 1).trans rfl, at_cells BK283.out, BayAt26_of BK283.out, lvv_of BK283.out, (blk_cell BK284.out 0).trans rfl, (blk_cell BK284.out 1).trans rfl, (blk_cell BK284.out 2).trans rfl, (blk_cell BK284.out 3).trans rfl, (blk_cell BK284.out 4).trans rfl, (blk_cell BK284.out 5).trans rfl⟩ (fun hHeld => ?_); refine with_tabW laws_FnExactShoalsOf.tab2 laws_FnExactShoalsOf.bits2 (fun HT_ HW_ => ?_)
  generalize w15.drew = w16 at HO296 BK283 BK284 HB hHeld ⊢
  refine take_ (i := 0) (N := some 22) (v := ?_) (a' := ?_) #[true, false, false, false, false, false, false, false, false, false] rfl rfl (take_ofW HT_.out HW_.out (by kernel_rfl)) (fun _ _ _ h => h) (Or.inl ⟨by rfl, ?_⟩) hHeld ?_ ?_
  rotate_left
  · rintro w' ⟨s0, s1, s2, s3, s4, s5, s6, s7, s8, s9, s10⟩
    go_simp
    with_reducible rfl
  rotate_left
  · simp only [Act.put, List.setIfInBounds_toArray, List.set_cons_zero, List.set_cons_succ, i64_w, i32_w]
    rfl
  refine take_ (i := 2) (N := some 24) (v := ?_) (a' := ?_) #[true, false, true, false, false, false, false, false, false, false] rfl rfl (take_ofW HT_.out HW_.out (by kernel_rfl)) (fun _ _ _ h => h) (Or.inl ⟨by rfl, ?_⟩) hHeld ?_ ?_
  rotate_left
  · rintro w' ⟨s0, s1, s2, s3, s4, s5, s6, s7, s8, s9, s10⟩
    go_simp
    with_reducible rfl
  rotate_left
  · simp only [Act.put, List.setIfInBounds_toArray, List.set_cons_zero, List.set_cons_succ, i64_w, i32_w]
    rfl
  refine one_ (i := 1) (N := some 23) #[true, true, true, false, false, false, false, false, false, false] rfl rfl (one_of HT_.out (by kernel_rfl)) (by decide) (fun K hK => ?_)
  refine goes_ Try.func26 (by kernel_rfl) rfl #[.agg (csBay a0_0 a0_1 a0_2)] (by rfl) rfl rfl (by (try simp only [List.map_toArray, List.map_cons, List.map_nil]); first | done | rfl | (simp only [List.length_drop, List.length_take]; rfl)) ?_
  with_reducible refine (laws_toBay.calls a0_0 a0_1 a0_2 t298 t299 t300 _ A6.out).mono ?_
  rintro e w17 ⟨rfl, hb⟩
  refine ⟨_, rfl, ?_⟩
  have n0_ := am (Kd.R_below (kr HO296) hb)
  have n1_ := bB BK283 hb
  have n2_ := bB BK284 hb
  have n3_ := am (below_step (be HB) hb)
  clear HO296
  clear BK283
  clear BK284
  clear HB
  have HO296 := n0_
  have BK283 := n1_
  have BK284 := n2_
  have HB := n3_
  clear n0_ n1_ n2_ n3_
  (try clear hb)
  (try clear hb2)
  (try clear hk)
  (try clear hi)
  refine hK.out _ _ ⟨(blk_cell BK283.out 0).trans rfl, (blk_cell BK283.out 1).trans rfl, at_cells BK283.out, BayAt26_of BK283.out, lvv_of BK283.out, (blk_cell BK284.out 0).trans rfl, (blk_cell BK284.out 1).trans rfl, (blk_cell BK284.out 2).trans rfl, (blk_cell BK284.out 3).trans rfl, (blk_cell BK284.out 4).trans rfl, (blk_cell BK284.out 5).trans rfl⟩ (fun hHeld => ?_)
  clear hK K
  refine norm_ (a' := ?_) ?_ ?_
  rotate_left
  · show Act.put _ (some 23) _ = _
    simp only [Act.put, List.setIfInBounds_toArray, List.set_cons_zero, List.set_cons_succ, i64_w, i32_w]
    rfl
  refine one_ (i := 3) (N := some 25) #[true, true, true, true, false, false, false, false, false, false] rfl rfl (one_of HT_.out (by kernel_rfl)) (by decide) (fun K hK => ?_)
  refine goes_ Try.func29 (by kernel_rfl) rfl #[.agg #[.int .i8 a1_0, .int .i8 a1_1, .int .i8 a1_2, .int .i8 a1_3, .int .i8 a1_4, .int .i8 a1_5]] (by rfl) rfl rfl (by (try simp only [List.map_toArray, List.map_cons, List.map_nil]); first | done | rfl | (simp only [List.length_drop, List.length_take]; rfl)) ?_
  with_reducible refine (laws_toBoat.calls a1_0 a1_1 a1_2 a1_3 a1_4 a1_5 t301 t302 t303 t304 t305 t306 _ A7.out).mono ?_
  rintro e w18 ⟨rfl, hb⟩
  refine ⟨_, rfl, ?_⟩
  have n0_ := am (Kd.R_below (kr HO296) hb)
  have n1_ := bB BK283 hb
  have n2_ := bB BK284 hb
  have n3_ := am (below_step (be HB) hb)
  clear HO296
  clear BK283
  clear BK284
  clear HB
  have HO296 := n0_
  have BK283 := n1_
  have BK284 := n2_
  have HB := n3_
  clear n0_ n1_ n2_ n3_
  (try clear hb)
  (try clear hb2)
  (try clear hk)
  (try clear hi)
  refine hK.out _ _ ⟨(blk_cell BK283.out 0).trans rfl, (blk_cell BK283.out 1).trans rfl, at_cells BK283.out, BayAt26_of BK283.out, lvv_of BK283.out, (blk_cell BK284.out 0).trans rfl, (blk_cell BK284.out 1).trans rfl, (blk_cell BK284.out 2).trans rfl, (blk_cell BK284.out 3).trans rfl, (blk_cell BK284.out 4).trans rfl, (blk_cell BK284.out 5).trans rfl⟩ (fun hHeld => ?_)
  clear hK K
  refine norm_ (a' := ?_) ?_ ?_
  rotate_left
  · show Act.put _ (some 25) _ = _
    simp only [Act.put, List.setIfInBounds_toArray, List.set_cons_zero, List.set_cons_succ, i64_w, i32_w]
    rfl
  refine one_ (i := 4) (N := some 26) #[true, true, true, true, true, false, false, false, false, false] rfl rfl (one_of HT_.out (by kernel_rfl)) (by decide) (fun K hK => ?_)
  refine goes_ Try.func53 (by kernel_rfl) rfl #[.agg (csBay t298 t299 t300), .agg #[.int .i8 t301, .int .i8 t302, .int .i8 t303, .int .i8 t304, .int .i8 t305, .int .i8 t306]] (by rfl) rfl rfl (by (try simp only [List.map_toArray, List.map_cons, List.map_nil]); first | done | rfl | (simp only [List.length_drop, List.length_take]; rfl)) ?_
  with_reducible refine (impl_ShoalsOf.calls k t298 t299 t300 t301 t302 t303 t304 t305 t306 t307 t310 _ A8.out).mono ?_
  rintro e w19 ⟨v308, rfl, ho0, hb⟩
  refine ⟨_, rfl, ?_⟩
  have n0_ := am (Kd.R_elder' (kr HO296) (Kd.R_base ho0) hb)
  have n1_ := am (Kd.R_lower (Kd.R_new' ho0 (Kd.R_lt (kr HO296))) (below_size (be HB)))
  have n2_ := bB BK283 hb
  have n3_ := bB BK284 hb
  have n4_ := am (below_step (be HB) hb)
  clear HO296
  clear BK283
  clear BK284
  clear HB
  have HO296 := n0_
  have HO309 := n1_
  have BK283 := n2_
  have BK284 := n3_
  have HB := n4_
  clear n0_ n1_ n2_ n3_ n4_
  (try clear hb)
  (try clear hb2)
  (try clear hk)
  (try clear hi)
  (try clear ho0)
  refine hK.out _ _ ⟨(blk_cell BK283.out 0).trans rfl, (blk_cell BK283.out 1).trans rfl, at_cells BK283.out, BayAt26_of BK283.out, lvv_of BK283.out, (blk_cell BK284.out 0).trans rfl, (blk_cell BK284.out 1).trans rfl, (blk_cell BK284.out 2).trans rfl, (blk_cell BK284.out 3).trans rfl, (blk_cell BK284.out 4).trans rfl, (blk_cell BK284.out 5).trans rfl⟩ (fun hHeld => ?_)
  clear hK K
  refine norm_ (a' := ?_) ?_ ?_
  rotate_left
  · show Act.put _ (some 26) _ = _
    simp only [Act.put, List.setIfInBounds_toArray, List.set_cons_zero, List.set_cons_succ, i64_w, i32_w]
    rfl
  refine pure_ (i := 5) (N := some 21) (v := ?_) (a' := ?_) #[true, true, true, true, true, true, false, false, false, false] rfl rfl (any_of HT_.out (by kernel_rfl)) (fun _ _ _ h => h) (Or.inl ⟨by rfl, ?_⟩) ?_ ?_
  rotate_left
  · intro w'
    go_simp
    with_reducible rfl
  rotate_left
  · simp only [Act.put, List.setIfInBounds_toArray, List.set_cons_zero, List.set_cons_succ, i64_w, i32_w]
    rfl
  refine pure_ (i := 6) (N := some 27) (v := ?_) (a' := ?_) #[true, true, true, true, true, true, true, false, false, false] rfl rfl (any_of HT_.out (by kernel_rfl)) (fun _ _ _ h => h) (Or.inl ⟨by rfl, ?_⟩) ?_ ?_
  rotate_left
  · intro w'
    go_simp
    with_reducible rfl
  rotate_left
  · simp only [Act.put, List.setIfInBounds_toArray, List.set_cons_zero, List.set_cons_succ, i64_w, i32_w]
    rfl
  refine pure_ (i := 7) (N := some 28) (v := ?_) (a' := ?_) #[true, true, true, true, true, true, true, true, false, false] rfl rfl (any_of HT_.out (by kernel_rfl)) (fun _ _ _ h => h) (Or.inl ⟨by rfl, ?_⟩) ?_ ?_
  rotate_left
  · intro w'
    go_simp
    with_reducible rfl
  rotate_left
  · simp only [Act.put, List.setIfInBounds_toArray, List.set_cons_zero, List.set_cons_succ, i64_w, i32_w]
    rfl
  refine pure_ (i := 8) (N := some 7) (v := ?_) (a' := ?_) #[true, true, true, true, true, true, true, true, true, false] rfl rfl (any_of HT_.out (by kernel_rfl)) (fun _ _ _ h => h) (Or.inl ⟨by rfl, ?_⟩) ?_ ?_
  rotate_left
  · intro w'
    go_simp
    with_reducible rfl
  rotate_left
  · simp only [Act.put, List.setIfInBounds_toArray, List.set_cons_zero, List.set_cons_succ, i64_w, i32_w]
    rfl
  refine pure_ (i := 9) (N := some 8) (v := ?_) (a' := ?_) #[true, true, true, true, true, true, true, true, true, true] rfl rfl (any_of HT_.out (by kernel_rfl)) (fun _ _ _ h => h) (Or.inl ⟨by rfl, ?_⟩) ?_ ?_
  rotate_left
  · intro w'
    go_simp
    with_reducible rfl
  rotate_left
  · simp only [Act.put, List.setIfInBounds_toArray, List.set_cons_zero, List.set_cons_succ, i64_w, i32_w]
    rfl
  refine done_ (done_of HT_.out (by kernel_rfl)) ?_
  go_upto_region 3 with (fail)
  go_cut [37] (fun v37 wc => ∃ (kq : Nat) (x37_8 : Bool), v37 = .bool x37_8 ∧ Aside0 (laws_FnExactShoalsOf.j0 kq t294 t297 t307 x37_8 a0_0 a0_1 a0_2 a1_0 a1_1 a1_2 a1_3 a1_4 a1_5 = some r) ∧ Aside0 (kq ≤ k) ∧ Aside0 (Kd.R k36 36 wc w.heap.size (fun k_ => some k_ ≠ (v308 : Value).ownBlock) v295 t294) ∧ Aside0 (Kd.R k36 36 wc w.heap.size (fun k_ => some k_ ≠ (v295 : Value).ownBlock) v308 t307) ∧ Aside0 (wc.heap[gb283]? = some (.cells (csBay a0_0 a0_1 a0_2) 26 (0, 0))) ∧ Aside0 (wc.heap[gb284]? = some (.cells #[.int .i8 a1_0, .int .i8 a1_1, .int .i8 a1_2, .int .i8 a1_3, .int .i8 a1_4, .int .i8 a1_5] 34 (0, 0))) ∧ Aside0 (Below w.heap.size w wc))
  case first =>
    have H := HC9.out
    clear HC9
    replace H := Option.bind_eq_some_iff.mp H
    obtain ⟨t311, A200, H⟩ := H
    try dsimp only at H
    have A20 := am A200
    clear A200
    by_cases c21 : t311 = true
    · subst c21
      rw [if_pos rfl] at H
      have H' := am H
      clear H
      obtain ⟨Ao22, co22, eo22⟩ := Kd.R_slice HO309.out
      subst eo22
      obtain ⟨Ao23, co23, eo23⟩ := Kd.R_slice HO296.out
      subst eo23
      go_wp2_with (first | ((with_reducible refine gate_callee (f := 49) rfl ?_); refine gL (some 31) Try.func49 #[.slice Ao22 t307.length co22, .slice Ao23 t294.length co23] ?_; (with_reducible refine (laws_eqPlaceS.calls k _ _ t307 _ _ t294 true _ ?side1 ?side2 ?side3 ?side4 A20.out).mono ?_); (case side1 => repeat (first | exact (Kd.R_reads' HO309.out).2.2 | (with_reducible refine Kd.C_alloc ?_ _) | (with_reducible refine Kd.C_drewN ?_ _) | (with_reducible refine Kd.C_drew ?_))); (case side2 => exact (Kd.R_reads' HO309.out).2.1); (case side3 => repeat (first | exact (Kd.R_reads' HO296.out).2.2 | (with_reducible refine Kd.C_alloc ?_ _) | (with_reducible refine Kd.C_drewN ?_ _) | (with_reducible refine Kd.C_drew ?_))); (case side4 => exact (Kd.R_reads' HO296.out).2.1); rintro e w24 ⟨rfl, hb⟩; refine ⟨_, rfl, ?_⟩; replace HO296 := am (Kd.R_below (kr HO296) hb); replace HO309 := am (Kd.R_below (kr HO309) hb); replace BK283 := bB BK283 hb; replace BK284 := bB BK284 hb; replace HB := am (below_step (be HB) hb); (try clear hb); (try clear hb2); (try clear hk); (try clear hi)))
      go_meet
      case rel => exact ⟨_, ((t310 != t297)), vv, H', ⟨by first | omega | exact Nat.le_refl _⟩, ⟨by (with_reducible repeat (first | apply Kd.R_alloc | apply Kd.R_drewN | apply Kd.R_drew)); exact Kd.R_mono HO296.out (fun _ hk => hk.2)⟩, ⟨by (with_reducible repeat (first | apply Kd.R_alloc | apply Kd.R_drewN | apply Kd.R_drew)); exact Kd.R_mono HO309.out (fun _ hk => hk.2)⟩, ⟨kb BK283⟩, ⟨kb BK284⟩, ⟨be HB⟩⟩
    · replace c21 := Bool.eq_false_iff.mpr c21
      subst c21
      have H1 : (laws_FnExactShoalsOf.j0 k t294 t297 t307 true a0_0 a0_1 a0_2 a1_0 a1_1 a1_2 a1_3 a1_4 a1_5) = some r := by rw [if_neg (show ¬ (false = true) by decide)] at H; exact H
      clear H
      have H := H1
      clear H1
      have H' := am H
      clear H
      obtain ⟨Ao25, co25, eo25⟩ := Kd.R_slice HO309.out
      subst eo25
      obtain ⟨Ao26, co26, eo26⟩ := Kd.R_slice HO296.out
      subst eo26
      go_wp2_with (first | ((with_reducible refine gate_callee (f := 49) rfl ?_); refine gL (some 31) Try.func49 #[.slice Ao25 t307.length co25, .slice Ao26 t294.length co26] ?_; (with_reducible refine (laws_eqPlaceS.calls k _ _ t307 _ _ t294 false _ ?side1 ?side2 ?side3 ?side4 A20.out).mono ?_); (case side1 => repeat (first | exact (Kd.R_reads' HO309.out).2.2 | (with_reducible refine Kd.C_alloc ?_ _) | (with_reducible refine Kd.C_drewN ?_ _) | (with_reducible refine Kd.C_drew ?_))); (case side2 => exact (Kd.R_reads' HO309.out).2.1); (case side3 => repeat (first | exact (Kd.R_reads' HO296.out).2.2 | (with_reducible refine Kd.C_alloc ?_ _) | (with_reducible refine Kd.C_drewN ?_ _) | (with_reducible refine Kd.C_drew ?_))); (case side4 => exact (Kd.R_reads' HO296.out).2.1); rintro e w27 ⟨rfl, hb⟩; refine ⟨_, rfl, ?_⟩; replace HO296 := am (Kd.R_below (kr HO296) hb); replace HO309 := am (Kd.R_below (kr HO309) hb); replace BK283 := bB BK283 hb; replace BK284 := bB BK284 hb; replace HB := am (below_step (be HB) hb); (try clear hb); (try clear hb2); (try clear hk); (try clear hi)))
      go_meet
      case rel => exact ⟨_, (true), vv, H', ⟨by first | omega | exact Nat.le_refl _⟩, ⟨by (with_reducible repeat (first | apply Kd.R_alloc | apply Kd.R_drewN | apply Kd.R_drew)); exact Kd.R_mono HO296.out (fun _ hk => hk.2)⟩, ⟨by (with_reducible repeat (first | apply Kd.R_alloc | apply Kd.R_drewN | apply Kd.R_drew)); exact Kd.R_mono HO309.out (fun _ hk => hk.2)⟩, ⟨kb BK283⟩, ⟨kb BK284⟩, ⟨be HB⟩⟩
  case rest =>
    clear HC9
    try clear c1
    try clear c2
    try clear p2
    try clear c4
    try clear c5
    try clear c12
    try clear c21
    try clear c26
    obtain ⟨kq, x37_8, rfl, HA, HJ8, HO_5, HO_7, BK283, BK284, HB⟩ := hcut
    cases kq with
    | zero => exact absurd HA.out (by simp [laws_FnExactShoalsOf.j0])
    | succ kj8 =>
      have H := HA.out
      clear HA
      simp only [laws_FnExactShoalsOf.j0] at H
      by_cases c28 : x37_8 = true
      · subst c28
        rw [if_pos rfl] at H
        obtain rfl := Option.some.inj H
        go_wp2
        go_ret
        exact ⟨by first | rfl | (simp [errW_none, errW_some] <;> rfl) | (simp [*, errW_none, errW_some] <;> rfl), be HB⟩
      · replace c28 := Bool.eq_false_iff.mpr c28
        subst c28
        have H1 : ((laws_markPlaceS.f kj8 t307 1).bind fun bt312 => ((laws_heldPlaceS.f kj8 bt312.2 1).bind fun t314 => (if t314 < 0 then (some false) else (if t314 = bt312.1 then ((laws_toBay.f a0_0 a0_1 a0_2).bind fun bt315 => ((laws_toBoat.f a1_0 a1_1 a1_2 a1_3 a1_4 a1_5).bind fun bt318 => ((impl_ShoalsOf.f kj8 bt315.1 bt315.2.1 bt315.2.2 bt318.1 bt318.2.1 bt318.2.2.1 bt318.2.2.2.1 bt318.2.2.2.2.1 bt318.2.2.2.2.2).bind fun bt324 => ((laws_eqPlaceS.f kj8 bt324.1 t294).bind fun t328 => (if t328 = true then (laws_FnExactShoalsOf.j1 kj8 bt312.2 bt312.1 (bt324.2 != t297)) else (laws_FnExactShoalsOf.j1 kj8 bt312.2 bt312.1 true)))))) else (some false))))) = some r := by rw [if_neg (show ¬ (false = true) by decide)] at H; exact H
        clear H
        have H := H1
        clear H1
        replace H := Option.bind_eq_some_iff.mp H
        obtain ⟨⟨t312, t313⟩, A290, H⟩ := H
        try dsimp only at H
        have A29 := am A290
        clear A290
        replace H := Option.bind_eq_some_iff.mp H
        obtain ⟨t314, A300, H⟩ := H
        try dsimp only at H
        have A30 := am A300
        clear A300
        by_cases c31 : t314 < 0
        · rw [if_pos c31] at H
          have c31b0 : decide (t314 < 0) = true := decide_eq_true c31
          clear c31
          obtain rfl := Option.some.inj H
          obtain ⟨Ao32, co32, eo32⟩ := Kd.R_slice HO_7.out
          subst eo32
          go_wp2_with (first | ((with_reducible refine gate_callee (f := 50) rfl ?_); refine gL (some 40) Try.func50 #[.slice Ao32 t307.length co32, .int .i64 1] ?_; (with_reducible refine (laws_markPlaceS.calls kj8 (fun k_ => some k_ = (.slice Ao32 t307.length co32 : Value).ownBlock) (.slice Ao32 t307.length co32) t307 1 t312 t313 w _ ?side1 ?side2 A29.out).mono ?_); (case side1 => exact be HB); (case side2 => exact Kd.R_tight rfl HO_7.out); rintro e w33 ⟨rfl, hy0, hb, hkp⟩; refine ⟨_, rfl, ?_⟩; replace HO_5 := am (Kd.R_mono (ok' := fun k_ => some k_ ≠ (.slice Ao32 t307.length co32 : Value).ownBlock) (Kd.R_keptB (HO_5.out) hkp (fun k_ hk_ hs_ => (hk_) hs_)) (fun k_ hk_ => hk_.1)); replace BK283 := am (blk_kept (kb BK283) hkp (fun hs_ => (fun e_ => (Kd.R_ne HO_7.out BK283.out (by decide)) e_) hs_)); replace BK284 := am (blk_kept (kb BK284) hkp (fun hs_ => (fun e_ => (Kd.R_ne HO_7.out BK284.out (by decide)) e_) hs_)); replace HO_7 := am (Kd.R_reok rfl hy0 (fun k_ e_ => HO_7.out.1 k_ e_)); replace HB := am (hb); (try clear hb); (try clear hkp); (try clear hy0)) | ((with_reducible refine gate_callee (f := 51) rfl ?_); refine goesL_ (some 43) rfl rfl Try.func51 (by kernel_rfl) rfl #[.slice Ao32 t313.length co32, .int .i64 1] rfl (by (try simp only [List.map_toArray, List.map_cons, List.map_nil]); first | done | (rw [show t313.length = t307.length from (Kd.R_reads' HO_7.out).1.symm] <;> rfl) | rfl | (simp only [List.length_drop, List.length_take]; rfl)) ?_; (with_reducible refine (laws_heldPlaceS.calls kj8 _ _ t313 1 t314 _ ?side1 ?side2 A30.out).mono ?_); (case side1 => repeat (first | exact (Kd.R_reads' HO_7.out).2.2 | (with_reducible refine Kd.C_alloc ?_ _) | (with_reducible refine Kd.C_drewN ?_ _) | (with_reducible refine Kd.C_drew ?_))); (case side2 => rw [show t313.length = t307.length from (Kd.R_reads' HO_7.out).1.symm]; exact (Kd.R_reads' HO_7.out).2.1); rintro e w' ⟨rfl, ⟨nd, rfl⟩⟩; refine ⟨_, rfl, ?_⟩))
          go_ret
          exact ⟨by first | rfl | (simp [errW_none, errW_some] <;> rfl) | (simp [*, errW_none, errW_some] <;> rfl), be HB⟩
        · rw [if_neg c31] at H
          have c31b0 : decide (t314 < 0) = false := decide_eq_false c31
          clear c31
          by_cases c34 : t314 = t312
          · rw [if_pos c34] at H
            have c34b0 : (t314 == t312) = true := beq_iff_eq.mpr c34
            have c34b1 : (t314 != t312) = false := bne_eq_false_iff_eq.mpr c34
            clear c34
            replace H := Option.bind_eq_some_iff.mp H
            obtain ⟨⟨t315, t316, t317⟩, A350, H⟩ := H
            try dsimp only at H
            have A35 := am A350
            clear A350
            replace H := Option.bind_eq_some_iff.mp H
            obtain ⟨⟨t318, t319, t320, t321, t322, t323⟩, A360, H⟩ := H
            try dsimp only at H
            have A36 := am A360
            clear A360
            replace H := Option.bind_eq_some_iff.mp H
            obtain ⟨⟨t324, t327⟩, A370, H⟩ := H
            try dsimp only at H
            have A37 := am A370
            clear A370
            have HC38 := am H
            clear H
            obtain ⟨Ao39, co39, eo39⟩ := Kd.R_slice HO_7.out
            subst eo39
            try go_wp2_with (first | ((with_reducible refine gate_callee (f := 50) rfl ?_); refine gL (some 40) Try.func50 #[.slice Ao39 t307.length co39, .int .i64 1] ?_; (with_reducible refine (laws_markPlaceS.calls kj8 (fun k_ => some k_ = (.slice Ao39 t307.length co39 : Value).ownBlock) (.slice Ao39 t307.length co39) t307 1 t312 t313 w _ ?side1 ?side2 A29.out).mono ?_); (case side1 => exact be HB); (case side2 => exact Kd.R_tight rfl HO_7.out); rintro e w40 ⟨rfl, hy0, hb, hkp⟩; refine ⟨_, rfl, ?_⟩; replace HO_5 := am (Kd.R_mono (ok' := fun k_ => some k_ ≠ (.slice Ao39 t307.length co39 : Value).ownBlock) (Kd.R_keptB (HO_5.out) hkp (fun k_ hk_ hs_ => (hk_) hs_)) (fun k_ hk_ => hk_.1)); replace BK283 := am (blk_kept (kb BK283) hkp (fun hs_ => (fun e_ => (Kd.R_ne HO_7.out BK283.out (by decide)) e_) hs_)); replace BK284 := am (blk_kept (kb BK284) hkp (fun hs_ => (fun e_ => (Kd.R_ne HO_7.out BK284.out (by decide)) e_) hs_)); replace HO_7 := am (Kd.R_reok rfl hy0 (fun k_ e_ => HO_7.out.1 k_ e_)); replace HB := am (hb); (try clear hb); (try clear hkp); (try clear hy0)) | ((with_reducible refine gate_callee (f := 51) rfl ?_); refine goesL_ (some 43) rfl rfl Try.func51 (by kernel_rfl) rfl #[.slice Ao39 t313.length co39, .int .i64 1] rfl (by (try simp only [List.map_toArray, List.map_cons, List.map_nil]); first | done | (rw [show t313.length = t307.length from (Kd.R_reads' HO_7.out).1.symm] <;> rfl) | rfl | (simp only [List.length_drop, List.length_take]; rfl)) ?_; (with_reducible refine (laws_heldPlaceS.calls kj8 _ _ t313 1 t314 _ ?side1 ?side2 A30.out).mono ?_); (case side1 => repeat (first | exact (Kd.R_reads' HO_7.out).2.2 | (with_reducible refine Kd.C_alloc ?_ _) | (with_reducible refine Kd.C_drewN ?_ _) | (with_reducible refine Kd.C_drew ?_))); (case side2 => rw [show t313.length = t307.length from (Kd.R_reads' HO_7.out).1.symm]; exact (Kd.R_reads' HO_7.out).2.1); rintro e w' ⟨rfl, ⟨nd, rfl⟩⟩; refine ⟨_, rfl, ?_⟩))
            (try (rw [drewN_self w40]; generalize hq_ : World.drewN w40 _ = w40; have n0_ : Aside0 (Kd.R k36 36 w40 w.heap.size (fun k_ => some k_ ≠ (.slice Ao39 t307.length co39 : Value).ownBlock) v295 t294) := ⟨by rw [← hq_]; exact (kr HO_5)⟩; have n1_ : Aside0 (Kd.R k36 36 w40 w.heap.size (fun k_ => some k_ ≠ (v295 : Value).ownBlock) (.slice Ao39 t307.length co39) t313) := ⟨by rw [← hq_]; exact (kr HO_7)⟩; have n2_ : Aside0 (w40.heap[gb283]? = some (.cells (csBay a0_0 a0_1 a0_2) 26 (0, 0))) := ⟨by rw [← hq_]; exact (kb BK283)⟩; have n3_ : Aside0 (w40.heap[gb284]? = some (.cells #[.int .i8 a1_0, .int .i8 a1_1, .int .i8 a1_2, .int .i8 a1_3, .int .i8 a1_4, .int .i8 a1_5] 34 (0, 0))) := ⟨by rw [← hq_]; exact (kb BK284)⟩; have n4_ : Aside0 (Below w.heap.size w w40) := ⟨by rw [← hq_]; exact (be HB)⟩; clear HO_5 HO_7 BK283 BK284 HB hq_; have HO_5 := n0_; have HO_7 := n1_; have BK283 := n2_; have BK284 := n3_; have HB := n4_; clear n0_ n1_ n2_ n3_ n4_))
            have n0_ := am (Kd.R_drew HO_5.out)
            have n1_ := am (Kd.R_drew HO_7.out)
            have n2_ := am (blk_drew BK283.out)
            have n3_ := am (blk_drew BK284.out)
            have n4_ := am (below_drew1 HB.out)
            clear HO_5
            clear HO_7
            clear BK283
            clear BK284
            clear HB
            have HO_5 := n0_
            have HO_7 := n1_
            have BK283 := n2_
            have BK284 := n3_
            have HB := n4_
            clear n0_ n1_ n2_ n3_ n4_
            refine start_ (n := 10) (S := fun w' => w'.cell? ⟨gb283, 0, none⟩ = some (.int .i8 a0_0) ∧ w'.cell? ⟨gb283, 1, none⟩ = some (.int .i8 a0_1) ∧ atCells w' gb283 a0_2 ∧ BayAt26 w' gb283 ∧ lvv w' gb283 = .agg (csBay a0_0 a0_1 a0_2) ∧ w'.cell? ⟨gb284, 0, none⟩ = some (.int .i8 a1_0) ∧ w'.cell? ⟨gb284, 1, none⟩ = some (.int .i8 a1_1) ∧ w'.cell? ⟨gb284, 2, none⟩ = some (.int .i8 a1_2) ∧ w'.cell? ⟨gb284, 3, none⟩ = some (.int .i8 a1_3) ∧ w'.cell? ⟨gb284, 4, none⟩ = some (.int .i8 a1_4) ∧ w'.cell? ⟨gb284, 5, none⟩ = some (.int .i8 a1_5)) (ds := []) #[false, false, false, false, false, false, false, false, false, false] (by kernel_rfl) rfl rfl ⟨(blk_cell BK283.out 0).trans rfl, (blk_cell BK283.out 1).trans rfl, at_cells BK283.out, BayAt26_of BK283.out, lvv_of BK283.out, (blk_cell BK284.out 0).trans rfl, (blk_cell BK284.out 1).trans rfl, (blk_cell BK284.out 2).trans rfl, (blk_cell BK284.out 3).trans rfl, (blk_cell BK284.out 4).trans rfl, (blk_cell BK284.out 5).trans rfl⟩ (fun hHeld => ?_); refine with_tabW laws_FnExactShoalsOf.tab13 laws_FnExactShoalsOf.bits13 (fun HT_ HW_ => ?_)
            generalize w40.drew = w41 at HO_5 HO_7 BK283 BK284 HB hHeld ⊢
            refine take_ (i := 0) (N := some 50) (v := ?_) (a' := ?_) #[true, false, false, false, false, false, false, false, false, false] rfl rfl (take_ofW HT_.out HW_.out (by kernel_rfl)) (fun _ _ _ h => h) (Or.inl ⟨by rfl, ?_⟩) hHeld ?_ ?_
            rotate_left
            · rintro w' ⟨s0, s1, s2, s3, s4, s5, s6, s7, s8, s9, s10⟩
              go_simp
              with_reducible rfl
            rotate_left
            · simp only [Act.put, List.setIfInBounds_toArray, List.set_cons_zero, List.set_cons_succ, i64_w, i32_w]
              rfl
            refine take_ (i := 2) (N := some 52) (v := ?_) (a' := ?_) #[true, false, true, false, false, false, false, false, false, false] rfl rfl (take_ofW HT_.out HW_.out (by kernel_rfl)) (fun _ _ _ h => h) (Or.inl ⟨by rfl, ?_⟩) hHeld ?_ ?_
            rotate_left
            · rintro w' ⟨s0, s1, s2, s3, s4, s5, s6, s7, s8, s9, s10⟩
              go_simp
              with_reducible rfl
            rotate_left
            · simp only [Act.put, List.setIfInBounds_toArray, List.set_cons_zero, List.set_cons_succ, i64_w, i32_w]
              rfl
            refine one_ (i := 1) (N := some 51) #[true, true, true, false, false, false, false, false, false, false] rfl rfl (one_of HT_.out (by kernel_rfl)) (by decide) (fun K hK => ?_)
            refine goes_ Try.func26 (by kernel_rfl) rfl #[.agg (csBay a0_0 a0_1 a0_2)] (by rfl) rfl rfl (by (try simp only [List.map_toArray, List.map_cons, List.map_nil]); first | done | rfl | (simp only [List.length_drop, List.length_take]; rfl)) ?_
            with_reducible refine (laws_toBay.calls a0_0 a0_1 a0_2 t315 t316 t317 _ A35.out).mono ?_
            rintro e w42 ⟨rfl, hb⟩
            refine ⟨_, rfl, ?_⟩
            have n0_ := am (Kd.R_below (kr HO_5) hb)
            have n1_ := am (Kd.R_below (kr HO_7) hb)
            have n2_ := bB BK283 hb
            have n3_ := bB BK284 hb
            have n4_ := am (below_step (be HB) hb)
            clear HO_5
            clear HO_7
            clear BK283
            clear BK284
            clear HB
            have HO_5 := n0_
            have HO_7 := n1_
            have BK283 := n2_
            have BK284 := n3_
            have HB := n4_
            clear n0_ n1_ n2_ n3_ n4_
            (try clear hb)
            (try clear hb2)
            (try clear hk)
            (try clear hi)
            refine hK.out _ _ ⟨(blk_cell BK283.out 0).trans rfl, (blk_cell BK283.out 1).trans rfl, at_cells BK283.out, BayAt26_of BK283.out, lvv_of BK283.out, (blk_cell BK284.out 0).trans rfl, (blk_cell BK284.out 1).trans rfl, (blk_cell BK284.out 2).trans rfl, (blk_cell BK284.out 3).trans rfl, (blk_cell BK284.out 4).trans rfl, (blk_cell BK284.out 5).trans rfl⟩ (fun hHeld => ?_)
            clear hK K
            refine norm_ (a' := ?_) ?_ ?_
            rotate_left
            · show Act.put _ (some 51) _ = _
              simp only [Act.put, List.setIfInBounds_toArray, List.set_cons_zero, List.set_cons_succ, i64_w, i32_w]
              rfl
            refine one_ (i := 3) (N := some 53) #[true, true, true, true, false, false, false, false, false, false] rfl rfl (one_of HT_.out (by kernel_rfl)) (by decide) (fun K hK => ?_)
            refine goes_ Try.func29 (by kernel_rfl) rfl #[.agg #[.int .i8 a1_0, .int .i8 a1_1, .int .i8 a1_2, .int .i8 a1_3, .int .i8 a1_4, .int .i8 a1_5]] (by rfl) rfl rfl (by (try simp only [List.map_toArray, List.map_cons, List.map_nil]); first | done | rfl | (simp only [List.length_drop, List.length_take]; rfl)) ?_
            with_reducible refine (laws_toBoat.calls a1_0 a1_1 a1_2 a1_3 a1_4 a1_5 t318 t319 t320 t321 t322 t323 _ A36.out).mono ?_
            rintro e w43 ⟨rfl, hb⟩
            refine ⟨_, rfl, ?_⟩
            have n0_ := am (Kd.R_below (kr HO_5) hb)
            have n1_ := am (Kd.R_below (kr HO_7) hb)
            have n2_ := bB BK283 hb
            have n3_ := bB BK284 hb
            have n4_ := am (below_step (be HB) hb)
            clear HO_5
            clear HO_7
            clear BK283
            clear BK284
            clear HB
            have HO_5 := n0_
            have HO_7 := n1_
            have BK283 := n2_
            have BK284 := n3_
            have HB := n4_
            clear n0_ n1_ n2_ n3_ n4_
            (try clear hb)
            (try clear hb2)
            (try clear hk)
            (try clear hi)
            refine hK.out _ _ ⟨(blk_cell BK283.out 0).trans rfl, (blk_cell BK283.out 1).trans rfl, at_cells BK283.out, BayAt26_of BK283.out, lvv_of BK283.out, (blk_cell BK284.out 0).trans rfl, (blk_cell BK284.out 1).trans rfl, (blk_cell BK284.out 2).trans rfl, (blk_cell BK284.out 3).trans rfl, (blk_cell BK284.out 4).trans rfl, (blk_cell BK284.out 5).trans rfl⟩ (fun hHeld => ?_)
            clear hK K
            refine norm_ (a' := ?_) ?_ ?_
            rotate_left
            · show Act.put _ (some 53) _ = _
              simp only [Act.put, List.setIfInBounds_toArray, List.set_cons_zero, List.set_cons_succ, i64_w, i32_w]
              rfl
            refine one_ (i := 4) (N := some 54) #[true, true, true, true, true, false, false, false, false, false] rfl rfl (one_of HT_.out (by kernel_rfl)) (by decide) (fun K hK => ?_)
            refine goes_ Try.func53 (by kernel_rfl) rfl #[.agg (csBay t315 t316 t317), .agg #[.int .i8 t318, .int .i8 t319, .int .i8 t320, .int .i8 t321, .int .i8 t322, .int .i8 t323]] (by rfl) rfl rfl (by (try simp only [List.map_toArray, List.map_cons, List.map_nil]); first | done | rfl | (simp only [List.length_drop, List.length_take]; rfl)) ?_
            with_reducible refine (impl_ShoalsOf.calls kj8 t315 t316 t317 t318 t319 t320 t321 t322 t323 t324 t327 _ A37.out).mono ?_
            rintro e w44 ⟨v325, rfl, ho0, hb⟩
            refine ⟨_, rfl, ?_⟩
            have n0_ := am (Kd.R_elder' (kr HO_5) (Kd.R_base ho0) hb)
            have n1_ := am (Kd.R_elder' (kr HO_7) (Kd.R_base ho0) hb)
            have n2_ := am (Kd.R_lower (Kd.R_new' (Kd.R_new' ho0 (Kd.R_lt (kr HO_5))) (Kd.R_lt (kr HO_7))) (below_size (be HB)))
            have n3_ := bB BK283 hb
            have n4_ := bB BK284 hb
            have n5_ := am (below_step (be HB) hb)
            clear HO_5
            clear HO_7
            clear BK283
            clear BK284
            clear HB
            have HO_5 := n0_
            have HO_7 := n1_
            have HO326 := n2_
            have BK283 := n3_
            have BK284 := n4_
            have HB := n5_
            clear n0_ n1_ n2_ n3_ n4_ n5_
            (try clear hb)
            (try clear hb2)
            (try clear hk)
            (try clear hi)
            (try clear ho0)
            refine hK.out _ _ ⟨(blk_cell BK283.out 0).trans rfl, (blk_cell BK283.out 1).trans rfl, at_cells BK283.out, BayAt26_of BK283.out, lvv_of BK283.out, (blk_cell BK284.out 0).trans rfl, (blk_cell BK284.out 1).trans rfl, (blk_cell BK284.out 2).trans rfl, (blk_cell BK284.out 3).trans rfl, (blk_cell BK284.out 4).trans rfl, (blk_cell BK284.out 5).trans rfl⟩ (fun hHeld => ?_)
            clear hK K
            refine norm_ (a' := ?_) ?_ ?_
            rotate_left
            · show Act.put _ (some 54) _ = _
              simp only [Act.put, List.setIfInBounds_toArray, List.set_cons_zero, List.set_cons_succ, i64_w, i32_w]
              rfl
            refine pure_ (i := 5) (N := some 49) (v := ?_) (a' := ?_) #[true, true, true, true, true, true, false, false, false, false] rfl rfl (any_of HT_.out (by kernel_rfl)) (fun _ _ _ h => h) (Or.inl ⟨by rfl, ?_⟩) ?_ ?_
            rotate_left
            · intro w'
              go_simp
              with_reducible rfl
            rotate_left
            · simp only [Act.put, List.setIfInBounds_toArray, List.set_cons_zero, List.set_cons_succ, i64_w, i32_w]
              rfl
            refine pure_ (i := 6) (N := some 55) (v := ?_) (a' := ?_) #[true, true, true, true, true, true, true, false, false, false] rfl rfl (any_of HT_.out (by kernel_rfl)) (fun _ _ _ h => h) (Or.inl ⟨by rfl, ?_⟩) ?_ ?_
            rotate_left
            · intro w'
              go_simp
              with_reducible rfl
            rotate_left
            · simp only [Act.put, List.setIfInBounds_toArray, List.set_cons_zero, List.set_cons_succ, i64_w, i32_w]
              rfl
            refine pure_ (i := 7) (N := some 56) (v := ?_) (a' := ?_) #[true, true, true, true, true, true, true, true, false, false] rfl rfl (any_of HT_.out (by kernel_rfl)) (fun _ _ _ h => h) (Or.inl ⟨by rfl, ?_⟩) ?_ ?_
            rotate_left
            · intro w'
              go_simp
              with_reducible rfl
            rotate_left
            · simp only [Act.put, List.setIfInBounds_toArray, List.set_cons_zero, List.set_cons_succ, i64_w, i32_w]
              rfl
            refine pure_ (i := 8) (N := some 11) (v := ?_) (a' := ?_) #[true, true, true, true, true, true, true, true, true, false] rfl rfl (any_of HT_.out (by kernel_rfl)) (fun _ _ _ h => h) (Or.inl ⟨by rfl, ?_⟩) ?_ ?_
            rotate_left
            · intro w'
              go_simp
              with_reducible rfl
            rotate_left
            · simp only [Act.put, List.setIfInBounds_toArray, List.set_cons_zero, List.set_cons_succ, i64_w, i32_w]
              rfl
            refine pure_ (i := 9) (N := some 12) (v := ?_) (a' := ?_) #[true, true, true, true, true, true, true, true, true, true] rfl rfl (any_of HT_.out (by kernel_rfl)) (fun _ _ _ h => h) (Or.inl ⟨by rfl, ?_⟩) ?_ ?_
            rotate_left
            · intro w'
              go_simp
              with_reducible rfl
            rotate_left
            · simp only [Act.put, List.setIfInBounds_toArray, List.set_cons_zero, List.set_cons_succ, i64_w, i32_w]
              rfl
            refine done_ (done_of HT_.out (by kernel_rfl)) ?_
            go_upto_region 14 with (fail)
            go_cut [65] (fun v65 wc => ∃ (kq : Nat) (x65_37 : Bool), v65 = .bool x65_37 ∧ Aside0 (laws_FnExactShoalsOf.j1 kq t313 t312 x65_37 = some r) ∧ Aside0 (kq ≤ kj8) ∧ Aside0 (Kd.R k36 36 wc w.heap.size (fun _ => True) (.slice Ao39 t307.length co39) t313) ∧ Aside0 (wc.heap[gb283]? = some (.cells (csBay a0_0 a0_1 a0_2) 26 (0, 0))) ∧ Aside0 (wc.heap[gb284]? = some (.cells #[.int .i8 a1_0, .int .i8 a1_1, .int .i8 a1_2, .int .i8 a1_3, .int .i8 a1_4, .int .i8 a1_5] 34 (0, 0))) ∧ Aside0 (Below w.heap.size w wc))
            case first =>
              have H := HC38.out
              clear HC38
              replace H := Option.bind_eq_some_iff.mp H
              obtain ⟨t328, A450, H⟩ := H
              try dsimp only at H
              have A45 := am A450
              clear A450
              by_cases c46 : t328 = true
              · subst c46
                rw [if_pos rfl] at H
                have H' := am H
                clear H
                obtain ⟨Ao47, co47, eo47⟩ := Kd.R_slice HO326.out
                subst eo47
                obtain ⟨Ao48, co48, eo48⟩ := Kd.R_slice HO_5.out
                subst eo48
                go_wp2_with (first | ((with_reducible refine gate_callee (f := 49) rfl ?_); refine gL (some 59) Try.func49 #[.slice Ao47 t324.length co47, .slice Ao48 t294.length co48] ?_; (with_reducible refine (laws_eqPlaceS.calls kj8 _ _ t324 _ _ t294 true _ ?side1 ?side2 ?side3 ?side4 A45.out).mono ?_); (case side1 => repeat (first | exact (Kd.R_reads' HO326.out).2.2 | (with_reducible refine Kd.C_alloc ?_ _) | (with_reducible refine Kd.C_drewN ?_ _) | (with_reducible refine Kd.C_drew ?_))); (case side2 => exact (Kd.R_reads' HO326.out).2.1); (case side3 => repeat (first | exact (Kd.R_reads' HO_5.out).2.2 | (with_reducible refine Kd.C_alloc ?_ _) | (with_reducible refine Kd.C_drewN ?_ _) | (with_reducible refine Kd.C_drew ?_))); (case side4 => exact (Kd.R_reads' HO_5.out).2.1); rintro e w49 ⟨rfl, hb⟩; refine ⟨_, rfl, ?_⟩; replace HO_5 := am (Kd.R_below (kr HO_5) hb); replace HO_7 := am (Kd.R_below (kr HO_7) hb); replace HO326 := am (Kd.R_below (kr HO326) hb); replace BK283 := bB BK283 hb; replace BK284 := bB BK284 hb; replace HB := am (below_step (be HB) hb); (try clear hb); (try clear hb2); (try clear hk); (try clear hi)))
                go_meet
                case rel => exact ⟨_, ((t327 != t297)), vv, H', ⟨by have := HJ8.out; first | omega | exact Nat.le_refl _⟩, ⟨by (with_reducible repeat (first | apply Kd.R_alloc | apply Kd.R_drewN | apply Kd.R_drew)); exact Kd.R_mono HO_7.out (fun _ hk => trivial)⟩, ⟨kb BK283⟩, ⟨kb BK284⟩, ⟨be HB⟩⟩
              · replace c46 := Bool.eq_false_iff.mpr c46
                subst c46
                have H1 : (laws_FnExactShoalsOf.j1 kj8 t313 t312 true) = some r := by rw [if_neg (show ¬ (false = true) by decide)] at H; exact H
                clear H
                have H := H1
                clear H1
                have H' := am H
                clear H
                obtain ⟨Ao50, co50, eo50⟩ := Kd.R_slice HO326.out
                subst eo50
                obtain ⟨Ao51, co51, eo51⟩ := Kd.R_slice HO_5.out
                subst eo51
                go_wp2_with (first | ((with_reducible refine gate_callee (f := 49) rfl ?_); refine gL (some 59) Try.func49 #[.slice Ao50 t324.length co50, .slice Ao51 t294.length co51] ?_; (with_reducible refine (laws_eqPlaceS.calls kj8 _ _ t324 _ _ t294 false _ ?side1 ?side2 ?side3 ?side4 A45.out).mono ?_); (case side1 => repeat (first | exact (Kd.R_reads' HO326.out).2.2 | (with_reducible refine Kd.C_alloc ?_ _) | (with_reducible refine Kd.C_drewN ?_ _) | (with_reducible refine Kd.C_drew ?_))); (case side2 => exact (Kd.R_reads' HO326.out).2.1); (case side3 => repeat (first | exact (Kd.R_reads' HO_5.out).2.2 | (with_reducible refine Kd.C_alloc ?_ _) | (with_reducible refine Kd.C_drewN ?_ _) | (with_reducible refine Kd.C_drew ?_))); (case side4 => exact (Kd.R_reads' HO_5.out).2.1); rintro e w52 ⟨rfl, hb⟩; refine ⟨_, rfl, ?_⟩; replace HO_5 := am (Kd.R_below (kr HO_5) hb); replace HO_7 := am (Kd.R_below (kr HO_7) hb); replace HO326 := am (Kd.R_below (kr HO326) hb); replace BK283 := bB BK283 hb; replace BK284 := bB BK284 hb; replace HB := am (below_step (be HB) hb); (try clear hb); (try clear hb2); (try clear hk); (try clear hi)))
                go_meet
                case rel => exact ⟨_, (true), vv, H', ⟨by have := HJ8.out; first | omega | exact Nat.le_refl _⟩, ⟨by (with_reducible repeat (first | apply Kd.R_alloc | apply Kd.R_drewN | apply Kd.R_drew)); exact Kd.R_mono HO_7.out (fun _ hk => trivial)⟩, ⟨kb BK283⟩, ⟨kb BK284⟩, ⟨be HB⟩⟩
            case rest =>
              clear HC38
              try clear c1
              try clear c2
              try clear p2
              try clear c3
              try clear c4
              try clear c5
              try clear c12
              try clear c21
              try clear c26
              try clear c28
              try clear c29
              try clear c31
              try clear c31b0
              try clear c34
              try clear c34b0
              try clear c34b1
              try clear c46
              try clear c49
              try clear c50
              try clear c51
              try clear c52
              try clear p2
              obtain ⟨kq, x65_37, rfl, HA, HJ37, HO_7, BK283, BK284, HB⟩ := hcut
              have hl7_37 := (Kd.R_reads' HO_7.out).1
              rw [hl7_37] at HO_7
              (try simp only [hl7_37])
              (try simp only [hl7_37] at BK283)
              (try simp only [hl7_37] at BK284)
              cases kq with
              | zero => exact absurd HA.out (by simp [laws_FnExactShoalsOf.j1])
              | succ kj37 =>
                have H := HA.out
                clear HA
                simp only [laws_FnExactShoalsOf.j1] at H
                by_cases c53 : x65_37 = true
                · subst c53
                  rw [if_pos rfl] at H
                  obtain rfl := Option.some.inj H
                  go_wp2
                  go_ret
                  exact ⟨by first | rfl | (simp [errW_none, errW_some] <;> rfl) | (simp [*, errW_none, errW_some] <;> rfl), be HB⟩
                · replace c53 := Bool.eq_false_iff.mpr c53
                  subst c53
                  have H1 : ((laws_heldPlaceS.f kj37 t313 1).bind fun t329 => (if t329 < 0 then (some false) else (if t329 = t312 then (some true) else (some false)))) = some r := by rw [if_neg (show ¬ (false = true) by decide)] at H; exact H
                  clear H
                  have H := H1
                  clear H1
                  replace H := Option.bind_eq_some_iff.mp H
                  obtain ⟨t329, A540, H⟩ := H
                  try dsimp only at H
                  have A54 := am A540
                  clear A540
                  by_cases c55 : t329 < 0
                  · rw [if_pos c55] at H
                    have c55b0 : decide (t329 < 0) = true := decide_eq_true c55
                    clear c55
                    obtain rfl := Option.some.inj H
                    go_wp2_with (first | ((with_reducible refine gate_callee (f := 51) rfl ?_); refine gL (some 68) Try.func51 #[.slice Ao39 t313.length co39, .int .i64 1] ?_; (with_reducible refine (laws_heldPlaceS.calls kj37 _ _ t313 1 t329 _ ?side1 ?side2 A54.out).mono ?_); (case side1 => repeat (first | exact (Kd.R_reads' HO_7.out).2.2 | (with_reducible refine Kd.C_alloc ?_ _) | (with_reducible refine Kd.C_drewN ?_ _) | (with_reducible refine Kd.C_drew ?_))); (case side2 => exact (Kd.R_reads' HO_7.out).2.1); rintro e w' ⟨rfl, ⟨nd, rfl⟩⟩; refine ⟨_, rfl, ?_⟩))
                    go_ret
                    exact ⟨by first | rfl | (simp [errW_none, errW_some] <;> rfl) | (simp [*, errW_none, errW_some] <;> rfl), be HB⟩
                  · rw [if_neg c55] at H
                    have c55b0 : decide (t329 < 0) = false := decide_eq_false c55
                    clear c55
                    by_cases c56 : t329 = t312
                    · rw [if_pos c56] at H
                      have c56b0 : (t329 == t312) = true := beq_iff_eq.mpr c56
                      have c56b1 : (t329 != t312) = false := bne_eq_false_iff_eq.mpr c56
                      clear c56
                      obtain rfl := Option.some.inj H
                      go_wp2_with (first | ((with_reducible refine gate_callee (f := 51) rfl ?_); refine gL (some 68) Try.func51 #[.slice Ao39 t313.length co39, .int .i64 1] ?_; (with_reducible refine (laws_heldPlaceS.calls kj37 _ _ t313 1 t329 _ ?side1 ?side2 A54.out).mono ?_); (case side1 => repeat (first | exact (Kd.R_reads' HO_7.out).2.2 | (with_reducible refine Kd.C_alloc ?_ _) | (with_reducible refine Kd.C_drewN ?_ _) | (with_reducible refine Kd.C_drew ?_))); (case side2 => exact (Kd.R_reads' HO_7.out).2.1); rintro e w' ⟨rfl, ⟨nd, rfl⟩⟩; refine ⟨_, rfl, ?_⟩))
                      go_ret
                      exact ⟨by first | rfl | (simp [errW_none, errW_some] <;> rfl) | (simp [*, errW_none, errW_some] <;> rfl), be HB⟩
                    · rw [if_neg c56] at H
                      have c56b0 : (t329 == t312) = false := beq_eq_false_iff_ne.mpr c56
                      have c56b1 : (t329 != t312) = true := bne_iff_ne.mpr c56
                      obtain rfl := Option.some.inj H
                      go_wp2_with (first | ((with_reducible refine gate_callee (f := 51) rfl ?_); refine gL (some 68) Try.func51 #[.slice Ao39 t313.length co39, .int .i64 1] ?_; (with_reducible refine (laws_heldPlaceS.calls kj37 _ _ t313 1 t329 _ ?side1 ?side2 A54.out).mono ?_); (case side1 => repeat (first | exact (Kd.R_reads' HO_7.out).2.2 | (with_reducible refine Kd.C_alloc ?_ _) | (with_reducible refine Kd.C_drewN ?_ _) | (with_reducible refine Kd.C_drew ?_))); (case side2 => exact (Kd.R_reads' HO_7.out).2.1); rintro e w' ⟨rfl, ⟨nd, rfl⟩⟩; refine ⟨_, rfl, ?_⟩))
                      go_ret
                      exact ⟨by first | rfl | (simp [errW_none, errW_some] <;> rfl) | (simp [*, errW_none, errW_some] <;> rfl), be HB⟩
          · rw [if_neg c34] at H
            have c34b0 : (t314 == t312) = false := beq_eq_false_iff_ne.mpr c34
            have c34b1 : (t314 != t312) = true := bne_iff_ne.mpr c34
            obtain rfl := Option.some.inj H
            obtain ⟨Ao57, co57, eo57⟩ := Kd.R_slice HO_7.out
            subst eo57
            go_wp2_with (first | ((with_reducible refine gate_callee (f := 50) rfl ?_); refine gL (some 40) Try.func50 #[.slice Ao57 t307.length co57, .int .i64 1] ?_; (with_reducible refine (laws_markPlaceS.calls kj8 (fun k_ => some k_ = (.slice Ao57 t307.length co57 : Value).ownBlock) (.slice Ao57 t307.length co57) t307 1 t312 t313 w _ ?side1 ?side2 A29.out).mono ?_); (case side1 => exact be HB); (case side2 => exact Kd.R_tight rfl HO_7.out); rintro e w58 ⟨rfl, hy0, hb, hkp⟩; refine ⟨_, rfl, ?_⟩; replace HO_5 := am (Kd.R_mono (ok' := fun k_ => some k_ ≠ (.slice Ao57 t307.length co57 : Value).ownBlock) (Kd.R_keptB (HO_5.out) hkp (fun k_ hk_ hs_ => (hk_) hs_)) (fun k_ hk_ => hk_.1)); replace BK283 := am (blk_kept (kb BK283) hkp (fun hs_ => (fun e_ => (Kd.R_ne HO_7.out BK283.out (by decide)) e_) hs_)); replace BK284 := am (blk_kept (kb BK284) hkp (fun hs_ => (fun e_ => (Kd.R_ne HO_7.out BK284.out (by decide)) e_) hs_)); replace HO_7 := am (Kd.R_reok rfl hy0 (fun k_ e_ => HO_7.out.1 k_ e_)); replace HB := am (hb); (try clear hb); (try clear hkp); (try clear hy0)) | ((with_reducible refine gate_callee (f := 51) rfl ?_); refine goesL_ (some 43) rfl rfl Try.func51 (by kernel_rfl) rfl #[.slice Ao57 t313.length co57, .int .i64 1] rfl (by (try simp only [List.map_toArray, List.map_cons, List.map_nil]); first | done | (rw [show t313.length = t307.length from (Kd.R_reads' HO_7.out).1.symm] <;> rfl) | rfl | (simp only [List.length_drop, List.length_take]; rfl)) ?_; (with_reducible refine (laws_heldPlaceS.calls kj8 _ _ t313 1 t314 _ ?side1 ?side2 A30.out).mono ?_); (case side1 => repeat (first | exact (Kd.R_reads' HO_7.out).2.2 | (with_reducible refine Kd.C_alloc ?_ _) | (with_reducible refine Kd.C_drewN ?_ _) | (with_reducible refine Kd.C_drew ?_))); (case side2 => rw [show t313.length = t307.length from (Kd.R_reads' HO_7.out).1.symm]; exact (Kd.R_reads' HO_7.out).2.1); rintro e w' ⟨rfl, ⟨nd, rfl⟩⟩; refine ⟨_, rfl, ?_⟩))
            go_ret
            exact ⟨by first | rfl | (simp [errW_none, errW_some] <;> rfl) | (simp [*, errW_none, errW_some] <;> rfl), be HB⟩

end Go.Proofs.Ytcollbifdfhfoaa.PFnExactShoalsOf
