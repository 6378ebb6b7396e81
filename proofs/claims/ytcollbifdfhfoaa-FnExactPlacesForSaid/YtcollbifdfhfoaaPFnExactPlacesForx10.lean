-- Written by a program out of this seat's translation (functions, and that the code comes to them).
import Derived.Test.YtcollbifdfhfoaaPFnExactPlacesForx0
import Derived.Test.YtcollbifdfhfoaaPFnExactPlacesForx9
namespace Go.Proofs.Ytcollbifdfhfoaa.PFnExactPlacesFor
open Go.RowKit Go.Proofs.YtcollbifdfhfoaaW.PrintWords Go.Proofs.YtcollbifdfhfoaaW.PrintLast Go.Proofs.YtcollbifdfhfoaaW.PrintMore
attribute [local go_sem] max2_int min2_int max_two min_two max_three min_three max_four min_four   -- for this text's walks alone
open Go.Proofs.Ytcollbifdfhfoaa.Bay Go.Proofs.Ytcollbifdfhfoaa.Short
attribute [local go_sem ↓] lv26_eq lv28_eq
attribute [local go_sem] lvv_set lvv_drewN lvv_drew lv26_run BayAt26_set BayAt26_drewN BayAt26_drew lv28_run BayAt28_set BayAt28_drewN BayAt28_drew
set_option linter.unusedVariables false
set_option linter.unusedSimpArgs false

/-! ### impl_swingOf: function 115 -/
def impl_swingOf.f (k : Nat) (a0_0 : Int) (a0_1 : Int) (a0_2 : (Nat → Int)) (a1_0 : Int) (a1_1 : Int) (a1_2 : Int) (a1_3 : Int) (a1_4 : Int) (a1_5 : Int) : Option (Int) := (impl_reachOf.f k a0_0 a0_1 a0_2 a1_0 a1_1 a1_2 a1_3 a1_4 a1_5).bind fun t334 => (some (wrap64 (t334 + (wrap64 (a1_3)))))
def impl_swingOf.T1 : Bool × List (List Nat × List Nat) := (true, [([], []), ([], []), ([0, 1], [0, 1]), ([], []), ([3], [3]), ([4], [4]), ([2, 5], [2, 5]), ([6, 2, 0, 1, 2, 3, 4, 5, 6], [6])])
def impl_swingOf.B1 : List Nat := [0, 0, 3, 0, 8, 24, 63, 127]
theorem impl_swingOf.tab1 : rtab .any (opsOf Try.f115 1) = impl_swingOf.T1 := by kernel_rfl
theorem impl_swingOf.bits1 : waitsOk impl_swingOf.T1.2 impl_swingOf.B1 = true := by kernel_rfl
set_option maxHeartbeats 8000000 in
set_option maxRecDepth 100000 in
theorem impl_swingOf.calls (k : Nat) (a0_0 : Int) (a0_1 : Int) (a0_2 : (Nat → Int)) (a1_0 : Int) (a1_1 : Int) (a1_2 : Int) (a1_3 : Int) (a1_4 : Int) (a1_5 : Int) (r : Int) (w : World) (h : impl_swingOf.f k a0_0 a0_1 a0_2 a1_0 a1_1 a1_2 a1_3 a1_4 a1_5 = some r) :
  Calls Try.prog 115 #[.agg (csBay a0_0 a0_1 a0_2), .agg #[.int .i8 a1_0, .int .i8 a1_1, .int .i8 a1_2, .int .i8 a1_3, .int .i8 a1_4, .int .i8 a1_5]] w fun e w' => e = .returned (.int .i64 r) ∧ Below w.heap.size w w' := by
 have hu28 := Try.underlying28
 have hu38 := Try.underlying38
 have HB := am (Below.refl w.heap.size w)
 have H : ((impl_reachOf.f k a0_0 a0_1 a0_2 a1_0 a1_1 a1_2 a1_3 a1_4 a1_5).bind fun t334 => (some (wrap64 (t334 + (wrap64 (a1_3)))))) = some r := h
 clear h
 replace H := Option.bind_eq_some_iff.mp H
 obtain ⟨t334, A30, H⟩ := H
 try dsimp only at H
 have A3 := am A30
 clear A30
 obtain rfl := Option.some.inj H
 go_enter Try.func115, Try.ntmps115
 try go_wp2_with (first | ((with_reducible refine gate_dst (N := 2) rfl ?_); refine bxe (N := 2) (cs := (csBay a0_0 a0_1 a0_2)) (t := 28) ?_; intro gb332 hg w4 hbox hb; have BK332 := am (hbox); have GW332 := am (gN hg (below_size (be HB))); have GE332 := am (gN hg (below_size (be HB))); replace HB := am (below_step (be HB) hb); clear hb hbox hg) | ((with_reducible refine gate_dst (N := 3) rfl ?_); refine bxe (N := 3) (cs := #[.int .i8 a1_0, .int .i8 a1_1, .int .i8 a1_2, .int .i8 a1_3, .int .i8 a1_4, .int .i8 a1_5]) (t := 38) ?_; intro gb333 hg w5 hbox hb; have BK333 := am (hbox); have GW333 := am (gN hg (below_size (be HB))); have GE333 := am (gN hg (below_size (be HB))); have NB332_333 := nL BK332 hg; have NB333_332 := nR BK332 hg; replace BK332 := bB BK332 hb; replace HB := am (below_step (be HB) hb); clear hb hbox hg))
 have n0_ := am (blk_drew BK332.out)
 have n1_ := am (blk_drew BK333.out)
 have n2_ := am (below_drew1 HB.out)
 clear BK332
 clear BK333
 clear HB
 have BK332 := n0_
 have BK333 := n1_
 have HB := n2_
 clear n0_ n1_ n2_
 refine start_ (n := 8) (S := fun w' => w'.cell? ⟨gb332, 0, none⟩ = some (.int .i8 a0_0) ∧ w'.cell? ⟨gb332, 1, none⟩ = some (.int .i8 a0_1) ∧ atCells w' gb332 a0_2 ∧ BayAt28 w' gb332 ∧ lvv w' gb332 = .agg (csBay a0_0 a0_1 a0_2) ∧ w'.cell? ⟨gb333, 0, none⟩ = some (.int .i8 a1_0) ∧ w'.cell? ⟨gb333, 1, none⟩ = some (.int .i8 a1_1) ∧ w'.cell? ⟨gb333, 2, none⟩ = some (.int .i8 a1_2) ∧ w'.cell? ⟨gb333, 3, none⟩ = some (.int .i8 a1_3) ∧ w'.cell? ⟨gb333, 4, none⟩ = some (.int .i8 a1_4) ∧ w'.cell? ⟨gb333, 5, none⟩ = some (.int .i8 a1_5)) (ds := []) #[false, false, false, false, false, false, false, false] (by kernel_rfl) rfl rfl ⟨(blk_cell BK332.out 0).trans rfl, (blk_cell BK332.out 1).trans rfl, at_cells BK332.out, BayAt28_of BK332.out, lvv_of BK332.out, (blk_cell BK333.out 0).trans rfl, (blk_cell BK333.out 1).trans rfl, (blk_cell BK333.out 2).trans rfl, (blk_cell BK333.out 3).trans rfl, (blk_cell BK333.out 4).trans rfl, (blk_cell BK333.out 5).trans rfl⟩ (fun hHeld => ?_); refine with_tabW impl_swingOf.tab1 impl_swingOf.bits1 (fun HT_ HW_ => ?_)
 generalize w5.drew = w6 at BK332 BK333 HB hHeld ⊢
 refine pS (i := 3) (some 8) #[false, false, false, true, false, false, false, false] (any_of HT_.out (by kernel_rfl)) ?_
 refine tS (i := 0) (some 5) #[true, false, false, true, false, false, false, false] (take_ofW HT_.out HW_.out (by kernel_rfl)) hHeld ?_
 refine tS (i := 1) (some 6) #[true, true, false, true, false, false, false, false] (take_ofW HT_.out HW_.out (by kernel_rfl)) hHeld ?_
 refine tS (i := 4) (some 9) #[true, true, false, true, true, false, false, false] (take_ofW HT_.out HW_.out (by kernel_rfl)) hHeld ?_
 refine pS (i := 5) (some 10) #[true, true, false, true, true, true, false, false] (any_of HT_.out (by kernel_rfl)) ?_
 refine one_ (i := 2) (N := some 7) #[true, true, true, true, true, true, false, false] rfl rfl (one_of HT_.out (by kernel_rfl)) (by decide) (fun K hK => ?_)
 refine goes_ Try.func116 (by kernel_rfl) rfl #[.agg (csBay a0_0 a0_1 a0_2), .agg #[.int .i8 a1_0, .int .i8 a1_1, .int .i8 a1_2, .int .i8 a1_3, .int .i8 a1_4, .int .i8 a1_5]] (by rfl) rfl rfl (by (try simp only [List.map_toArray, List.map_cons, List.map_nil]); first | done | rfl | (simp only [List.length_drop, List.length_take]; rfl)) ?_
 with_reducible refine (impl_reachOf.calls k a0_0 a0_1 a0_2 a1_0 a1_1 a1_2 a1_3 a1_4 a1_5 t334 _ A3.out).mono ?_
 rintro e w7 ⟨rfl, hb⟩
 refine ⟨_, rfl, ?_⟩
 have n0_ := bB BK332 hb
 have n1_ := bB BK333 hb
 have n2_ := am (below_step (be HB) hb)
 clear BK332
 clear BK333
 clear HB
 have BK332 := n0_
 have BK333 := n1_
 have HB := n2_
 clear n0_ n1_ n2_
 (try clear hb)
 (try clear hb2)
 (try clear hk)
 (try clear hi)
 refine hK.out _ _ ⟨(blk_cell BK332.out 0).trans rfl, (blk_cell BK332.out 1).trans rfl, at_cells BK332.out, BayAt28_of BK332.out, lvv_of BK332.out, (blk_cell BK333.out 0).trans rfl, (blk_cell BK333.out 1).trans rfl, (blk_cell BK333.out 2).trans rfl, (blk_cell BK333.out 3).trans rfl, (blk_cell BK333.out 4).trans rfl, (blk_cell BK333.out 5).trans rfl⟩ (fun hHeld => ?_)
 clear hK K
 refine norm_ (a' := ?_) ?_ ?_
 rotate_left
 ·show Act.put _ (some 7) _ = _
  simp only [Act.put, List.setIfInBounds_toArray, List.set_cons_zero, List.set_cons_succ, i64_w, i32_w]
  rfl
 refine pS (i := 6) (some 11) #[true, true, true, true, true, true, true, false] (any_of HT_.out (by kernel_rfl)) ?_
 refine pS (i := 7) (some 4) #[true, true, true, true, true, true, true, true] (any_of HT_.out (by kernel_rfl)) ?_
 refine done_ (done_of HT_.out (by kernel_rfl)) ?_
 try go_wp2
 go_ret
 exact ⟨by first | rfl | (simp [errW_none, errW_some] <;> rfl) | (simp [*, errW_none, errW_some] <;> rfl), be HB⟩

/-! ### impl_far: function 171 -/
def impl_far.f (a0_0 : Int) (a0_1 : Int) (a1_0 : Int) (a1_1 : Int) : Option (Int) := some (wrap64 ((wrap64 ((wrap64 ((wrap64 (a0_0)) - (wrap64 (a1_0)))) * (wrap64 ((wrap64 (a0_0)) - (wrap64 (a1_0)))))) + (wrap64 ((wrap64 ((wrap64 (a0_1)) - (wrap64 (a1_1)))) * (wrap64 ((wrap64 (a0_1)) - (wrap64 (a1_1))))))))
set_option maxHeartbeats 8000000 in
set_option maxRecDepth 100000 in
theorem impl_far.calls (a0_0 : Int) (a0_1 : Int) (a1_0 : Int) (a1_1 : Int) (r : Int) (w : World) (h : impl_far.f a0_0 a0_1 a1_0 a1_1 = some r) :
  Calls Try.prog 171 #[.agg #[.int .i8 a0_0, .int .i8 a0_1], .agg #[.int .i8 a1_0, .int .i8 a1_1]] w fun e w' => e = .returned (.int .i64 r) ∧ Below w.heap.size w w' := by
 have hu36 := Try.underlying36
 have HB := am (Below.refl w.heap.size w)
 have H : (some (wrap64 ((wrap64 ((wrap64 ((wrap64 (a0_0)) - (wrap64 (a1_0)))) * (wrap64 ((wrap64 (a0_0)) - (wrap64 (a1_0)))))) + (wrap64 ((wrap64 ((wrap64 (a0_1)) - (wrap64 (a1_1)))) * (wrap64 ((wrap64 (a0_1)) - (wrap64 (a1_1))))))))) = some r := h
 clear h
 obtain rfl := Option.some.inj H
 go_enter Try.func171, Try.ntmps171
 go_wp2_with (first | ((with_reducible refine gate_dst (N := 2) rfl ?_); refine bxe (N := 2) (cs := #[.int .i8 a0_0, .int .i8 a0_1]) (t := 36) ?_; intro gb335 hg w3 hbox hb; have BK335 := am (hbox); have GW335 := am (gN hg (below_size (be HB))); have GE335 := am (gN hg (below_size (be HB))); replace HB := am (below_step (be HB) hb); clear hb hbox hg) | ((with_reducible refine gate_dst (N := 3) rfl ?_); refine bxe (N := 3) (cs := #[.int .i8 a1_0, .int .i8 a1_1]) (t := 36) ?_; intro gb336 hg w4 hbox hb; have BK336 := am (hbox); have GW336 := am (gN hg (below_size (be HB))); have GE336 := am (gN hg (below_size (be HB))); have NB335_336 := nL BK335 hg; have NB336_335 := nR BK335 hg; replace BK335 := bB BK335 hb; replace HB := am (below_step (be HB) hb); clear hb hbox hg; have hnb5 := NB335_336.out; have hnc5 := NB336_335.out; obtain ⟨hcz6_0, hcz6_1, hfz6_0, hfz6_1⟩ := bx2 BK335; obtain ⟨hcz7_0, hcz7_1, hfz7_0, hfz7_1⟩ := bx2 BK336))
 repeat (go_quiet (first | ((with_reducible refine gate_dst (N := 2) rfl ?_); refine bxe (N := 2) (cs := #[.int .i8 a0_0, .int .i8 a0_1]) (t := 36) ?_; intro gb335 hg w3 hbox hb; have BK335 := am (hbox); have GW335 := am (gN hg (below_size (be HB))); have GE335 := am (gN hg (below_size (be HB))); replace HB := am (below_step (be HB) hb); clear hb hbox hg) | ((with_reducible refine gate_dst (N := 3) rfl ?_); refine bxe (N := 3) (cs := #[.int .i8 a1_0, .int .i8 a1_1]) (t := 36) ?_; intro gb336 hg w4 hbox hb; have BK336 := am (hbox); have GW336 := am (gN hg (below_size (be HB))); have GE336 := am (gN hg (below_size (be HB))); have NB335_336 := nL BK335 hg; have NB336_335 := nR BK335 hg; replace BK335 := bB BK335 hb; replace HB := am (below_step (be HB) hb); clear hb hbox hg; have hnb5 := NB335_336.out; have hnc5 := NB336_335.out; obtain ⟨hcz6_0, hcz6_1, hfz6_0, hfz6_1⟩ := bx2 BK335; obtain ⟨hcz7_0, hcz7_1, hfz7_0, hfz7_1⟩ := bx2 BK336)); try go_wp2_with (first | ((with_reducible refine gate_dst (N := 2) rfl ?_); refine bxe (N := 2) (cs := #[.int .i8 a0_0, .int .i8 a0_1]) (t := 36) ?_; intro gb335 hg w3 hbox hb; have BK335 := am (hbox); have GW335 := am (gN hg (below_size (be HB))); have GE335 := am (gN hg (below_size (be HB))); replace HB := am (below_step (be HB) hb); clear hb hbox hg) | ((with_reducible refine gate_dst (N := 3) rfl ?_); refine bxe (N := 3) (cs := #[.int .i8 a1_0, .int .i8 a1_1]) (t := 36) ?_; intro gb336 hg w4 hbox hb; have BK336 := am (hbox); have GW336 := am (gN hg (below_size (be HB))); have GE336 := am (gN hg (below_size (be HB))); have NB335_336 := nL BK335 hg; have NB336_335 := nR BK335 hg; replace BK335 := bB BK335 hb; replace HB := am (below_step (be HB) hb); clear hb hbox hg; have hnb5 := NB335_336.out; have hnc5 := NB336_335.out; obtain ⟨hcz6_0, hcz6_1, hfz6_0, hfz6_1⟩ := bx2 BK335; obtain ⟨hcz7_0, hcz7_1, hfz7_0, hfz7_1⟩ := bx2 BK336)))
 go_ret
 exact ⟨by first | rfl | (simp [errW_none, errW_some] <;> rfl) | (simp [*, errW_none, errW_some] <;> rfl), be HB⟩

/-! ### impl_swingPlaces: function 123 -/
def impl_swingPlaces.l0 : Nat → Int → List (S36) → List (S36) → Int → Int → Int → Int → Int → Int → Int → Int → Option ((List (S36)))
 | 0, _, _, _, _, _, _, _, _, _, _, _ => none
 | k + 1, x5, x6, x14, x15, x16, x339000, x339001, x339002, x339003, x339004, x339005 => if x16 < x15 then (if 0 ≤ x16 then (if x16 < (x14.length : Int) then ((impl_far.f ((rd_T36 x14 x16).f0) ((rd_T36 x14 x16).f1) x339000 x339001).bind fun t348 => (if t348 ≤ (wrap64 (x5 * x5)) then (if x6.length < 70368744177664 then (impl_swingPlaces.l0 k x5 (x6 ++ [(⟨(rd_T36 x14 x16).f0, (rd_T36 x14 x16).f1⟩ : S36)]) x14 x15 (wrap64 (x16 + 1)) x339000 x339001 x339002 x339003 x339004 x339005) else (none)) else (impl_swingPlaces.l0 k x5 x6 x14 x15 (wrap64 (x16 + 1)) x339000 x339001 x339002 x339003 x339004 x339005))) else (none)) else (none)) else (some x6)
def impl_swingPlaces.f (k : Nat) (a0_0 : Int) (a0_1 : Int) (a0_2 : (Nat → Int)) (a1_0 : Int) (a1_1 : Int) (a1_2 : Int) (a1_3 : Int) (a1_4 : Int) (a1_5 : Int) : Option ((List (S36))) := (impl_swingOf.f k a0_0 a0_1 a0_2 a1_0 a1_1 a1_2 a1_3 a1_4 a1_5).bind fun t339 => ((impl_allPlaces.f k a0_0 a0_1 a0_2).bind fun t343 => (impl_swingPlaces.l0 k t339 (([] : List (S36))) t343 (t343.length : Int) 0 a1_0 a1_1 a1_2 a1_3 a1_4 a1_5))
set_option maxHeartbeats 8000000 in
set_option maxRecDepth 100000 in
theorem impl_swingPlaces.calls (k : Nat) (a0_0 : Int) (a0_1 : Int) (a0_2 : (Nat → Int)) (a1_0 : Int) (a1_1 : Int) (a1_2 : Int) (a1_3 : Int) (a1_4 : Int) (a1_5 : Int) (r : List (S36)) (w : World) (h : impl_swingPlaces.f k a0_0 a0_1 a0_2 a1_0 a1_1 a1_2 a1_3 a1_4 a1_5 = some r) :
  Calls Try.prog 123 #[.agg (csBay a0_0 a0_1 a0_2), .agg #[.int .i8 a1_0, .int .i8 a1_1, .int .i8 a1_2, .int .i8 a1_3, .int .i8 a1_4, .int .i8 a1_5]] w fun e w' => ∃ v0_ : Value, e = .returned (v0_) ∧ Kd.R k36 36 w' w.heap.size (fun _ => True) v0_ r ∧ Below w.heap.size w w' := by
 have hu28 := Try.underlying28
 have hu38 := Try.underlying38
 have hu36 := Try.underlying36
 have HB := am (Below.refl w.heap.size w)
 have H : ((impl_swingOf.f k a0_0 a0_1 a0_2 a1_0 a1_1 a1_2 a1_3 a1_4 a1_5).bind fun t339 => ((impl_allPlaces.f k a0_0 a0_1 a0_2).bind fun t343 => (impl_swingPlaces.l0 k t339 (([] : List (S36))) t343 (t343.length : Int) 0 a1_0 a1_1 a1_2 a1_3 a1_4 a1_5))) = some r := h
 clear h
 replace H := Option.bind_eq_some_iff.mp H
 obtain ⟨t339, A30, H⟩ := H
 try dsimp only at H
 have A3 := am A30
 clear A30
 obtain ⟨y340, hy340⟩ : ∃ y_ : List (S36), y_ = (([] : List (S36))) := ⟨_, rfl⟩
 replace H : ((impl_allPlaces.f k a0_0 a0_1 a0_2).bind fun t343 => (impl_swingPlaces.l0 k t339 y340 t343 (t343.length : Int) 0 a1_0 a1_1 a1_2 a1_3 a1_4 a1_5)) = some r := by first | (rw [hy340]; with_reducible exact H) | (have H2_ := (Option.bind_some _ _).symm.trans H; rw [hy340]; with_reducible exact H2_) | (have H2_ := (Option.bind_some _ _).symm.trans H; with_reducible exact H2_) | with_reducible exact H | (rw [hy340]; exact H) | exact H
 have Ny340 := am hy340
 clear hy340
 replace H := Option.bind_eq_some_iff.mp H
 obtain ⟨t343, A40, H⟩ := H
 try dsimp only at H
 have A4 := am A40
 clear A40
 have H' := am H
 clear H
 go_enter Try.func123, Try.ntmps123
 go_wp2_with (first | ((with_reducible refine gate_dst (N := 2) rfl ?_); refine bxe (N := 2) (cs := (csBay a0_0 a0_1 a0_2)) (t := 28) ?_; intro gb337 hg w5 hbox hb; have BK337 := am (hbox); have GW337 := am (gN hg (below_size (be HB))); have GE337 := am (gN hg (below_size (be HB))); replace HB := am (below_step (be HB) hb); clear hb hbox hg) | ((with_reducible refine gate_dst (N := 3) rfl ?_); refine bxe (N := 3) (cs := #[.int .i8 a1_0, .int .i8 a1_1, .int .i8 a1_2, .int .i8 a1_3, .int .i8 a1_4, .int .i8 a1_5]) (t := 38) ?_; intro gb338 hg w6 hbox hb; have BK338 := am (hbox); have GW338 := am (gN hg (below_size (be HB))); have GE338 := am (gN hg (below_size (be HB))); have NB337_338 := nL BK337 hg; have NB338_337 := nR BK337 hg; replace BK337 := bB BK337 hb; replace HB := am (below_step (be HB) hb); clear hb hbox hg; have hnb7 := NB337_338.out; have hnc7 := NB338_337.out; obtain ⟨hcz8_0, hcz8_1, hwz8, haz8, hyz8, hvz8, hfz8_0, hfz8_1, hfz8_2⟩ := bb28 BK337; obtain ⟨hcz9_0, hcz9_1, hcz9_2, hcz9_3, hcz9_4, hcz9_5, hfz9_0, hfz9_1, hfz9_2, hfz9_3, hfz9_4, hfz9_5⟩ := bx6 BK338) | ((with_reducible refine gate_callee (f := 115) rfl ?_); refine gL (some 11) Try.func115 #[.agg (csBay a0_0 a0_1 a0_2), .agg #[.int .i8 a1_0, .int .i8 a1_1, .int .i8 a1_2, .int .i8 a1_3, .int .i8 a1_4, .int .i8 a1_5]] ?_; (with_reducible refine (impl_swingOf.calls k a0_0 a0_1 a0_2 a1_0 a1_1 a1_2 a1_3 a1_4 a1_5 t339 _ A3.out).mono ?_); rintro e w10 ⟨rfl, hb⟩; refine ⟨_, rfl, ?_⟩; replace BK337 := bB BK337 hb; replace BK338 := bB BK338 hb; replace HB := am (below_step (be HB) hb); (try clear hb); (try clear hb2); (try clear hk); (try clear hi)) | ((with_reducible refine gate_dst (N := 12) rfl ?_); refine Kd.R_lit k36 _ 36 ?hg (N := 12) ?hd (xs := ([] : List (S36))) (inner := []) (ok := fun _ => True) (okp := fun _ => True) ?hr ?hp (fun _ hk => hk) trivial (Below.refl _ _) (Nat.le_refl _) (by simp) ?_; (case hd => rfl); (case hg => rfl); (case hr => first | (go_simp; done) | (go_simp; rfl)); (case hp => exact (Reps.none _ _)); intro v341 w11 ho12 hb hg_ hnew_; clear hg_ hnew_; (first | rw [← Ny340.out] at ho12 | (simp only [Int.reduceToNat] at ho12; rw [← Ny340.out] at ho12)); have HO342 := am (Kd.R_lower ho12 (below_size (be HB))); replace BK337 := bB BK337 hb; replace BK338 := bB BK338 hb; replace HB := am (below_step (be HB) hb); clear hb ho12; obtain ⟨hcz13_0, hcz13_1, hwz13, haz13, hyz13, hvz13, hfz13_0, hfz13_1, hfz13_2⟩ := bb28 BK337) | ((with_reducible refine gate_callee (f := 111) rfl ?_); refine gL (some 14) Try.func111 #[.agg (csBay a0_0 a0_1 a0_2)] ?_; (with_reducible refine (impl_allPlaces.calls k a0_0 a0_1 a0_2 t343 _ A4.out).mono ?_); rintro e w14 ⟨v344, rfl, ho0, hb⟩; refine ⟨_, rfl, ?_⟩; have HO345 := am (Kd.R_lower (Kd.R_new' ho0 (Kd.R_lt (kr HO342))) (below_size (be HB))); replace HO342 := am (Kd.R_elder' (kr HO342) (Kd.R_base ho0) hb); replace BK337 := bB BK337 hb; replace BK338 := bB BK338 hb; replace HB := am (below_step (be HB) hb); (try clear hb); (try clear hb2); (try clear hk); (try clear hi); (try clear ho0); obtain ⟨Ao15, co15, eo15⟩ := Kd.R_slice HO345.out; subst eo15))
 go_loopg [6, 16] k (fun kq v6 v16 w' => ∃ (x6_1 : List (S36)) (x16_1 : Int), v16 = .int .i64 x16_1 ∧ Aside0 (impl_swingPlaces.l0 kq t339 x6_1 t343 (t343.length : Int) x16_1 a1_0 a1_1 a1_2 a1_3 a1_4 a1_5 = some r) ∧ Aside0 (kq ≤ k) ∧ Aside0 (Kd.R k36 36 w' w.heap.size (fun k_ => some k_ ≠ ((.slice Ao15 t343.length co15) : Value).ownBlock) v6 x6_1) ∧ Aside0 (Kd.R k36 36 w' w.heap.size (fun k_ => some k_ ≠ (v6 : Value).ownBlock) (.slice Ao15 t343.length co15) t343) ∧ Aside0 (w'.heap[gb337]? = some (.cells (csBay a0_0 a0_1 a0_2) 28 (0, 0))) ∧ Aside0 (w'.heap[gb338]? = some (.cells #[.int .i8 a1_0, .int .i8 a1_1, .int .i8 a1_2, .int .i8 a1_3, .int .i8 a1_4, .int .i8 a1_5] 38 (0, 0))) ∧ Aside0 (Below w.heap.size w w'))
 case atStart => exact ⟨(y340), (0), vv, H', ⟨Nat.le_refl _⟩, ⟨by (with_reducible repeat (first | apply Kd.R_alloc | apply Kd.R_drewN | apply Kd.R_drew)); exact Kd.R_mono HO342.out (fun _ hk => hk.2)⟩, ⟨by (with_reducible repeat (first | apply Kd.R_alloc | apply Kd.R_drewN | apply Kd.R_drew)); exact Kd.R_mono HO345.out (fun _ hk => hk.2)⟩, ⟨kb BK337⟩, ⟨kb BK338⟩, ⟨be HB⟩⟩
 case round =>
  clear H'
  try clear c1
  try clear p2
  try clear c7
  try clear c11
  try clear c12
  try clear hcz13_0
  try clear hcz13_1
  try clear hcz8_0
  try clear hcz8_1
  try clear hcz9_0
  try clear hcz9_1
  try clear hcz9_2
  try clear hcz9_3
  try clear hcz9_4
  try clear hcz9_5
  try clear hfz13_0
  try clear hfz13_1
  try clear hfz13_2
  try clear hfz8_0
  try clear hfz8_1
  try clear hfz8_2
  try clear hfz9_0
  try clear hfz9_1
  try clear hfz9_2
  try clear hfz9_3
  try clear hfz9_4
  try clear hfz9_5
  obtain ⟨x6_1, x16_1, rfl, HA, HK1, HO_6, HO_14, BK337, BK338, HB⟩ := hrel
  cases gk with
  | zero => exact absurd HA.out (by simp [impl_swingPlaces.l0])
  | succ k1 =>
   have H := HA.out
   clear HA
   simp only [impl_swingPlaces.l0] at H
   by_cases c16 : x16_1 < (t343.length : Int)
   ·rw [if_pos c16] at H
    have c16b0 : decide (x16_1 < (t343.length : Int)) = true := decide_eq_true c16
    clear c16
    by_cases c17 : 0 ≤ x16_1
    ·rw [if_pos c17] at H
     have c17b0 : decide (0 ≤ x16_1) = true := decide_eq_true c17
     have c17b1 : 0 ≤ x16_1 := c17
     clear c17
     by_cases c18 : x16_1 < (t343.length : Int)
     ·rw [if_pos c18] at H
      have c18b0 : decide (x16_1 < (t343.length : Int)) = true := decide_eq_true c18
      clear c18
      replace H := Option.bind_eq_some_iff.mp H
      obtain ⟨t348, A190, H⟩ := H
      try dsimp only at H
      have A19 := am A190
      clear A190
      by_cases c20 : t348 ≤ (wrap64 (t339 * t339))
      ·rw [if_pos c20] at H
       have c20b0 : decide (t348 ≤ (wrap64 (t339 * t339))) = true := decide_eq_true c20
       clear c20
       by_cases c21 : x6_1.length < 70368744177664
       ·rw [if_pos c21] at H
        have LMc21 := am c21
        clear c21
        obtain ⟨y349, hy349⟩ : ∃ y_ : List (S36), y_ = (x6_1 ++ [(⟨(rd_T36 t343 x16_1).f0, (rd_T36 t343 x16_1).f1⟩ : S36)]) := ⟨_, rfl⟩
        replace H : (impl_swingPlaces.l0 k1 t339 y349 t343 (t343.length : Int) (wrap64 (x16_1 + 1)) a1_0 a1_1 a1_2 a1_3 a1_4 a1_5) = some r := by first | (rw [hy349]; with_reducible exact H) | (have H2_ := (Option.bind_some _ _).symm.trans H; rw [hy349]; with_reducible exact H2_) | (have H2_ := (Option.bind_some _ _).symm.trans H; with_reducible exact H2_) | with_reducible exact H | (rw [hy349]; exact H) | exact H
        have Ny349 := am hy349
        clear hy349
        have H' := am H
        clear H
        have p346 : 0 ≤ (x16_1 : Int) := of_decide_eq_true (by first | (with_reducible assumption) | assumption)
        have q346 : x16_1 < (t343.length : Int) := of_decide_eq_true (by first | (with_reducible assumption) | assumption)
        obtain ⟨ad346, e346, hx346_0, hx346_1⟩ := at_T36 (Kd.R_reads' HO_14.out).2.2 x16_1 p346 q346
        cases e346
        replace p346 := eq_true p346
        replace q346 := eq_true q346
        go_wp2_with (first | ((with_reducible refine gate_dst (N := 8) rfl ?_); refine bxe (N := 8) (cs := #[.int .i8 0, .int .i8 0]) (t := 36) ?_; intro gb347 hg w22 hbox hb; have BK347 := am (hbox); have GW347 := am (gN hg (below_size (be HB))); have GE347 := am (gN hg (below_size (be HB))); have NB337_347 := nL BK337 hg; have NB347_337 := nR BK337 hg; have NB338_347 := nL BK338 hg; have NB347_338 := nR BK338 hg; replace HO_6 := am (Kd.R_below (Kd.R_elderB (kr HO_6) gb347 (Nat.le_of_eq hg.symm)) hb); replace HO_14 := am (Kd.R_below (Kd.R_elderB (kr HO_14) gb347 (Nat.le_of_eq hg.symm)) hb); replace BK337 := bB BK337 hb; replace BK338 := bB BK338 hb; replace HB := am (below_step (be HB) hb); clear hb hbox hg; have hnb23 := NB347_337.out; have hnc23 := NB337_347.out; have hnb24 := NB347_338.out; have hnc24 := NB338_347.out; obtain ⟨hcz25_0, hcz25_1, hfz25_0, hfz25_1⟩ := bx2 BK347; have hnb26 := NB338_337.out; have hnc26 := NB337_338.out; obtain ⟨hcz27_0, hcz27_1, hcz27_2, hcz27_3, hcz27_4, hcz27_5, hfz27_0, hfz27_1, hfz27_2, hfz27_3, hfz27_4, hfz27_5⟩ := bx6 BK338) | ((with_reducible refine gate_callee (f := 171) rfl ?_); refine gL (some 23) Try.func171 #[.agg #[.int .i8 ((rd_T36 t343 x16_1).f0), .int .i8 ((rd_T36 t343 x16_1).f1)], .agg #[.int .i8 a1_0, .int .i8 a1_1]] ?_; (with_reducible refine (impl_far.calls ((rd_T36 t343 x16_1).f0) ((rd_T36 t343 x16_1).f1) a1_0 a1_1 t348 _ A19.out).mono ?_); rintro e w28 ⟨rfl, hb⟩; refine ⟨_, rfl, ?_⟩; replace HO_6 := am (Kd.R_below (by (with_reducible repeat (first | apply Kd.R_alloc | apply Kd.R_drewN | apply Kd.R_drew)); exact (Kd.R_mono (Kd.R_far (p := ⟨gb347, 1, none⟩) (Kd.R_far (p := ⟨gb347, 0, none⟩) (Kd.R_mono HO_6.out (fun k_ hk => (⟨hk, hk.2⟩ : _ ∧ k_ ≠ gb347))) (fun _ hk => hk.2) (.int .i8 ((rd_T36 t343 x16_1).f0))) (fun _ hk => hk.2) (.int .i8 ((rd_T36 t343 x16_1).f1))) (fun _ h_ => h_.1))) hb); replace HO_14 := am (Kd.R_below (by (with_reducible repeat (first | apply Kd.R_alloc | apply Kd.R_drewN | apply Kd.R_drew)); exact (Kd.R_mono (Kd.R_far (p := ⟨gb347, 1, none⟩) (Kd.R_far (p := ⟨gb347, 0, none⟩) (Kd.R_mono HO_14.out (fun k_ hk => (⟨hk, hk.2⟩ : _ ∧ k_ ≠ gb347))) (fun _ hk => hk.2) (.int .i8 ((rd_T36 t343 x16_1).f0))) (fun _ hk => hk.2) (.int .i8 ((rd_T36 t343 x16_1).f1))) (fun _ h_ => h_.1))) hb); replace BK337 := am (blk_below (g := gb337) (o := .cells (csBay a0_0 a0_1 a0_2) 28 (0, 0)) (by (with_reducible repeat (first | refine blk_drewN ?_ _ | refine blk_drew ?_ | refine blk_alloc ?_ _)); refine blk_far ?_ NB337_347.out _; (with_reducible repeat (first | refine blk_drewN ?_ _ | refine blk_drew ?_ | refine blk_alloc ?_ _)); refine blk_far ?_ NB337_347.out _; exact kb BK337) hb); replace BK338 := am (blk_below (g := gb338) (o := .cells #[.int .i8 a1_0, .int .i8 a1_1, .int .i8 a1_2, .int .i8 a1_3, .int .i8 a1_4, .int .i8 a1_5] 38 (0, 0)) (by (with_reducible repeat (first | refine blk_drewN ?_ _ | refine blk_drew ?_ | refine blk_alloc ?_ _)); refine blk_far ?_ NB338_347.out _; (with_reducible repeat (first | refine blk_drewN ?_ _ | refine blk_drew ?_ | refine blk_alloc ?_ _)); refine blk_far ?_ NB338_347.out _; exact kb BK338) hb); replace BK347 := am (blk_below (g := gb347) (o := .cells #[.int .i8 ((rd_T36 t343 x16_1).f0), .int .i8 ((rd_T36 t343 x16_1).f1)] 36 (0, 0)) (by (with_reducible repeat (first | refine blk_drewN ?_ _ | refine blk_drew ?_ | refine blk_alloc ?_ _)); refine blk_put (cs := #[.int .i8 ((rd_T36 t343 x16_1).f0), .int .i8 0]) ?_ 1 _ rfl; (with_reducible repeat (first | refine blk_drewN ?_ _ | refine blk_drew ?_ | refine blk_alloc ?_ _)); refine blk_put (cs := #[.int .i8 0, .int .i8 0]) ?_ 0 _ rfl; exact kb BK347) hb); replace HB := am (below_step (be HB) hb); (try clear hb); (try clear hb2); (try clear hk); (try clear hi); obtain ⟨hcz29_0, hcz29_1, hfz29_0, hfz29_1⟩ := bx2 BK347) | ((with_reducible refine gate_builtin (b := .append) (xs := #[.tmp 28, .tmp 30]) rfl ?_); at_builtin; refine Kd.R_append k36 (w0 := w) w.heap.size rfl (.tmp 28) (.tmp 30) 56 36 (.agg #[(.int .i8 0), (.int .i8 0)]) 2 rfl Try.underlying56 info36 rfl (by decide) (by omega) u6 x6_1 (⟨(rd_T36 t343 x16_1).f0, (rd_T36 t343 x16_1).f1⟩ : S36) [.int .i8 ((rd_T36 t343 x16_1).f0), .int .i8 ((rd_T36 t343 x16_1).f1)] (fun k_ => some k_ ≠ (.slice (some ad346) t343.length co15 : Value).ownBlock ∧ k_ ≠ gb347) (fun _ => False) rfl rfl ?aP (fun _ hk => hk.elim) ?aF ?aO ?aB ?aS ?aL ?_; (case aP => exact k36_mkM _ _ _ (⟨(rd_T36 t343 x16_1).f0, (rd_T36 t343 x16_1).f1⟩ : S36)); (case aB => exact (be HB)); (case aF => exact (fun k_ hk => ⟨Kd.fresh' (Kd.R_lt (kr HO_14)) k_ hk, Kd.freshB (g := gb347) (o := .cells #[.int .i8 ((rd_T36 t343 x16_1).f0), .int .i8 ((rd_T36 t343 x16_1).f1)] 36 (0, 0)) (kb BK347) k_ hk⟩)); (case aO => exact (kr HO_6)); (case aS => exact (below_size (be HB))); (case aL => have := LMc21.out; omega); intro v350 w30 ho hb hg hat; rw [← Ny349.out] at ho; have HO351 := am (ho); replace HO_14 := am (Kd.R_after (ok := (fun k_ => k_ ≠ gb347)) (by (with_reducible repeat (first | apply Kd.R_alloc | apply Kd.R_drewN | apply Kd.R_drew)); exact Kd.R_mono HO_14.out (fun _ hk => ⟨hk.2, hk.1⟩)) hg hat); replace BK337 := am (blk_grown (g := gb337) (o := .cells (csBay a0_0 a0_1 a0_2) 28 (0, 0)) (kb BK337) hg (Kd.R_ne HO_6.out BK337.out (by decide))); replace BK338 := am (blk_grown (g := gb338) (o := .cells #[.int .i8 a1_0, .int .i8 a1_1, .int .i8 a1_2, .int .i8 a1_3, .int .i8 a1_4, .int .i8 a1_5] 38 (0, 0)) (kb BK338) hg (Kd.R_ne HO_6.out BK338.out (by decide))); replace BK347 := am (blk_grown (g := gb347) (o := .cells #[.int .i8 ((rd_T36 t343 x16_1).f0), .int .i8 ((rd_T36 t343 x16_1).f1)] 36 (0, 0)) (kb BK347) hg (Kd.R_away HO_6.out (fun _ hk => hk.2))); replace HB := am (hb); clear HO_6; clear ho hb hg hat))
        go_roundg k1
        case measure => have := HK1.out; omega
        case rel => exact ⟨(y349), (wrap64 (x16_1 + 1)), vv, H', ⟨by have := HK1.out; omega⟩, ⟨by (with_reducible repeat (first | apply Kd.R_alloc | apply Kd.R_drewN | apply Kd.R_drew)); exact Kd.R_mono HO351.out (fun _ hk => hk.1)⟩, ⟨by (with_reducible repeat (first | apply Kd.R_alloc | apply Kd.R_drewN | apply Kd.R_drew)); exact Kd.R_mono HO_14.out (fun _ hk => hk.2)⟩, ⟨kb BK337⟩, ⟨kb BK338⟩, ⟨be HB⟩⟩
       ·rw [if_neg c21] at H
        exact absurd H (by simp)
      ·rw [if_neg c20] at H
       have c20b0 : decide (t348 ≤ (wrap64 (t339 * t339))) = false := decide_eq_false c20
       clear c20
       have H' := am H
       clear H
       have p346 : 0 ≤ (x16_1 : Int) := of_decide_eq_true (by first | (with_reducible assumption) | assumption)
       have q346 : x16_1 < (t343.length : Int) := of_decide_eq_true (by first | (with_reducible assumption) | assumption)
       obtain ⟨ad346, e346, hx346_0, hx346_1⟩ := at_T36 (Kd.R_reads' HO_14.out).2.2 x16_1 p346 q346
       cases e346
       replace p346 := eq_true p346
       replace q346 := eq_true q346
       go_wp2_with (first | ((with_reducible refine gate_dst (N := 8) rfl ?_); refine bxe (N := 8) (cs := #[.int .i8 0, .int .i8 0]) (t := 36) ?_; intro gb347 hg w31 hbox hb; have BK347 := am (hbox); have GW347 := am (gN hg (below_size (be HB))); have GE347 := am (gN hg (below_size (be HB))); have NB337_347 := nL BK337 hg; have NB347_337 := nR BK337 hg; have NB338_347 := nL BK338 hg; have NB347_338 := nR BK338 hg; replace HO_6 := am (Kd.R_below (Kd.R_elderB (kr HO_6) gb347 (Nat.le_of_eq hg.symm)) hb); replace HO_14 := am (Kd.R_below (Kd.R_elderB (kr HO_14) gb347 (Nat.le_of_eq hg.symm)) hb); replace BK337 := bB BK337 hb; replace BK338 := bB BK338 hb; replace HB := am (below_step (be HB) hb); clear hb hbox hg; have hnb32 := NB347_337.out; have hnc32 := NB337_347.out; have hnb33 := NB347_338.out; have hnc33 := NB338_347.out; obtain ⟨hcz34_0, hcz34_1, hfz34_0, hfz34_1⟩ := bx2 BK347; have hnb35 := NB338_337.out; have hnc35 := NB337_338.out; obtain ⟨hcz36_0, hcz36_1, hcz36_2, hcz36_3, hcz36_4, hcz36_5, hfz36_0, hfz36_1, hfz36_2, hfz36_3, hfz36_4, hfz36_5⟩ := bx6 BK338) | ((with_reducible refine gate_callee (f := 171) rfl ?_); refine gL (some 23) Try.func171 #[.agg #[.int .i8 ((rd_T36 t343 x16_1).f0), .int .i8 ((rd_T36 t343 x16_1).f1)], .agg #[.int .i8 a1_0, .int .i8 a1_1]] ?_; (with_reducible refine (impl_far.calls ((rd_T36 t343 x16_1).f0) ((rd_T36 t343 x16_1).f1) a1_0 a1_1 t348 _ A19.out).mono ?_); rintro e w37 ⟨rfl, hb⟩; refine ⟨_, rfl, ?_⟩; replace HO_6 := am (Kd.R_below (by (with_reducible repeat (first | apply Kd.R_alloc | apply Kd.R_drewN | apply Kd.R_drew)); exact (Kd.R_mono (Kd.R_far (p := ⟨gb347, 1, none⟩) (Kd.R_far (p := ⟨gb347, 0, none⟩) (Kd.R_mono HO_6.out (fun k_ hk => (⟨hk, hk.2⟩ : _ ∧ k_ ≠ gb347))) (fun _ hk => hk.2) (.int .i8 ((rd_T36 t343 x16_1).f0))) (fun _ hk => hk.2) (.int .i8 ((rd_T36 t343 x16_1).f1))) (fun _ h_ => h_.1))) hb); replace HO_14 := am (Kd.R_below (by (with_reducible repeat (first | apply Kd.R_alloc | apply Kd.R_drewN | apply Kd.R_drew)); exact (Kd.R_mono (Kd.R_far (p := ⟨gb347, 1, none⟩) (Kd.R_far (p := ⟨gb347, 0, none⟩) (Kd.R_mono HO_14.out (fun k_ hk => (⟨hk, hk.2⟩ : _ ∧ k_ ≠ gb347))) (fun _ hk => hk.2) (.int .i8 ((rd_T36 t343 x16_1).f0))) (fun _ hk => hk.2) (.int .i8 ((rd_T36 t343 x16_1).f1))) (fun _ h_ => h_.1))) hb); replace BK337 := am (blk_below (g := gb337) (o := .cells (csBay a0_0 a0_1 a0_2) 28 (0, 0)) (by (with_reducible repeat (first | refine blk_drewN ?_ _ | refine blk_drew ?_ | refine blk_alloc ?_ _)); refine blk_far ?_ NB337_347.out _; (with_reducible repeat (first | refine blk_drewN ?_ _ | refine blk_drew ?_ | refine blk_alloc ?_ _)); refine blk_far ?_ NB337_347.out _; exact kb BK337) hb); replace BK338 := am (blk_below (g := gb338) (o := .cells #[.int .i8 a1_0, .int .i8 a1_1, .int .i8 a1_2, .int .i8 a1_3, .int .i8 a1_4, .int .i8 a1_5] 38 (0, 0)) (by (with_reducible repeat (first | refine blk_drewN ?_ _ | refine blk_drew ?_ | refine blk_alloc ?_ _)); refine blk_far ?_ NB338_347.out _; (with_reducible repeat (first | refine blk_drewN ?_ _ | refine blk_drew ?_ | refine blk_alloc ?_ _)); refine blk_far ?_ NB338_347.out _; exact kb BK338) hb); replace BK347 := am (blk_below (g := gb347) (o := .cells #[.int .i8 ((rd_T36 t343 x16_1).f0), .int .i8 ((rd_T36 t343 x16_1).f1)] 36 (0, 0)) (by (with_reducible repeat (first | refine blk_drewN ?_ _ | refine blk_drew ?_ | refine blk_alloc ?_ _)); refine blk_put (cs := #[.int .i8 ((rd_T36 t343 x16_1).f0), .int .i8 0]) ?_ 1 _ rfl; (with_reducible repeat (first | refine blk_drewN ?_ _ | refine blk_drew ?_ | refine blk_alloc ?_ _)); refine blk_put (cs := #[.int .i8 0, .int .i8 0]) ?_ 0 _ rfl; exact kb BK347) hb); replace HB := am (below_step (be HB) hb); (try clear hb); (try clear hb2); (try clear hk); (try clear hi)))
       go_roundg k1
       case measure => have := HK1.out; omega
       case rel => exact ⟨(x6_1), (wrap64 (x16_1 + 1)), vv, H', ⟨by have := HK1.out; omega⟩, ⟨by (with_reducible repeat (first | apply Kd.R_alloc | apply Kd.R_drewN | apply Kd.R_drew)); exact Kd.R_mono HO_6.out (fun _ hk => hk.1)⟩, ⟨by (with_reducible repeat (first | apply Kd.R_alloc | apply Kd.R_drewN | apply Kd.R_drew)); exact Kd.R_mono HO_14.out (fun _ hk => hk.1)⟩, ⟨kb BK337⟩, ⟨kb BK338⟩, ⟨be HB⟩⟩
     ·rw [if_neg c18] at H
      exact absurd H (by simp)
    ·rw [if_neg c17] at H
     exact absurd H (by simp)
   ·rw [if_neg c16] at H
    have c16b0 : decide (x16_1 < (t343.length : Int)) = false := decide_eq_false c16
    clear c16
    obtain rfl := Option.some.inj H
    go_wp2
    go_ret
    exact ⟨_, by first | rfl | (simp [errW_none, errW_some] <;> rfl) | (simp [*, errW_none, errW_some] <;> rfl), by (with_reducible repeat (first | apply Kd.R_alloc | apply Kd.R_drewN | apply Kd.R_drew)); exact Kd.R_mono HO_6.out (fun _ hk => trivial), be HB⟩

/-! ### impl_shoals: function 124 -/
def impl_shoals.l0 : Nat → List (S36) → List (S36) → Int → Int → Int → Int → (Nat → Int) → Int → Int → Int → Int → Int → Int → Option ((List (S36)))
 | 0, _, _, _, _, _, _, _, _, _, _, _, _, _ => none
 | k + 1, x5, x11, x12, x13, x353000, x353001, x353002, x354000, x354001, x354002, x354003, x354004, x354005 => if x13 < x12 then (if 0 ≤ x13 then (if x13 < (x11.length : Int) then ((impl_depth.f x353000 x353001 x353002 ((rd_T36 x11 x13).f0) ((rd_T36 x11 x13).f1)).bind fun t362 => (if t362 < (wrap64 (x354004)) then (if x5.length < 70368744177664 then (impl_shoals.l0 k (x5 ++ [(⟨(rd_T36 x11 x13).f0, (rd_T36 x11 x13).f1⟩ : S36)]) x11 x12 (wrap64 (x13 + 1)) x353000 x353001 x353002 x354000 x354001 x354002 x354003 x354004 x354005) else (none)) else (impl_shoals.l0 k x5 x11 x12 (wrap64 (x13 + 1)) x353000 x353001 x353002 x354000 x354001 x354002 x354003 x354004 x354005))) else (none)) else (none)) else (some x5)
def impl_shoals.f (k : Nat) (a0_0 : Int) (a0_1 : Int) (a0_2 : (Nat → Int)) (a1_0 : Int) (a1_1 : Int) (a1_2 : Int) (a1_3 : Int) (a1_4 : Int) (a1_5 : Int) : Option ((List (S36))) := (impl_swingPlaces.f k a0_0 a0_1 a0_2 a1_0 a1_1 a1_2 a1_3 a1_4 a1_5).bind fun t357 => (impl_shoals.l0 k (([] : List (S36))) t357 (t357.length : Int) 0 a0_0 a0_1 a0_2 a1_0 a1_1 a1_2 a1_3 a1_4 a1_5)
set_option maxHeartbeats 8000000 in
set_option maxRecDepth 100000 in
theorem impl_shoals.calls (k : Nat) (a0_0 : Int) (a0_1 : Int) (a0_2 : (Nat → Int)) (a1_0 : Int) (a1_1 : Int) (a1_2 : Int) (a1_3 : Int) (a1_4 : Int) (a1_5 : Int) (r : List (S36)) (w : World) (h : impl_shoals.f k a0_0 a0_1 a0_2 a1_0 a1_1 a1_2 a1_3 a1_4 a1_5 = some r) :
  Calls Try.prog 124 #[.agg (csBay a0_0 a0_1 a0_2), .agg #[.int .i8 a1_0, .int .i8 a1_1, .int .i8 a1_2, .int .i8 a1_3, .int .i8 a1_4, .int .i8 a1_5]] w fun e w' => ∃ v0_ : Value, e = .returned (v0_) ∧ Kd.R k36 36 w' w.heap.size (fun _ => True) v0_ r ∧ Below w.heap.size w w' := by
 have hu28 := Try.underlying28
 have hu38 := Try.underlying38
 have hu36 := Try.underlying36
 have HB := am (Below.refl w.heap.size w)
 have H : ((impl_swingPlaces.f k a0_0 a0_1 a0_2 a1_0 a1_1 a1_2 a1_3 a1_4 a1_5).bind fun t357 => (impl_shoals.l0 k (([] : List (S36))) t357 (t357.length : Int) 0 a0_0 a0_1 a0_2 a1_0 a1_1 a1_2 a1_3 a1_4 a1_5)) = some r := h
 clear h
 obtain ⟨y354, hy354⟩ : ∃ y_ : List (S36), y_ = (([] : List (S36))) := ⟨_, rfl⟩
 replace H : ((impl_swingPlaces.f k a0_0 a0_1 a0_2 a1_0 a1_1 a1_2 a1_3 a1_4 a1_5).bind fun t357 => (impl_shoals.l0 k y354 t357 (t357.length : Int) 0 a0_0 a0_1 a0_2 a1_0 a1_1 a1_2 a1_3 a1_4 a1_5)) = some r := by first | (rw [hy354]; with_reducible exact H) | (have H2_ := (Option.bind_some _ _).symm.trans H; rw [hy354]; with_reducible exact H2_) | (have H2_ := (Option.bind_some _ _).symm.trans H; with_reducible exact H2_) | with_reducible exact H | (rw [hy354]; exact H) | exact H
 have Ny354 := am hy354
 clear hy354
 replace H := Option.bind_eq_some_iff.mp H
 obtain ⟨t357, A30, H⟩ := H
 try dsimp only at H
 have A3 := am A30
 clear A30
 have H' := am H
 clear H
 go_enter Try.func124, Try.ntmps124
 go_wp2_with (first | ((with_reducible refine gate_dst (N := 2) rfl ?_); refine bxe (N := 2) (cs := (csBay a0_0 a0_1 a0_2)) (t := 28) ?_; intro gb352 hg w4 hbox hb; have BK352 := am (hbox); have GW352 := am (gN hg (below_size (be HB))); have GE352 := am (gN hg (below_size (be HB))); replace HB := am (below_step (be HB) hb); clear hb hbox hg) | ((with_reducible refine gate_dst (N := 3) rfl ?_); refine bxe (N := 3) (cs := #[.int .i8 a1_0, .int .i8 a1_1, .int .i8 a1_2, .int .i8 a1_3, .int .i8 a1_4, .int .i8 a1_5]) (t := 38) ?_; intro gb353 hg w5 hbox hb; have BK353 := am (hbox); have GW353 := am (gN hg (below_size (be HB))); have GE353 := am (gN hg (below_size (be HB))); have NB352_353 := nL BK352 hg; have NB353_352 := nR BK352 hg; replace BK352 := bB BK352 hb; replace HB := am (below_step (be HB) hb); clear hb hbox hg) | ((with_reducible refine gate_dst (N := 8) rfl ?_); refine Kd.R_lit k36 _ 36 ?hg (N := 8) ?hd (xs := ([] : List (S36))) (inner := []) (ok := fun _ => True) (okp := fun _ => True) ?hr ?hp (fun _ hk => hk) trivial (Below.refl _ _) (Nat.le_refl _) (by simp) ?_; (case hd => rfl); (case hg => rfl); (case hr => first | (go_simp; done) | (go_simp; rfl)); (case hp => exact (Reps.none _ _)); intro v355 w6 ho7 hb hg_ hnew_; clear hg_ hnew_; (first | rw [← Ny354.out] at ho7 | (simp only [Int.reduceToNat] at ho7; rw [← Ny354.out] at ho7)); have HO356 := am (Kd.R_lower ho7 (below_size (be HB))); replace BK352 := bB BK352 hb; replace BK353 := bB BK353 hb; replace HB := am (below_step (be HB) hb); clear hb ho7; have hnb8 := NB352_353.out; have hnc8 := NB353_352.out; obtain ⟨hcz9_0, hcz9_1, hwz9, haz9, hyz9, hvz9, hfz9_0, hfz9_1, hfz9_2⟩ := bb28 BK352; obtain ⟨hcz10_0, hcz10_1, hcz10_2, hcz10_3, hcz10_4, hcz10_5, hfz10_0, hfz10_1, hfz10_2, hfz10_3, hfz10_4, hfz10_5⟩ := bx6 BK353) | ((with_reducible refine gate_callee (f := 123) rfl ?_); refine gL (some 11) Try.func123 #[.agg (csBay a0_0 a0_1 a0_2), .agg #[.int .i8 a1_0, .int .i8 a1_1, .int .i8 a1_2, .int .i8 a1_3, .int .i8 a1_4, .int .i8 a1_5]] ?_; (with_reducible refine (impl_swingPlaces.calls k a0_0 a0_1 a0_2 a1_0 a1_1 a1_2 a1_3 a1_4 a1_5 t357 _ A3.out).mono ?_); rintro e w11 ⟨v358, rfl, ho0, hb⟩; refine ⟨_, rfl, ?_⟩; have HO359 := am (Kd.R_lower (Kd.R_new' ho0 (Kd.R_lt (kr HO356))) (below_size (be HB))); replace HO356 := am (Kd.R_elder' (kr HO356) (Kd.R_base ho0) hb); replace BK352 := bB BK352 hb; replace BK353 := bB BK353 hb; replace HB := am (below_step (be HB) hb); (try clear hb); (try clear hb2); (try clear hk); (try clear hi); (try clear ho0); obtain ⟨Ao12, co12, eo12⟩ := Kd.R_slice HO359.out; subst eo12))
 go_loopg [5, 13] k (fun kq v5 v13 w' => ∃ (x5_1 : List (S36)) (x13_1 : Int), v13 = .int .i64 x13_1 ∧ Aside0 (impl_shoals.l0 kq x5_1 t357 (t357.length : Int) x13_1 a0_0 a0_1 a0_2 a1_0 a1_1 a1_2 a1_3 a1_4 a1_5 = some r) ∧ Aside0 (kq ≤ k) ∧ Aside0 (Kd.R k36 36 w' w.heap.size (fun k_ => some k_ ≠ ((.slice Ao12 t357.length co12) : Value).ownBlock) v5 x5_1) ∧ Aside0 (Kd.R k36 36 w' w.heap.size (fun k_ => some k_ ≠ (v5 : Value).ownBlock) (.slice Ao12 t357.length co12) t357) ∧ Aside0 (w'.heap[gb352]? = some (.cells (csBay a0_0 a0_1 a0_2) 28 (0, 0))) ∧ Aside0 (w'.heap[gb353]? = some (.cells #[.int .i8 a1_0, .int .i8 a1_1, .int .i8 a1_2, .int .i8 a1_3, .int .i8 a1_4, .int .i8 a1_5] 38 (0, 0))) ∧ Aside0 (Below w.heap.size w w'))
 case atStart => exact ⟨(y354), (0), vv, H', ⟨Nat.le_refl _⟩, ⟨by (with_reducible repeat (first | apply Kd.R_alloc | apply Kd.R_drewN | apply Kd.R_drew)); exact Kd.R_mono HO356.out (fun _ hk => hk.2)⟩, ⟨by (with_reducible repeat (first | apply Kd.R_alloc | apply Kd.R_drewN | apply Kd.R_drew)); exact Kd.R_mono HO359.out (fun _ hk => hk.2)⟩, ⟨kb BK352⟩, ⟨kb BK353⟩, ⟨be HB⟩⟩
 case round =>
  clear H'
  try clear c1
  try clear p2
  try clear c8
  try clear c12
  try clear hcz10_0
  try clear hcz10_1
  try clear hcz10_2
  try clear hcz10_3
  try clear hcz10_4
  try clear hcz10_5
  try clear hcz9_0
  try clear hcz9_1
  try clear hfz10_0
  try clear hfz10_1
  try clear hfz10_2
  try clear hfz10_3
  try clear hfz10_4
  try clear hfz10_5
  try clear hfz9_0
  try clear hfz9_1
  try clear hfz9_2
  obtain ⟨x5_1, x13_1, rfl, HA, HK1, HO_5, HO_11, BK352, BK353, HB⟩ := hrel
  cases gk with
  | zero => exact absurd HA.out (by simp [impl_shoals.l0])
  | succ k1 =>
   have H := HA.out
   clear HA
   simp only [impl_shoals.l0] at H
   by_cases c13 : x13_1 < (t357.length : Int)
   ·rw [if_pos c13] at H
    have c13b0 : decide (x13_1 < (t357.length : Int)) = true := decide_eq_true c13
    clear c13
    by_cases c14 : 0 ≤ x13_1
    ·rw [if_pos c14] at H
     have c14b0 : decide (0 ≤ x13_1) = true := decide_eq_true c14
     have c14b1 : 0 ≤ x13_1 := c14
     clear c14
     by_cases c15 : x13_1 < (t357.length : Int)
     ·rw [if_pos c15] at H
      have c15b0 : decide (x13_1 < (t357.length : Int)) = true := decide_eq_true c15
      clear c15
      replace H := Option.bind_eq_some_iff.mp H
      obtain ⟨t362, A160, H⟩ := H
      try dsimp only at H
      have A16 := am A160
      clear A160
      by_cases c17 : t362 < (wrap64 (a1_4))
      ·rw [if_pos c17] at H
       have c17b0 : decide (t362 < (wrap64 (a1_4))) = true := decide_eq_true c17
       clear c17
       by_cases c18 : x5_1.length < 70368744177664
       ·rw [if_pos c18] at H
        have LMc18 := am c18
        clear c18
        obtain ⟨y363, hy363⟩ : ∃ y_ : List (S36), y_ = (x5_1 ++ [(⟨(rd_T36 t357 x13_1).f0, (rd_T36 t357 x13_1).f1⟩ : S36)]) := ⟨_, rfl⟩
        replace H : (impl_shoals.l0 k1 y363 t357 (t357.length : Int) (wrap64 (x13_1 + 1)) a0_0 a0_1 a0_2 a1_0 a1_1 a1_2 a1_3 a1_4 a1_5) = some r := by first | (rw [hy363]; with_reducible exact H) | (have H2_ := (Option.bind_some _ _).symm.trans H; rw [hy363]; with_reducible exact H2_) | (have H2_ := (Option.bind_some _ _).symm.trans H; with_reducible exact H2_) | with_reducible exact H | (rw [hy363]; exact H) | exact H
        have Ny363 := am hy363
        clear hy363
        have H' := am H
        clear H
        have p360 : 0 ≤ (x13_1 : Int) := of_decide_eq_true (by first | (with_reducible assumption) | assumption)
        have q360 : x13_1 < (t357.length : Int) := of_decide_eq_true (by first | (with_reducible assumption) | assumption)
        obtain ⟨ad360, e360, hx360_0, hx360_1⟩ := at_T36 (Kd.R_reads' HO_11.out).2.2 x13_1 p360 q360
        cases e360
        replace p360 := eq_true p360
        replace q360 := eq_true q360
        try go_wp2_with (first | ((with_reducible refine gate_dst (N := 7) rfl ?_); refine bxe (N := 7) (cs := #[.int .i8 0, .int .i8 0]) (t := 36) ?_; intro gb361 hg w19 hbox hb; have BK361 := am (hbox); have GW361 := am (gN hg (below_size (be HB))); have GE361 := am (gN hg (below_size (be HB))); have NB352_361 := nL BK352 hg; have NB361_352 := nR BK352 hg; have NB353_361 := nL BK353 hg; have NB361_353 := nR BK353 hg; replace HO_5 := am (Kd.R_below (Kd.R_elderB (kr HO_5) gb361 (Nat.le_of_eq hg.symm)) hb); replace HO_11 := am (Kd.R_below (Kd.R_elderB (kr HO_11) gb361 (Nat.le_of_eq hg.symm)) hb); replace BK352 := bB BK352 hb; replace BK353 := bB BK353 hb; replace HB := am (below_step (be HB) hb); clear hb hbox hg; have hnb20 := NB361_352.out; have hnc20 := NB352_361.out; have hnb21 := NB361_353.out; have hnc21 := NB353_361.out; obtain ⟨hcz22_0, hcz22_1, hfz22_0, hfz22_1⟩ := bx2 BK361))
        have n0_ : Aside0 (Kd.R k36 36 ((w19.setCell ⟨gb361, 0, none⟩ (.int .i8 ((rd_T36 t357 x13_1).f0))).setCell ⟨gb361, 1, none⟩ (.int .i8 ((rd_T36 t357 x13_1).f1))) w.heap.size (fun k_ => some k_ ≠ (.slice (some ad360) t357.length co12 : Value).ownBlock ∧ k_ ≠ gb361) u5 x5_1) := ⟨by (with_reducible repeat (first | apply Kd.R_alloc | apply Kd.R_drewN | apply Kd.R_drew)); exact Kd.R_mono (Kd.R_far (p := ⟨gb361, 1, none⟩) (Kd.R_far (p := ⟨gb361, 0, none⟩) (Kd.R_mono HO_5.out (fun k_ hk => (⟨hk, hk.2⟩ : _ ∧ k_ ≠ gb361))) (fun _ hk => hk.2) (.int .i8 ((rd_T36 t357 x13_1).f0))) (fun _ hk => hk.2) (.int .i8 ((rd_T36 t357 x13_1).f1))) (fun _ hk => ⟨hk.1.1, hk.1.2⟩)⟩
        have n1_ : Aside0 (Kd.R k36 36 ((w19.setCell ⟨gb361, 0, none⟩ (.int .i8 ((rd_T36 t357 x13_1).f0))).setCell ⟨gb361, 1, none⟩ (.int .i8 ((rd_T36 t357 x13_1).f1))) w.heap.size (fun k_ => some k_ ≠ (u5 : Value).ownBlock ∧ k_ ≠ gb361) (.slice (some ad360) t357.length co12) t357) := ⟨by (with_reducible repeat (first | apply Kd.R_alloc | apply Kd.R_drewN | apply Kd.R_drew)); exact Kd.R_mono (Kd.R_far (p := ⟨gb361, 1, none⟩) (Kd.R_far (p := ⟨gb361, 0, none⟩) (Kd.R_mono HO_11.out (fun k_ hk => (⟨hk, hk.2⟩ : _ ∧ k_ ≠ gb361))) (fun _ hk => hk.2) (.int .i8 ((rd_T36 t357 x13_1).f0))) (fun _ hk => hk.2) (.int .i8 ((rd_T36 t357 x13_1).f1))) (fun _ hk => ⟨hk.1.1, hk.1.2⟩)⟩
        have n2_ : Aside0 (((w19.setCell ⟨gb361, 0, none⟩ (.int .i8 ((rd_T36 t357 x13_1).f0))).setCell ⟨gb361, 1, none⟩ (.int .i8 ((rd_T36 t357 x13_1).f1))).heap[gb352]? = some (.cells (csBay a0_0 a0_1 a0_2) 28 (0, 0))) := ⟨by (with_reducible repeat (first | refine blk_drewN ?_ _ | refine blk_drew ?_ | refine blk_alloc ?_ _)); refine blk_far ?_ NB352_361.out _; (with_reducible repeat (first | refine blk_drewN ?_ _ | refine blk_drew ?_ | refine blk_alloc ?_ _)); refine blk_far ?_ NB352_361.out _; exact kb BK352⟩
        have n3_ : Aside0 (((w19.setCell ⟨gb361, 0, none⟩ (.int .i8 ((rd_T36 t357 x13_1).f0))).setCell ⟨gb361, 1, none⟩ (.int .i8 ((rd_T36 t357 x13_1).f1))).heap[gb353]? = some (.cells #[.int .i8 a1_0, .int .i8 a1_1, .int .i8 a1_2, .int .i8 a1_3, .int .i8 a1_4, .int .i8 a1_5] 38 (0, 0))) := ⟨by (with_reducible repeat (first | refine blk_drewN ?_ _ | refine blk_drew ?_ | refine blk_alloc ?_ _)); refine blk_far ?_ NB353_361.out _; (with_reducible repeat (first | refine blk_drewN ?_ _ | refine blk_drew ?_ | refine blk_alloc ?_ _)); refine blk_far ?_ NB353_361.out _; exact kb BK353⟩
        have n4_ : Aside0 (((w19.setCell ⟨gb361, 0, none⟩ (.int .i8 ((rd_T36 t357 x13_1).f0))).setCell ⟨gb361, 1, none⟩ (.int .i8 ((rd_T36 t357 x13_1).f1))).heap[gb361]? = some (.cells #[.int .i8 ((rd_T36 t357 x13_1).f0), .int .i8 ((rd_T36 t357 x13_1).f1)] 36 (0, 0))) := ⟨by (with_reducible repeat (first | refine blk_drewN ?_ _ | refine blk_drew ?_ | refine blk_alloc ?_ _)); refine blk_put (cs := #[.int .i8 ((rd_T36 t357 x13_1).f0), .int .i8 0]) ?_ 1 _ rfl; (with_reducible repeat (first | refine blk_drewN ?_ _ | refine blk_drew ?_ | refine blk_alloc ?_ _)); refine blk_put (cs := #[.int .i8 0, .int .i8 0]) ?_ 0 _ rfl; exact kb BK361⟩
        have n5_ : Aside0 (Below w.heap.size w ((w19.setCell ⟨gb361, 0, none⟩ (.int .i8 ((rd_T36 t357 x13_1).f0))).setCell ⟨gb361, 1, none⟩ (.int .i8 ((rd_T36 t357 x13_1).f1)))) := ⟨be HB⟩
        (try clear HO_5)
        (try clear HO_11)
        (try clear BK352)
        (try clear BK353)
        (try clear BK361)
        (try clear HB)
        generalize ((w19.setCell ⟨gb361, 0, none⟩ (.int .i8 ((rd_T36 t357 x13_1).f0))).setCell ⟨gb361, 1, none⟩ (.int .i8 ((rd_T36 t357 x13_1).f1))) = w23 at n0_ n1_ n2_ n3_ n4_ n5_ ⊢
        have HO_5 := n0_
        have HO_11 := n1_
        have BK352 := n2_
        have BK353 := n3_
        have BK361 := n4_
        have HB := n5_
        clear n0_ n1_ n2_ n3_ n4_ n5_
        have n0_ := am (Kd.R_drew HO_5.out)
        have n1_ := am (Kd.R_drew HO_11.out)
        have n2_ := am (blk_drew BK352.out)
        have n3_ := am (blk_drew BK353.out)
        have n4_ := am (blk_drew BK361.out)
        have n5_ := am (below_drew1 HB.out)
        clear HO_5
        clear HO_11
        clear BK352
        clear BK353
        clear BK361
        clear HB
        have HO_5 := n0_
        have HO_11 := n1_
        have BK352 := n2_
        have BK353 := n3_
        have BK361 := n4_
        have HB := n5_
        clear n0_ n1_ n2_ n3_ n4_ n5_
        refine start_ (n := 7) (S := fun w' => w'.cell? ⟨gb352, 0, none⟩ = some (.int .i8 a0_0) ∧ w'.cell? ⟨gb352, 1, none⟩ = some (.int .i8 a0_1) ∧ atCells w' gb352 a0_2 ∧ BayAt28 w' gb352 ∧ lvv w' gb352 = .agg (csBay a0_0 a0_1 a0_2) ∧ w'.cell? ⟨gb361, 0, none⟩ = some (.int .i8 ((rd_T36 t357 x13_1).f0)) ∧ w'.cell? ⟨gb361, 1, none⟩ = some (.int .i8 ((rd_T36 t357 x13_1).f1)) ∧ w'.cell? ⟨gb353, 0, none⟩ = some (.int .i8 a1_0) ∧ w'.cell? ⟨gb353, 1, none⟩ = some (.int .i8 a1_1) ∧ w'.cell? ⟨gb353, 2, none⟩ = some (.int .i8 a1_2) ∧ w'.cell? ⟨gb353, 3, none⟩ = some (.int .i8 a1_3) ∧ w'.cell? ⟨gb353, 4, none⟩ = some (.int .i8 a1_4) ∧ w'.cell? ⟨gb353, 5, none⟩ = some (.int .i8 a1_5)) (ds := []) #[false, false, false, false, false, false, false] (by kernel_rfl) rfl rfl ⟨(blk_cell BK352.out 0).trans rfl, (blk_cell BK352.out 1).trans rfl, at_cells BK352.out, BayAt28_of BK352.out, lvv_of BK352.out, (blk_cell BK361.out 0).trans rfl, (blk_cell BK361.out 1).trans rfl, (blk_cell BK353.out 0).trans rfl, (blk_cell BK353.out 1).trans rfl, (blk_cell BK353.out 2).trans rfl, (blk_cell BK353.out 3).trans rfl, (blk_cell BK353.out 4).trans rfl, (blk_cell BK353.out 5).trans rfl⟩ (fun hHeld => ?_)
        generalize w23.drew = w24 at HO_5 HO_11 BK352 BK353 BK361 HB hHeld ⊢
        refine pure_ (i := 3) (N := some 20) (v := ?_) (a' := ?_) #[false, false, false, true, false, false, false] rfl rfl (by kernel_rfl) (fun _ _ _ h => h) (Or.inl ⟨by rfl, ?_⟩) ?_ ?_
        rotate_left
        ·intro w'
         go_simp
         with_reducible rfl
        rotate_left
        ·simp only [Act.put, List.setIfInBounds_toArray, List.set_cons_zero, List.set_cons_succ, i64_w, i32_w]
         rfl
        refine take_ (i := 0) (N := some 17) (v := ?_) (a' := ?_) #[true, false, false, true, false, false, false] rfl rfl (by kernel_rfl) (fun _ _ _ h => h) (Or.inl ⟨by rfl, ?_⟩) hHeld ?_ ?_
        rotate_left
        ·rintro w' ⟨s0, s1, s2, s3, s4, s5, s6, s7, s8, s9, s10, s11, s12⟩
         go_simp
         with_reducible rfl
        rotate_left
        ·simp only [Act.put, List.setIfInBounds_toArray, List.set_cons_zero, List.set_cons_succ, i64_w, i32_w]
         rfl
        refine take_ (i := 1) (N := some 18) (v := ?_) (a' := ?_) #[true, true, false, true, false, false, false] rfl rfl (by kernel_rfl) (fun _ _ _ h => h) (Or.inl ⟨by rfl, ?_⟩) hHeld ?_ ?_
        rotate_left
        ·rintro w' ⟨s0, s1, s2, s3, s4, s5, s6, s7, s8, s9, s10, s11, s12⟩
         go_simp
         with_reducible rfl
        rotate_left
        ·simp only [Act.put, List.setIfInBounds_toArray, List.set_cons_zero, List.set_cons_succ, i64_w, i32_w]
         rfl
        refine take_ (i := 4) (N := some 21) (v := ?_) (a' := ?_) #[true, true, false, true, true, false, false] rfl rfl (by kernel_rfl) (fun _ _ _ h => h) (Or.inl ⟨by rfl, ?_⟩) hHeld ?_ ?_
        rotate_left
        ·rintro w' ⟨s0, s1, s2, s3, s4, s5, s6, s7, s8, s9, s10, s11, s12⟩
         go_simp
         with_reducible rfl
        rotate_left
        ·simp only [Act.put, List.setIfInBounds_toArray, List.set_cons_zero, List.set_cons_succ, i64_w, i32_w]
         rfl
        refine pure_ (i := 5) (N := some 22) (v := ?_) (a' := ?_) #[true, true, false, true, true, true, false] rfl rfl (by kernel_rfl) (fun _ _ _ h => h) (Or.inl ⟨by rfl, ?_⟩) ?_ ?_
        rotate_left
        ·intro w'
         go_simp
         with_reducible rfl
        rotate_left
        ·simp only [Act.put, List.setIfInBounds_toArray, List.set_cons_zero, List.set_cons_succ, i64_w, i32_w]
         rfl
        refine one_ (i := 2) (N := some 19) #[true, true, true, true, true, true, false] rfl rfl (by kernel_rfl) (by decide) (fun K hK => ?_)
        refine goes_ Try.func112 (by kernel_rfl) rfl #[.agg (csBay a0_0 a0_1 a0_2), .agg #[.int .i8 ((rd_T36 t357 x13_1).f0), .int .i8 ((rd_T36 t357 x13_1).f1)]] (by rfl) rfl rfl (by (try simp only [List.map_toArray, List.map_cons, List.map_nil]); first | done | rfl | (simp only [List.length_drop, List.length_take]; rfl)) ?_
        with_reducible refine (impl_depth.calls a0_0 a0_1 a0_2 ((rd_T36 t357 x13_1).f0) ((rd_T36 t357 x13_1).f1) t362 _ A16.out).mono ?_
        rintro e w25 ⟨rfl, hb⟩
        refine ⟨_, rfl, ?_⟩
        have n0_ := am (Kd.R_below (kr HO_5) hb)
        have n1_ := am (Kd.R_below (kr HO_11) hb)
        have n2_ := bB BK352 hb
        have n3_ := bB BK353 hb
        have n4_ := bB BK361 hb
        have n5_ := am (below_step (be HB) hb)
        clear HO_5
        clear HO_11
        clear BK352
        clear BK353
        clear BK361
        clear HB
        have HO_5 := n0_
        have HO_11 := n1_
        have BK352 := n2_
        have BK353 := n3_
        have BK361 := n4_
        have HB := n5_
        clear n0_ n1_ n2_ n3_ n4_ n5_
        (try clear hb)
        (try clear hb2)
        (try clear hk)
        (try clear hi)
        refine hK.out _ _ ⟨(blk_cell BK352.out 0).trans rfl, (blk_cell BK352.out 1).trans rfl, at_cells BK352.out, BayAt28_of BK352.out, lvv_of BK352.out, (blk_cell BK361.out 0).trans rfl, (blk_cell BK361.out 1).trans rfl, (blk_cell BK353.out 0).trans rfl, (blk_cell BK353.out 1).trans rfl, (blk_cell BK353.out 2).trans rfl, (blk_cell BK353.out 3).trans rfl, (blk_cell BK353.out 4).trans rfl, (blk_cell BK353.out 5).trans rfl⟩ (fun hHeld => ?_)
        clear hK K
        refine norm_ (a' := ?_) ?_ ?_
        rotate_left
        ·show Act.put _ (some 19) _ = _
         simp only [Act.put, List.setIfInBounds_toArray, List.set_cons_zero, List.set_cons_succ, i64_w, i32_w]
         rfl
        refine pure_ (i := 6) (N := some 23) (v := ?_) (a' := ?_) #[true, true, true, true, true, true, true] rfl rfl (by kernel_rfl) (fun _ _ _ h => h) (Or.inl ⟨by rfl, ?_⟩) ?_ ?_
        rotate_left
        ·intro w'
         go_simp
         with_reducible rfl
        rotate_left
        ·simp only [Act.put, List.setIfInBounds_toArray, List.set_cons_zero, List.set_cons_succ, i64_w, i32_w]
         rfl
        refine done_ (by kernel_rfl) ?_
        obtain ⟨hcz26_0, hcz26_1, hfz26_0, hfz26_1⟩ := bx2 BK361
        try go_wp2_with (first | ((with_reducible refine gate_builtin (b := .append) (xs := #[.tmp 24, .tmp 26]) rfl ?_); at_builtin; refine Kd.R_append k36 (w0 := w) w.heap.size rfl (.tmp 24) (.tmp 26) 56 36 (.agg #[(.int .i8 0), (.int .i8 0)]) 2 rfl Try.underlying56 info36 rfl (by decide) (by omega) u5 x5_1 (⟨(rd_T36 t357 x13_1).f0, (rd_T36 t357 x13_1).f1⟩ : S36) [.int .i8 ((rd_T36 t357 x13_1).f0), .int .i8 ((rd_T36 t357 x13_1).f1)] (fun k_ => some k_ ≠ (.slice (some ad360) t357.length co12 : Value).ownBlock ∧ k_ ≠ gb361) (fun _ => False) rfl rfl ?aP (fun _ hk => hk.elim) ?aF ?aO ?aB ?aS ?aL ?_; (case aP => exact k36_mkM _ _ _ (⟨(rd_T36 t357 x13_1).f0, (rd_T36 t357 x13_1).f1⟩ : S36)); (case aB => exact (be HB)); (case aF => exact (fun k_ hk => ⟨Kd.fresh' (Kd.R_lt (kr HO_11)) k_ hk, Kd.freshB (g := gb361) (o := .cells #[.int .i8 ((rd_T36 t357 x13_1).f0), .int .i8 ((rd_T36 t357 x13_1).f1)] 36 (0, 0)) (kb BK361) k_ hk⟩)); (case aO => exact (kr HO_5)); (case aS => exact (below_size (be HB))); (case aL => have := LMc18.out; omega); intro v364 w27 ho hb hg hat; rw [← Ny363.out] at ho; have HO365 := am (ho); replace HO_11 := am (Kd.R_after (ok := (fun k_ => k_ ≠ gb361)) (by (with_reducible repeat (first | apply Kd.R_alloc | apply Kd.R_drewN | apply Kd.R_drew)); exact Kd.R_mono HO_11.out (fun _ hk => ⟨hk.2, hk.1⟩)) hg hat); replace BK352 := am (blk_grown (g := gb352) (o := .cells (csBay a0_0 a0_1 a0_2) 28 (0, 0)) (kb BK352) hg (Kd.R_ne HO_5.out BK352.out (by decide))); replace BK353 := am (blk_grown (g := gb353) (o := .cells #[.int .i8 a1_0, .int .i8 a1_1, .int .i8 a1_2, .int .i8 a1_3, .int .i8 a1_4, .int .i8 a1_5] 38 (0, 0)) (kb BK353) hg (Kd.R_ne HO_5.out BK353.out (by decide))); replace BK361 := am (blk_grown (g := gb361) (o := .cells #[.int .i8 ((rd_T36 t357 x13_1).f0), .int .i8 ((rd_T36 t357 x13_1).f1)] 36 (0, 0)) (kb BK361) hg (Kd.R_away HO_5.out (fun _ hk => hk.2))); replace HB := am (hb); clear HO_5; clear ho hb hg hat))
        go_roundg k1
        case measure => have := HK1.out; omega
        case rel => exact ⟨(y363), (wrap64 (x13_1 + 1)), vv, H', ⟨by have := HK1.out; omega⟩, ⟨by (with_reducible repeat (first | apply Kd.R_alloc | apply Kd.R_drewN | apply Kd.R_drew)); exact Kd.R_mono HO365.out (fun _ hk => hk.1)⟩, ⟨by (with_reducible repeat (first | apply Kd.R_alloc | apply Kd.R_drewN | apply Kd.R_drew)); exact Kd.R_mono HO_11.out (fun _ hk => hk.2)⟩, ⟨kb BK352⟩, ⟨kb BK353⟩, ⟨be HB⟩⟩
       ·rw [if_neg c18] at H
        exact absurd H (by simp)
      ·rw [if_neg c17] at H
       have c17b0 : decide (t362 < (wrap64 (a1_4))) = false := decide_eq_false c17
       clear c17
       have H' := am H
       clear H
       have p360 : 0 ≤ (x13_1 : Int) := of_decide_eq_true (by first | (with_reducible assumption) | assumption)
       have q360 : x13_1 < (t357.length : Int) := of_decide_eq_true (by first | (with_reducible assumption) | assumption)
       obtain ⟨ad360, e360, hx360_0, hx360_1⟩ := at_T36 (Kd.R_reads' HO_11.out).2.2 x13_1 p360 q360
       cases e360
       replace p360 := eq_true p360
       replace q360 := eq_true q360
       try go_wp2_with (first | ((with_reducible refine gate_dst (N := 7) rfl ?_); refine bxe (N := 7) (cs := #[.int .i8 0, .int .i8 0]) (t := 36) ?_; intro gb361 hg w28 hbox hb; have BK361 := am (hbox); have GW361 := am (gN hg (below_size (be HB))); have GE361 := am (gN hg (below_size (be HB))); have NB352_361 := nL BK352 hg; have NB361_352 := nR BK352 hg; have NB353_361 := nL BK353 hg; have NB361_353 := nR BK353 hg; replace HO_5 := am (Kd.R_below (Kd.R_elderB (kr HO_5) gb361 (Nat.le_of_eq hg.symm)) hb); replace HO_11 := am (Kd.R_below (Kd.R_elderB (kr HO_11) gb361 (Nat.le_of_eq hg.symm)) hb); replace BK352 := bB BK352 hb; replace BK353 := bB BK353 hb; replace HB := am (below_step (be HB) hb); clear hb hbox hg; have hnb29 := NB361_352.out; have hnc29 := NB352_361.out; have hnb30 := NB361_353.out; have hnc30 := NB353_361.out; obtain ⟨hcz31_0, hcz31_1, hfz31_0, hfz31_1⟩ := bx2 BK361))
       have n0_ : Aside0 (Kd.R k36 36 ((w28.setCell ⟨gb361, 0, none⟩ (.int .i8 ((rd_T36 t357 x13_1).f0))).setCell ⟨gb361, 1, none⟩ (.int .i8 ((rd_T36 t357 x13_1).f1))) w.heap.size (fun k_ => some k_ ≠ (.slice (some ad360) t357.length co12 : Value).ownBlock ∧ k_ ≠ gb361) u5 x5_1) := ⟨by (with_reducible repeat (first | apply Kd.R_alloc | apply Kd.R_drewN | apply Kd.R_drew)); exact Kd.R_mono (Kd.R_far (p := ⟨gb361, 1, none⟩) (Kd.R_far (p := ⟨gb361, 0, none⟩) (Kd.R_mono HO_5.out (fun k_ hk => (⟨hk, hk.2⟩ : _ ∧ k_ ≠ gb361))) (fun _ hk => hk.2) (.int .i8 ((rd_T36 t357 x13_1).f0))) (fun _ hk => hk.2) (.int .i8 ((rd_T36 t357 x13_1).f1))) (fun _ hk => ⟨hk.1.1, hk.1.2⟩)⟩
       have n1_ : Aside0 (Kd.R k36 36 ((w28.setCell ⟨gb361, 0, none⟩ (.int .i8 ((rd_T36 t357 x13_1).f0))).setCell ⟨gb361, 1, none⟩ (.int .i8 ((rd_T36 t357 x13_1).f1))) w.heap.size (fun k_ => some k_ ≠ (u5 : Value).ownBlock ∧ k_ ≠ gb361) (.slice (some ad360) t357.length co12) t357) := ⟨by (with_reducible repeat (first | apply Kd.R_alloc | apply Kd.R_drewN | apply Kd.R_drew)); exact Kd.R_mono (Kd.R_far (p := ⟨gb361, 1, none⟩) (Kd.R_far (p := ⟨gb361, 0, none⟩) (Kd.R_mono HO_11.out (fun k_ hk => (⟨hk, hk.2⟩ : _ ∧ k_ ≠ gb361))) (fun _ hk => hk.2) (.int .i8 ((rd_T36 t357 x13_1).f0))) (fun _ hk => hk.2) (.int .i8 ((rd_T36 t357 x13_1).f1))) (fun _ hk => ⟨hk.1.1, hk.1.2⟩)⟩
       have n2_ : Aside0 (((w28.setCell ⟨gb361, 0, none⟩ (.int .i8 ((rd_T36 t357 x13_1).f0))).setCell ⟨gb361, 1, none⟩ (.int .i8 ((rd_T36 t357 x13_1).f1))).heap[gb352]? = some (.cells (csBay a0_0 a0_1 a0_2) 28 (0, 0))) := ⟨by (with_reducible repeat (first | refine blk_drewN ?_ _ | refine blk_drew ?_ | refine blk_alloc ?_ _)); refine blk_far ?_ NB352_361.out _; (with_reducible repeat (first | refine blk_drewN ?_ _ | refine blk_drew ?_ | refine blk_alloc ?_ _)); refine blk_far ?_ NB352_361.out _; exact kb BK352⟩
       have n3_ : Aside0 (((w28.setCell ⟨gb361, 0, none⟩ (.int .i8 ((rd_T36 t357 x13_1).f0))).setCell ⟨gb361, 1, none⟩ (.int .i8 ((rd_T36 t357 x13_1).f1))).heap[gb353]? = some (.cells #[.int .i8 a1_0, .int .i8 a1_1, .int .i8 a1_2, .int .i8 a1_3, .int .i8 a1_4, .int .i8 a1_5] 38 (0, 0))) := ⟨by (with_reducible repeat (first | refine blk_drewN ?_ _ | refine blk_drew ?_ | refine blk_alloc ?_ _)); refine blk_far ?_ NB353_361.out _; (with_reducible repeat (first | refine blk_drewN ?_ _ | refine blk_drew ?_ | refine blk_alloc ?_ _)); refine blk_far ?_ NB353_361.out _; exact kb BK353⟩
       have n4_ : Aside0 (((w28.setCell ⟨gb361, 0, none⟩ (.int .i8 ((rd_T36 t357 x13_1).f0))).setCell ⟨gb361, 1, none⟩ (.int .i8 ((rd_T36 t357 x13_1).f1))).heap[gb361]? = some (.cells #[.int .i8 ((rd_T36 t357 x13_1).f0), .int .i8 ((rd_T36 t357 x13_1).f1)] 36 (0, 0))) := ⟨by (with_reducible repeat (first | refine blk_drewN ?_ _ | refine blk_drew ?_ | refine blk_alloc ?_ _)); refine blk_put (cs := #[.int .i8 ((rd_T36 t357 x13_1).f0), .int .i8 0]) ?_ 1 _ rfl; (with_reducible repeat (first | refine blk_drewN ?_ _ | refine blk_drew ?_ | refine blk_alloc ?_ _)); refine blk_put (cs := #[.int .i8 0, .int .i8 0]) ?_ 0 _ rfl; exact kb BK361⟩
       have n5_ : Aside0 (Below w.heap.size w ((w28.setCell ⟨gb361, 0, none⟩ (.int .i8 ((rd_T36 t357 x13_1).f0))).setCell ⟨gb361, 1, none⟩ (.int .i8 ((rd_T36 t357 x13_1).f1)))) := ⟨be HB⟩
       (try clear HO_5)
       (try clear HO_11)
       (try clear BK352)
       (try clear BK353)
       (try clear BK361)
       (try clear HB)
       generalize ((w28.setCell ⟨gb361, 0, none⟩ (.int .i8 ((rd_T36 t357 x13_1).f0))).setCell ⟨gb361, 1, none⟩ (.int .i8 ((rd_T36 t357 x13_1).f1))) = w32 at n0_ n1_ n2_ n3_ n4_ n5_ ⊢
       have HO_5 := n0_
       have HO_11 := n1_
       have BK352 := n2_
       have BK353 := n3_
       have BK361 := n4_
       have HB := n5_
       clear n0_ n1_ n2_ n3_ n4_ n5_
       have n0_ := am (Kd.R_drew HO_5.out)
       have n1_ := am (Kd.R_drew HO_11.out)
       have n2_ := am (blk_drew BK352.out)
       have n3_ := am (blk_drew BK353.out)
       have n4_ := am (blk_drew BK361.out)
       have n5_ := am (below_drew1 HB.out)
       clear HO_5
       clear HO_11
       clear BK352
       clear BK353
       clear BK361
       clear HB
       have HO_5 := n0_
       have HO_11 := n1_
       have BK352 := n2_
       have BK353 := n3_
       have BK361 := n4_
       have HB := n5_
       clear n0_ n1_ n2_ n3_ n4_ n5_
       refine start_ (n := 7) (S := fun w' => w'.cell? ⟨gb352, 0, none⟩ = some (.int .i8 a0_0) ∧ w'.cell? ⟨gb352, 1, none⟩ = some (.int .i8 a0_1) ∧ atCells w' gb352 a0_2 ∧ BayAt28 w' gb352 ∧ lvv w' gb352 = .agg (csBay a0_0 a0_1 a0_2) ∧ w'.cell? ⟨gb361, 0, none⟩ = some (.int .i8 ((rd_T36 t357 x13_1).f0)) ∧ w'.cell? ⟨gb361, 1, none⟩ = some (.int .i8 ((rd_T36 t357 x13_1).f1)) ∧ w'.cell? ⟨gb353, 0, none⟩ = some (.int .i8 a1_0) ∧ w'.cell? ⟨gb353, 1, none⟩ = some (.int .i8 a1_1) ∧ w'.cell? ⟨gb353, 2, none⟩ = some (.int .i8 a1_2) ∧ w'.cell? ⟨gb353, 3, none⟩ = some (.int .i8 a1_3) ∧ w'.cell? ⟨gb353, 4, none⟩ = some (.int .i8 a1_4) ∧ w'.cell? ⟨gb353, 5, none⟩ = some (.int .i8 a1_5)) (ds := []) #[false, false, false, false, false, false, false] (by kernel_rfl) rfl rfl ⟨(blk_cell BK352.out 0).trans rfl, (blk_cell BK352.out 1).trans rfl, at_cells BK352.out, BayAt28_of BK352.out, lvv_of BK352.out, (blk_cell BK361.out 0).trans rfl, (blk_cell BK361.out 1).trans rfl, (blk_cell BK353.out 0).trans rfl, (blk_cell BK353.out 1).trans rfl, (blk_cell BK353.out 2).trans rfl, (blk_cell BK353.out 3).trans rfl, (blk_cell BK353.out 4).trans rfl, (blk_cell BK353.out 5).trans rfl⟩ (fun hHeld => ?_)
       generalize w32.drew = w33 at HO_5 HO_11 BK352 BK353 BK361 HB hHeld ⊢
       refine pure_ (i := 3) (N := some 20) (v := ?_) (a' := ?_) #[false, false, false, true, false, false, false] rfl rfl (by kernel_rfl) (fun _ _ _ h => h) (Or.inl ⟨by rfl, ?_⟩) ?_ ?_
       rotate_left
       ·intro w'
        go_simp
        with_reducible rfl
       rotate_left
       ·simp only [Act.put, List.setIfInBounds_toArray, List.set_cons_zero, List.set_cons_succ, i64_w, i32_w]
        rfl
       refine take_ (i := 0) (N := some 17) (v := ?_) (a' := ?_) #[true, false, false, true, false, false, false] rfl rfl (by kernel_rfl) (fun _ _ _ h => h) (Or.inl ⟨by rfl, ?_⟩) hHeld ?_ ?_
       rotate_left
       ·rintro w' ⟨s0, s1, s2, s3, s4, s5, s6, s7, s8, s9, s10, s11, s12⟩
        go_simp
        with_reducible rfl
       rotate_left
       ·simp only [Act.put, List.setIfInBounds_toArray, List.set_cons_zero, List.set_cons_succ, i64_w, i32_w]
        rfl
       refine take_ (i := 1) (N := some 18) (v := ?_) (a' := ?_) #[true, true, false, true, false, false, false] rfl rfl (by kernel_rfl) (fun _ _ _ h => h) (Or.inl ⟨by rfl, ?_⟩) hHeld ?_ ?_
       rotate_left
       ·rintro w' ⟨s0, s1, s2, s3, s4, s5, s6, s7, s8, s9, s10, s11, s12⟩
        go_simp
        with_reducible rfl
       rotate_left
       ·simp only [Act.put, List.setIfInBounds_toArray, List.set_cons_zero, List.set_cons_succ, i64_w, i32_w]
        rfl
       refine take_ (i := 4) (N := some 21) (v := ?_) (a' := ?_) #[true, true, false, true, true, false, false] rfl rfl (by kernel_rfl) (fun _ _ _ h => h) (Or.inl ⟨by rfl, ?_⟩) hHeld ?_ ?_
       rotate_left
       ·rintro w' ⟨s0, s1, s2, s3, s4, s5, s6, s7, s8, s9, s10, s11, s12⟩
        go_simp
        with_reducible rfl
       rotate_left
       ·simp only [Act.put, List.setIfInBounds_toArray, List.set_cons_zero, List.set_cons_succ, i64_w, i32_w]
        rfl
       refine pure_ (i := 5) (N := some 22) (v := ?_) (a' := ?_) #[true, true, false, true, true, true, false] rfl rfl (by kernel_rfl) (fun _ _ _ h => h) (Or.inl ⟨by rfl, ?_⟩) ?_ ?_
       rotate_left
       ·intro w'
        go_simp
        with_reducible rfl
       rotate_left
       ·simp only [Act.put, List.setIfInBounds_toArray, List.set_cons_zero, List.set_cons_succ, i64_w, i32_w]
        rfl
       refine one_ (i := 2) (N := some 19) #[true, true, true, true, true, true, false] rfl rfl (by kernel_rfl) (by decide) (fun K hK => ?_)
       refine goes_ Try.func112 (by kernel_rfl) rfl #[.agg (csBay a0_0 a0_1 a0_2), .agg #[.int .i8 ((rd_T36 t357 x13_1).f0), .int .i8 ((rd_T36 t357 x13_1).f1)]] (by rfl) rfl rfl (by (try simp only [List.map_toArray, List.map_cons, List.map_nil]); first | done | rfl | (simp only [List.length_drop, List.length_take]; rfl)) ?_
       with_reducible refine (impl_depth.calls a0_0 a0_1 a0_2 ((rd_T36 t357 x13_1).f0) ((rd_T36 t357 x13_1).f1) t362 _ A16.out).mono ?_
       rintro e w34 ⟨rfl, hb⟩
       refine ⟨_, rfl, ?_⟩
       have n0_ := am (Kd.R_below (kr HO_5) hb)
       have n1_ := am (Kd.R_below (kr HO_11) hb)
       have n2_ := bB BK352 hb
       have n3_ := bB BK353 hb
       have n4_ := bB BK361 hb
       have n5_ := am (below_step (be HB) hb)
       clear HO_5
       clear HO_11
       clear BK352
       clear BK353
       clear BK361
       clear HB
       have HO_5 := n0_
       have HO_11 := n1_
       have BK352 := n2_
       have BK353 := n3_
       have BK361 := n4_
       have HB := n5_
       clear n0_ n1_ n2_ n3_ n4_ n5_
       (try clear hb)
       (try clear hb2)
       (try clear hk)
       (try clear hi)
       refine hK.out _ _ ⟨(blk_cell BK352.out 0).trans rfl, (blk_cell BK352.out 1).trans rfl, at_cells BK352.out, BayAt28_of BK352.out, lvv_of BK352.out, (blk_cell BK361.out 0).trans rfl, (blk_cell BK361.out 1).trans rfl, (blk_cell BK353.out 0).trans rfl, (blk_cell BK353.out 1).trans rfl, (blk_cell BK353.out 2).trans rfl, (blk_cell BK353.out 3).trans rfl, (blk_cell BK353.out 4).trans rfl, (blk_cell BK353.out 5).trans rfl⟩ (fun hHeld => ?_)
       clear hK K
       refine norm_ (a' := ?_) ?_ ?_
       rotate_left
       ·show Act.put _ (some 19) _ = _
        simp only [Act.put, List.setIfInBounds_toArray, List.set_cons_zero, List.set_cons_succ, i64_w, i32_w]
        rfl
       refine pure_ (i := 6) (N := some 23) (v := ?_) (a' := ?_) #[true, true, true, true, true, true, true] rfl rfl (by kernel_rfl) (fun _ _ _ h => h) (Or.inl ⟨by rfl, ?_⟩) ?_ ?_
       rotate_left
       ·intro w'
        go_simp
        with_reducible rfl
       rotate_left
       ·simp only [Act.put, List.setIfInBounds_toArray, List.set_cons_zero, List.set_cons_succ, i64_w, i32_w]
        rfl
       refine done_ (by kernel_rfl) ?_
       try go_wp2
       go_roundg k1
       case measure => have := HK1.out; omega
       case rel => exact ⟨(x5_1), (wrap64 (x13_1 + 1)), vv, H', ⟨by have := HK1.out; omega⟩, ⟨by (with_reducible repeat (first | apply Kd.R_alloc | apply Kd.R_drewN | apply Kd.R_drew)); exact Kd.R_mono HO_5.out (fun _ hk => hk.1)⟩, ⟨by (with_reducible repeat (first | apply Kd.R_alloc | apply Kd.R_drewN | apply Kd.R_drew)); exact Kd.R_mono HO_11.out (fun _ hk => hk.1)⟩, ⟨kb BK352⟩, ⟨kb BK353⟩, ⟨be HB⟩⟩
     ·rw [if_neg c15] at H
      exact absurd H (by simp)
    ·rw [if_neg c14] at H
     exact absurd H (by simp)
   ·rw [if_neg c13] at H
    have c13b0 : decide (x13_1 < (t357.length : Int)) = false := decide_eq_false c13
    clear c13
    obtain rfl := Option.some.inj H
    go_wp2
    go_ret
    exact ⟨_, by first | rfl | (simp [errW_none, errW_some] <;> rfl) | (simp [*, errW_none, errW_some] <;> rfl), by (with_reducible repeat (first | apply Kd.R_alloc | apply Kd.R_drewN | apply Kd.R_drew)); exact Kd.R_mono HO_5.out (fun _ hk => trivial), be HB⟩

end Go.Proofs.Ytcollbifdfhfoaa.PFnExactPlacesFor
