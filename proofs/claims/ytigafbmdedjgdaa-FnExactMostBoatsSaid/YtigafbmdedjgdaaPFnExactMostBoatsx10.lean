-- Written by a program out of this seat's translation (functions, and that the code comes to them).
import Derived.Test.YtigafbmdedjgdaaPFnExactMostBoatsx0
import Derived.Test.YtigafbmdedjgdaaPFnExactMostBoatsx8
import Derived.Test.YtigafbmdedjgdaaPFnExactMostBoatsx9
namespace Go.Proofs.Ytigafbmdedjgdaa.PFnExactMostBoats
open Go.RowKit Go.Proofs.YtigafbmdedjgdaaW.PrintWords Go.Proofs.YtigafbmdedjgdaaW.PrintLast Go.Proofs.YtigafbmdedjgdaaW.PrintMore
attribute [local go_sem] max2_int min2_int max_two min_two max_three min_three max_four min_four   -- for this text's walks alone
open Go.Proofs.Ytigafbmdedjgdaa.Bay Go.Proofs.Ytigafbmdedjgdaa.Short
attribute [local go_sem ↓] lv26_eq lv32_eq
attribute [local go_sem] lvv_set lvv_drewN lvv_drew lv26_run BayAt26_set BayAt26_drewN BayAt26_drew lv32_run BayAt32_set BayAt32_drewN BayAt32_drew
set_option linter.unusedVariables false
set_option linter.unusedSimpArgs false

/-! ### impl_safe: function 30 -/
def impl_safe.f (k : Nat) (a0_0 : Int) (a0_1 : Int) (a0_2 : (Nat → Int)) (a1_0 : Int) (a1_1 : Int) (a1_2 : Int) (a1_3 : Int) (a1_4 : Int) (a1_5 : Int) : Option (Bool) := (impl_reachOf.f k a0_0 a0_1 a0_2 a1_0 a1_1 a1_2 a1_3 a1_4 a1_5).bind fun t331 => (if t331 < 0 then (some false) else ((impl_swingOf.f k a0_0 a0_1 a0_2 a1_0 a1_1 a1_2 a1_3 a1_4 a1_5).bind fun t332 => (if (wrap64 ((wrap64 (a1_0)) - t332)) ≥ 0 then (if (wrap64 ((wrap64 (a1_0)) + t332)) < (wrap64 (a0_0)) then (if (wrap64 ((wrap64 (a1_1)) - t332)) ≥ 0 then (if (wrap64 ((wrap64 (a1_1)) + t332)) < (wrap64 (a0_1)) then ((impl_shoals.f k a0_0 a0_1 a0_2 a1_0 a1_1 a1_2 a1_3 a1_4 a1_5).bind fun t333 => (some ((t333.length : Int) == 0))) else (some false)) else (some false)) else (some false)) else (some false))))
def impl_safe.T3 : Bool × List (List Nat × List Nat) := (true, [([], []), ([], []), ([0, 1], [0, 1]), ([], []), ([3], [3]), ([4], [4]), ([5], [5]), ([], []), ([7], [7]), ([8], [8]), ([9], [9]), ([2, 2, 0, 1, 2], [2]), ([6, 11, 0, 1, 2, 3, 4, 5, 6, 11], [6]), ([10, 12, 0, 1, 2, 3, 4, 5, 6, 7, 8, 9, 10, 11, 12], [10])])
def impl_safe.B3 : List Nat := [0, 0, 3, 0, 8, 24, 56, 0, 128, 384, 896, 7, 2175, 8191]
theorem impl_safe.tab3 : rtab .any (opsOf Try.f30 3) = impl_safe.T3 := by kernel_rfl
theorem impl_safe.bits3 : waitsOk impl_safe.T3.2 impl_safe.B3 = true := by kernel_rfl
set_option maxHeartbeats 8000000 in
set_option maxRecDepth 100000 in
theorem impl_safe.calls (k : Nat) (a0_0 : Int) (a0_1 : Int) (a0_2 : (Nat → Int)) (a1_0 : Int) (a1_1 : Int) (a1_2 : Int) (a1_3 : Int) (a1_4 : Int) (a1_5 : Int) (r : Bool) (w : World) (h : impl_safe.f k a0_0 a0_1 a0_2 a1_0 a1_1 a1_2 a1_3 a1_4 a1_5 = some r) :
  Calls Try.prog 30 #[.agg (csBay a0_0 a0_1 a0_2), .agg #[.int .i8 a1_0, .int .i8 a1_1, .int .i8 a1_2, .int .i8 a1_3, .int .i8 a1_4, .int .i8 a1_5]] w fun e w' => e = .returned (.bool r) ∧ Below w.heap.size w w' := by
 have hu32 := Try.underlying32
 have hu48 := Try.underlying48
 have HB := am (Below.refl w.heap.size w)
 have H : ((impl_reachOf.f k a0_0 a0_1 a0_2 a1_0 a1_1 a1_2 a1_3 a1_4 a1_5).bind fun t331 => (if t331 < 0 then (some false) else ((impl_swingOf.f k a0_0 a0_1 a0_2 a1_0 a1_1 a1_2 a1_3 a1_4 a1_5).bind fun t332 => (if (wrap64 ((wrap64 (a1_0)) - t332)) ≥ 0 then (if (wrap64 ((wrap64 (a1_0)) + t332)) < (wrap64 (a0_0)) then (if (wrap64 ((wrap64 (a1_1)) - t332)) ≥ 0 then (if (wrap64 ((wrap64 (a1_1)) + t332)) < (wrap64 (a0_1)) then ((impl_shoals.f k a0_0 a0_1 a0_2 a1_0 a1_1 a1_2 a1_3 a1_4 a1_5).bind fun t333 => (some ((t333.length : Int) == 0))) else (some false)) else (some false)) else (some false)) else (some false))))) = some r := h
 clear h
 replace H := Option.bind_eq_some_iff.mp H
 obtain ⟨t331, A30, H⟩ := H
 try dsimp only at H
 have A3 := am A30
 clear A30
 by_cases c4 : t331 < 0
 ·rw [if_pos c4] at H
  have c4b0 : decide (t331 < 0) = true := decide_eq_true c4
  clear c4
  obtain rfl := Option.some.inj H
  go_enter Try.func30, Try.ntmps30
  go_wp2_with (first | ((with_reducible refine gate_dst (N := 2) rfl ?_); (try (refine gate_guard (by rfl) ?_; dsimp only)); refine bxe (N := 2) (cs := (csBay a0_0 a0_1 a0_2)) (t := 32) ?_; intro gb329 hg w5 hbox hb; have BK329 := am (hbox); have GW329 := am (gN hg (below_size (be HB))); have GE329 := am (gN hg (below_size (be HB))); replace HB := am (below_step (be HB) hb); clear hb hbox hg) | ((with_reducible refine gate_dst (N := 3) rfl ?_); (try (refine gate_guard (by rfl) ?_; dsimp only)); refine bxe (N := 3) (cs := #[.int .i8 a1_0, .int .i8 a1_1, .int .i8 a1_2, .int .i8 a1_3, .int .i8 a1_4, .int .i8 a1_5]) (t := 48) ?_; intro gb330 hg w6 hbox hb; have BK330 := am (hbox); have GW330 := am (gN hg (below_size (be HB))); have GE330 := am (gN hg (below_size (be HB))); have NB329_330 := nL BK329 hg; have NB330_329 := nR BK329 hg; replace BK329 := bB BK329 hb; replace HB := am (below_step (be HB) hb); clear hb hbox hg; have hnb7 := NB329_330.out; have hnc7 := NB330_329.out; obtain ⟨hcz8_0, hcz8_1, hwz8, haz8, hyz8, hvz8, hfz8_0, hfz8_1, hfz8_2⟩ := bb32 BK329; obtain ⟨hcz9_0, hcz9_1, hcz9_2, hcz9_3, hcz9_4, hcz9_5, hfz9_0, hfz9_1, hfz9_2, hfz9_3, hfz9_4, hfz9_5⟩ := bx6 BK330) | ((with_reducible refine gate_callee (f := 39) rfl ?_); refine gL (some 10) Try.func39 #[.agg (csBay a0_0 a0_1 a0_2), .agg #[.int .i8 a1_0, .int .i8 a1_1, .int .i8 a1_2, .int .i8 a1_3, .int .i8 a1_4, .int .i8 a1_5]] ?_; (with_reducible refine (impl_reachOf.calls k a0_0 a0_1 a0_2 a1_0 a1_1 a1_2 a1_3 a1_4 a1_5 t331 _ A3.out).mono ?_); rintro e w10 ⟨rfl, hb⟩; refine ⟨_, rfl, ?_⟩; replace BK329 := bB BK329 hb; replace BK330 := bB BK330 hb; replace HB := am (below_step (be HB) hb); (try clear hb); (try clear hb2); (try clear hk); (try clear hi)))
  go_ret
  exact ⟨by first | rfl | (simp [errW_none, errW_some] <;> rfl) | (simp [*, errW_none, errW_some] <;> rfl), be HB⟩
 ·rw [if_neg c4] at H
  have c4b0 : decide (t331 < 0) = false := decide_eq_false c4
  clear c4
  replace H := Option.bind_eq_some_iff.mp H
  obtain ⟨t332, A110, H⟩ := H
  try dsimp only at H
  have A11 := am A110
  clear A110
  by_cases c12 : (wrap64 ((wrap64 (a1_0)) - t332)) ≥ 0
  ·rw [if_pos c12] at H
   have c12b0 : decide (0 ≤ (wrap64 ((wrap64 (a1_0)) - t332))) = true := decide_eq_true c12
   have c12b1 : 0 ≤ (wrap64 ((wrap64 (a1_0)) - t332)) := c12
   clear c12
   by_cases c13 : (wrap64 ((wrap64 (a1_0)) + t332)) < (wrap64 (a0_0))
   ·rw [if_pos c13] at H
    have c13b0 : decide ((wrap64 ((wrap64 (a1_0)) + t332)) < (wrap64 (a0_0))) = true := decide_eq_true c13
    clear c13
    by_cases c14 : (wrap64 ((wrap64 (a1_1)) - t332)) ≥ 0
    ·rw [if_pos c14] at H
     have c14b0 : decide (0 ≤ (wrap64 ((wrap64 (a1_1)) - t332))) = true := decide_eq_true c14
     have c14b1 : 0 ≤ (wrap64 ((wrap64 (a1_1)) - t332)) := c14
     clear c14
     by_cases c15 : (wrap64 ((wrap64 (a1_1)) + t332)) < (wrap64 (a0_1))
     ·rw [if_pos c15] at H
      have c15b0 : decide ((wrap64 ((wrap64 (a1_1)) + t332)) < (wrap64 (a0_1))) = true := decide_eq_true c15
      clear c15
      replace H := Option.bind_eq_some_iff.mp H
      obtain ⟨t333, A160, H⟩ := H
      try dsimp only at H
      have A16 := am A160
      clear A160
      obtain rfl := Option.some.inj H
      go_enter Try.func30, Try.ntmps30
      try go_wp2_with (first | ((with_reducible refine gate_dst (N := 2) rfl ?_); (try (refine gate_guard (by rfl) ?_; dsimp only)); refine bxe (N := 2) (cs := (csBay a0_0 a0_1 a0_2)) (t := 32) ?_; intro gb329 hg w17 hbox hb; have BK329 := am (hbox); have GW329 := am (gN hg (below_size (be HB))); have GE329 := am (gN hg (below_size (be HB))); replace HB := am (below_step (be HB) hb); clear hb hbox hg) | ((with_reducible refine gate_dst (N := 3) rfl ?_); (try (refine gate_guard (by rfl) ?_; dsimp only)); refine bxe (N := 3) (cs := #[.int .i8 a1_0, .int .i8 a1_1, .int .i8 a1_2, .int .i8 a1_3, .int .i8 a1_4, .int .i8 a1_5]) (t := 48) ?_; intro gb330 hg w18 hbox hb; have BK330 := am (hbox); have GW330 := am (gN hg (below_size (be HB))); have GE330 := am (gN hg (below_size (be HB))); have NB329_330 := nL BK329 hg; have NB330_329 := nR BK329 hg; replace BK329 := bB BK329 hb; replace HB := am (below_step (be HB) hb); clear hb hbox hg; have hnb19 := NB329_330.out; have hnc19 := NB330_329.out; obtain ⟨hcz20_0, hcz20_1, hwz20, haz20, hyz20, hvz20, hfz20_0, hfz20_1, hfz20_2⟩ := bb32 BK329; obtain ⟨hcz21_0, hcz21_1, hcz21_2, hcz21_3, hcz21_4, hcz21_5, hfz21_0, hfz21_1, hfz21_2, hfz21_3, hfz21_4, hfz21_5⟩ := bx6 BK330) | ((with_reducible refine gate_callee (f := 39) rfl ?_); refine gL (some 10) Try.func39 #[.agg (csBay a0_0 a0_1 a0_2), .agg #[.int .i8 a1_0, .int .i8 a1_1, .int .i8 a1_2, .int .i8 a1_3, .int .i8 a1_4, .int .i8 a1_5]] ?_; (with_reducible refine (impl_reachOf.calls k a0_0 a0_1 a0_2 a1_0 a1_1 a1_2 a1_3 a1_4 a1_5 t331 _ A3.out).mono ?_); rintro e w22 ⟨rfl, hb⟩; refine ⟨_, rfl, ?_⟩; replace BK329 := bB BK329 hb; replace BK330 := bB BK330 hb; replace HB := am (below_step (be HB) hb); (try clear hb); (try clear hb2); (try clear hk); (try clear hi)))
      have n0_ := am (blk_drew BK329.out)
      have n1_ := am (blk_drew BK330.out)
      have n2_ := am (below_drew1 HB.out)
      clear BK329
      clear BK330
      clear HB
      have BK329 := n0_
      have BK330 := n1_
      have HB := n2_
      clear n0_ n1_ n2_
      refine start_ (n := 14) (S := fun w' => w'.cell? ⟨gb329, 0, none⟩ = some (.int .i8 a0_0) ∧ w'.cell? ⟨gb329, 1, none⟩ = some (.int .i8 a0_1) ∧ atCells w' gb329 a0_2 ∧ BayAt32 w' gb329 ∧ lvv w' gb329 = .agg (csBay a0_0 a0_1 a0_2) ∧ w'.cell? ⟨gb330, 0, none⟩ = some (.int .i8 a1_0) ∧ w'.cell? ⟨gb330, 1, none⟩ = some (.int .i8 a1_1) ∧ w'.cell? ⟨gb330, 2, none⟩ = some (.int .i8 a1_2) ∧ w'.cell? ⟨gb330, 3, none⟩ = some (.int .i8 a1_3) ∧ w'.cell? ⟨gb330, 4, none⟩ = some (.int .i8 a1_4) ∧ w'.cell? ⟨gb330, 5, none⟩ = some (.int .i8 a1_5)) (ds := []) #[false, false, false, false, false, false, false, false, false, false, false, false, false, false] (by kernel_rfl) rfl rfl ⟨(blk_cell BK329.out 0).trans rfl, (blk_cell BK329.out 1).trans rfl, at_cells BK329.out, BayAt32_of BK329.out, lvv_of BK329.out, (blk_cell BK330.out 0).trans rfl, (blk_cell BK330.out 1).trans rfl, (blk_cell BK330.out 2).trans rfl, (blk_cell BK330.out 3).trans rfl, (blk_cell BK330.out 4).trans rfl, (blk_cell BK330.out 5).trans rfl⟩ (fun hHeld => ?_); refine with_tabW impl_safe.tab3 impl_safe.bits3 (fun HT_ HW_ => ?_)
      generalize w22.drew = w23 at BK329 BK330 HB hHeld ⊢
      refine pS (i := 3) (some 15) #[false, false, false, true, false, false, false, false, false, false, false, false, false, false] (any_of HT_.out (by kernel_rfl)) ?_
      refine pS (i := 4) (some 16) #[false, false, false, true, true, false, false, false, false, false, false, false, false, false] (any_of HT_.out (by kernel_rfl)) ?_
      refine pS (i := 7) (some 19) #[false, false, false, true, true, false, false, true, false, false, false, false, false, false] (any_of HT_.out (by kernel_rfl)) ?_
      refine pS (i := 8) (some 20) #[false, false, false, true, true, false, false, true, true, false, false, false, false, false] (any_of HT_.out (by kernel_rfl)) ?_
      refine tS (i := 0) (some 12) #[true, false, false, true, true, false, false, true, true, false, false, false, false, false] (take_ofW HT_.out HW_.out (by kernel_rfl)) hHeld ?_
      refine tS (i := 1) (some 13) #[true, true, false, true, true, false, false, true, true, false, false, false, false, false] (take_ofW HT_.out HW_.out (by kernel_rfl)) hHeld ?_
      refine tS (i := 5) (some 17) #[true, true, false, true, true, true, false, true, true, false, false, false, false, false] (take_ofW HT_.out HW_.out (by kernel_rfl)) hHeld ?_
      refine pS (i := 6) (some 18) #[true, true, false, true, true, true, true, true, true, false, false, false, false, false] (any_of HT_.out (by kernel_rfl)) ?_
      refine tS (i := 9) (some 21) #[true, true, false, true, true, true, true, true, true, true, false, false, false, false] (take_ofW HT_.out HW_.out (by kernel_rfl)) hHeld ?_
      refine pS (i := 10) (some 22) #[true, true, false, true, true, true, true, true, true, true, true, false, false, false] (any_of HT_.out (by kernel_rfl)) ?_
      refine one_ (i := 2) (N := some 14) #[true, true, true, true, true, true, true, true, true, true, true, false, false, false] rfl rfl (one_of HT_.out (by kernel_rfl)) (by decide) (fun K hK => ?_)
      refine goes_ Try.func40 (by kernel_rfl) rfl #[.agg (csBay a0_0 a0_1 a0_2), .agg #[.int .i8 a1_0, .int .i8 a1_1, .int .i8 a1_2, .int .i8 a1_3, .int .i8 a1_4, .int .i8 a1_5]] (by rfl) rfl rfl (by (try simp only [List.map_toArray, List.map_cons, List.map_nil]); first | done | rfl | (simp only [List.length_drop, List.length_take]; rfl)) ?_
      with_reducible refine (impl_swingOf.calls k a0_0 a0_1 a0_2 a1_0 a1_1 a1_2 a1_3 a1_4 a1_5 t332 _ A11.out).mono ?_
      rintro e w24 ⟨rfl, hb⟩
      refine ⟨_, rfl, ?_⟩
      have n0_ := bB BK329 hb
      have n1_ := bB BK330 hb
      have n2_ := am (below_step (be HB) hb)
      clear BK329
      clear BK330
      clear HB
      have BK329 := n0_
      have BK330 := n1_
      have HB := n2_
      clear n0_ n1_ n2_
      (try clear hb)
      (try clear hb2)
      (try clear hk)
      (try clear hi)
      refine hK.out _ _ ⟨(blk_cell BK329.out 0).trans rfl, (blk_cell BK329.out 1).trans rfl, at_cells BK329.out, BayAt32_of BK329.out, lvv_of BK329.out, (blk_cell BK330.out 0).trans rfl, (blk_cell BK330.out 1).trans rfl, (blk_cell BK330.out 2).trans rfl, (blk_cell BK330.out 3).trans rfl, (blk_cell BK330.out 4).trans rfl, (blk_cell BK330.out 5).trans rfl⟩ (fun hHeld => ?_)
      clear hK K
      refine norm_ (a' := ?_) ?_ ?_
      rotate_left
      ·show Act.put _ (some 14) _ = _
       simp only [Act.put, List.setIfInBounds_toArray, List.set_cons_zero, List.set_cons_succ, i64_w, i32_w]
       rfl
      refine pS (i := 11) (some 5) #[true, true, true, true, true, true, true, true, true, true, true, true, false, false] (any_of HT_.out (by kernel_rfl)) ?_
      refine pS (i := 12) (some 6) #[true, true, true, true, true, true, true, true, true, true, true, true, true, false] (any_of HT_.out (by kernel_rfl)) ?_
      refine pS (i := 13) (some 7) #[true, true, true, true, true, true, true, true, true, true, true, true, true, true] (any_of HT_.out (by kernel_rfl)) ?_
      refine done_ (done_of HT_.out (by kernel_rfl)) ?_
      have hcz25_0 : w24.cell? ⟨gb329, 0, none⟩ = some (.int .i8 a0_0) := (blk_cell BK329.out 0).trans rfl
      have hcz25_1 : w24.cell? ⟨gb329, 1, none⟩ = some (.int .i8 a0_1) := (blk_cell BK329.out 1).trans rfl
      have hwz25 := lv32_at BK329.out; have haz25 := at_cells BK329.out; have hyz25 := BayAt32_of BK329.out; have hvz25 := lvv_of BK329.out
      have hfz25_0 := blk_frozen BK329.out 0
      have hfz25_1 := blk_frozen BK329.out 1
      have hfz25_2 := blk_frozen BK329.out 2
      obtain ⟨hcz26_0, hcz26_1, hcz26_2, hcz26_3, hcz26_4, hcz26_5, hfz26_0, hfz26_1, hfz26_2, hfz26_3, hfz26_4, hfz26_5⟩ := bx6 BK330
      try go_wp2_with (first | (go_at_call 41; (with_reducible refine (impl_shoals.calls k a0_0 a0_1 a0_2 a1_0 a1_1 a1_2 a1_3 a1_4 a1_5 t333 _ A16.out).mono ?_); rintro e w27 ⟨v334, rfl, ho0, hb⟩; have HO335 := am (Kd.R_lower ho0 (below_size (be HB))); replace BK329 := bB BK329 hb; replace BK330 := bB BK330 hb; replace HB := am (below_step (be HB) hb); (try clear hb); (try clear hb2); (try clear hk); (try clear hi); (try clear ho0); obtain ⟨Ao28, co28, eo28⟩ := Kd.R_slice HO335.out; subst eo28))
      go_ret
      exact ⟨by first | rfl | (simp [errW_none, errW_some] <;> rfl) | (simp [*, errW_none, errW_some] <;> rfl), be HB⟩
     ·rw [if_neg c15] at H
      have c15b0 : decide ((wrap64 ((wrap64 (a1_1)) + t332)) < (wrap64 (a0_1))) = false := decide_eq_false c15
      clear c15
      obtain rfl := Option.some.inj H
      go_enter Try.func30, Try.ntmps30
      try go_wp2_with (first | ((with_reducible refine gate_dst (N := 2) rfl ?_); (try (refine gate_guard (by rfl) ?_; dsimp only)); refine bxe (N := 2) (cs := (csBay a0_0 a0_1 a0_2)) (t := 32) ?_; intro gb329 hg w29 hbox hb; have BK329 := am (hbox); have GW329 := am (gN hg (below_size (be HB))); have GE329 := am (gN hg (below_size (be HB))); replace HB := am (below_step (be HB) hb); clear hb hbox hg) | ((with_reducible refine gate_dst (N := 3) rfl ?_); (try (refine gate_guard (by rfl) ?_; dsimp only)); refine bxe (N := 3) (cs := #[.int .i8 a1_0, .int .i8 a1_1, .int .i8 a1_2, .int .i8 a1_3, .int .i8 a1_4, .int .i8 a1_5]) (t := 48) ?_; intro gb330 hg w30 hbox hb; have BK330 := am (hbox); have GW330 := am (gN hg (below_size (be HB))); have GE330 := am (gN hg (below_size (be HB))); have NB329_330 := nL BK329 hg; have NB330_329 := nR BK329 hg; replace BK329 := bB BK329 hb; replace HB := am (below_step (be HB) hb); clear hb hbox hg; have hnb31 := NB329_330.out; have hnc31 := NB330_329.out; obtain ⟨hcz32_0, hcz32_1, hwz32, haz32, hyz32, hvz32, hfz32_0, hfz32_1, hfz32_2⟩ := bb32 BK329; obtain ⟨hcz33_0, hcz33_1, hcz33_2, hcz33_3, hcz33_4, hcz33_5, hfz33_0, hfz33_1, hfz33_2, hfz33_3, hfz33_4, hfz33_5⟩ := bx6 BK330) | ((with_reducible refine gate_callee (f := 39) rfl ?_); refine gL (some 10) Try.func39 #[.agg (csBay a0_0 a0_1 a0_2), .agg #[.int .i8 a1_0, .int .i8 a1_1, .int .i8 a1_2, .int .i8 a1_3, .int .i8 a1_4, .int .i8 a1_5]] ?_; (with_reducible refine (impl_reachOf.calls k a0_0 a0_1 a0_2 a1_0 a1_1 a1_2 a1_3 a1_4 a1_5 t331 _ A3.out).mono ?_); rintro e w34 ⟨rfl, hb⟩; refine ⟨_, rfl, ?_⟩; replace BK329 := bB BK329 hb; replace BK330 := bB BK330 hb; replace HB := am (below_step (be HB) hb); (try clear hb); (try clear hb2); (try clear hk); (try clear hi)))
      have n0_ := am (blk_drew BK329.out)
      have n1_ := am (blk_drew BK330.out)
      have n2_ := am (below_drew1 HB.out)
      clear BK329
      clear BK330
      clear HB
      have BK329 := n0_
      have BK330 := n1_
      have HB := n2_
      clear n0_ n1_ n2_
      refine start_ (n := 14) (S := fun w' => w'.cell? ⟨gb329, 0, none⟩ = some (.int .i8 a0_0) ∧ w'.cell? ⟨gb329, 1, none⟩ = some (.int .i8 a0_1) ∧ atCells w' gb329 a0_2 ∧ BayAt32 w' gb329 ∧ lvv w' gb329 = .agg (csBay a0_0 a0_1 a0_2) ∧ w'.cell? ⟨gb330, 0, none⟩ = some (.int .i8 a1_0) ∧ w'.cell? ⟨gb330, 1, none⟩ = some (.int .i8 a1_1) ∧ w'.cell? ⟨gb330, 2, none⟩ = some (.int .i8 a1_2) ∧ w'.cell? ⟨gb330, 3, none⟩ = some (.int .i8 a1_3) ∧ w'.cell? ⟨gb330, 4, none⟩ = some (.int .i8 a1_4) ∧ w'.cell? ⟨gb330, 5, none⟩ = some (.int .i8 a1_5)) (ds := []) #[false, false, false, false, false, false, false, false, false, false, false, false, false, false] (by kernel_rfl) rfl rfl ⟨(blk_cell BK329.out 0).trans rfl, (blk_cell BK329.out 1).trans rfl, at_cells BK329.out, BayAt32_of BK329.out, lvv_of BK329.out, (blk_cell BK330.out 0).trans rfl, (blk_cell BK330.out 1).trans rfl, (blk_cell BK330.out 2).trans rfl, (blk_cell BK330.out 3).trans rfl, (blk_cell BK330.out 4).trans rfl, (blk_cell BK330.out 5).trans rfl⟩ (fun hHeld => ?_); refine with_tabW impl_safe.tab3 impl_safe.bits3 (fun HT_ HW_ => ?_)
      generalize w34.drew = w35 at BK329 BK330 HB hHeld ⊢
      refine pS (i := 3) (some 15) #[false, false, false, true, false, false, false, false, false, false, false, false, false, false] (any_of HT_.out (by kernel_rfl)) ?_
      refine pS (i := 4) (some 16) #[false, false, false, true, true, false, false, false, false, false, false, false, false, false] (any_of HT_.out (by kernel_rfl)) ?_
      refine pS (i := 7) (some 19) #[false, false, false, true, true, false, false, true, false, false, false, false, false, false] (any_of HT_.out (by kernel_rfl)) ?_
      refine pS (i := 8) (some 20) #[false, false, false, true, true, false, false, true, true, false, false, false, false, false] (any_of HT_.out (by kernel_rfl)) ?_
      refine tS (i := 0) (some 12) #[true, false, false, true, true, false, false, true, true, false, false, false, false, false] (take_ofW HT_.out HW_.out (by kernel_rfl)) hHeld ?_
      refine tS (i := 1) (some 13) #[true, true, false, true, true, false, false, true, true, false, false, false, false, false] (take_ofW HT_.out HW_.out (by kernel_rfl)) hHeld ?_
      refine tS (i := 5) (some 17) #[true, true, false, true, true, true, false, true, true, false, false, false, false, false] (take_ofW HT_.out HW_.out (by kernel_rfl)) hHeld ?_
      refine pS (i := 6) (some 18) #[true, true, false, true, true, true, true, true, true, false, false, false, false, false] (any_of HT_.out (by kernel_rfl)) ?_
      refine tS (i := 9) (some 21) #[true, true, false, true, true, true, true, true, true, true, false, false, false, false] (take_ofW HT_.out HW_.out (by kernel_rfl)) hHeld ?_
      refine pS (i := 10) (some 22) #[true, true, false, true, true, true, true, true, true, true, true, false, false, false] (any_of HT_.out (by kernel_rfl)) ?_
      refine one_ (i := 2) (N := some 14) #[true, true, true, true, true, true, true, true, true, true, true, false, false, false] rfl rfl (one_of HT_.out (by kernel_rfl)) (by decide) (fun K hK => ?_)
      refine goes_ Try.func40 (by kernel_rfl) rfl #[.agg (csBay a0_0 a0_1 a0_2), .agg #[.int .i8 a1_0, .int .i8 a1_1, .int .i8 a1_2, .int .i8 a1_3, .int .i8 a1_4, .int .i8 a1_5]] (by rfl) rfl rfl (by (try simp only [List.map_toArray, List.map_cons, List.map_nil]); first | done | rfl | (simp only [List.length_drop, List.length_take]; rfl)) ?_
      with_reducible refine (impl_swingOf.calls k a0_0 a0_1 a0_2 a1_0 a1_1 a1_2 a1_3 a1_4 a1_5 t332 _ A11.out).mono ?_
      rintro e w36 ⟨rfl, hb⟩
      refine ⟨_, rfl, ?_⟩
      have n0_ := bB BK329 hb
      have n1_ := bB BK330 hb
      have n2_ := am (below_step (be HB) hb)
      clear BK329
      clear BK330
      clear HB
      have BK329 := n0_
      have BK330 := n1_
      have HB := n2_
      clear n0_ n1_ n2_
      (try clear hb)
      (try clear hb2)
      (try clear hk)
      (try clear hi)
      refine hK.out _ _ ⟨(blk_cell BK329.out 0).trans rfl, (blk_cell BK329.out 1).trans rfl, at_cells BK329.out, BayAt32_of BK329.out, lvv_of BK329.out, (blk_cell BK330.out 0).trans rfl, (blk_cell BK330.out 1).trans rfl, (blk_cell BK330.out 2).trans rfl, (blk_cell BK330.out 3).trans rfl, (blk_cell BK330.out 4).trans rfl, (blk_cell BK330.out 5).trans rfl⟩ (fun hHeld => ?_)
      clear hK K
      refine norm_ (a' := ?_) ?_ ?_
      rotate_left
      ·show Act.put _ (some 14) _ = _
       simp only [Act.put, List.setIfInBounds_toArray, List.set_cons_zero, List.set_cons_succ, i64_w, i32_w]
       rfl
      refine pS (i := 11) (some 5) #[true, true, true, true, true, true, true, true, true, true, true, true, false, false] (any_of HT_.out (by kernel_rfl)) ?_
      refine pS (i := 12) (some 6) #[true, true, true, true, true, true, true, true, true, true, true, true, true, false] (any_of HT_.out (by kernel_rfl)) ?_
      refine pS (i := 13) (some 7) #[true, true, true, true, true, true, true, true, true, true, true, true, true, true] (any_of HT_.out (by kernel_rfl)) ?_
      refine done_ (done_of HT_.out (by kernel_rfl)) ?_
      have hcz37_0 : w36.cell? ⟨gb329, 0, none⟩ = some (.int .i8 a0_0) := (blk_cell BK329.out 0).trans rfl
      have hcz37_1 : w36.cell? ⟨gb329, 1, none⟩ = some (.int .i8 a0_1) := (blk_cell BK329.out 1).trans rfl
      have hwz37 := lv32_at BK329.out; have haz37 := at_cells BK329.out; have hyz37 := BayAt32_of BK329.out; have hvz37 := lvv_of BK329.out
      have hfz37_0 := blk_frozen BK329.out 0
      have hfz37_1 := blk_frozen BK329.out 1
      have hfz37_2 := blk_frozen BK329.out 2
      try go_wp2
      go_ret
      exact ⟨by first | rfl | (simp [errW_none, errW_some] <;> rfl) | (simp [*, errW_none, errW_some] <;> rfl), be HB⟩
    ·rw [if_neg c14] at H
     have c14b0 : decide (0 ≤ (wrap64 ((wrap64 (a1_1)) - t332))) = false := decide_eq_false c14
     clear c14
     obtain rfl := Option.some.inj H
     go_enter Try.func30, Try.ntmps30
     try go_wp2_with (first | ((with_reducible refine gate_dst (N := 2) rfl ?_); (try (refine gate_guard (by rfl) ?_; dsimp only)); refine bxe (N := 2) (cs := (csBay a0_0 a0_1 a0_2)) (t := 32) ?_; intro gb329 hg w38 hbox hb; have BK329 := am (hbox); have GW329 := am (gN hg (below_size (be HB))); have GE329 := am (gN hg (below_size (be HB))); replace HB := am (below_step (be HB) hb); clear hb hbox hg) | ((with_reducible refine gate_dst (N := 3) rfl ?_); (try (refine gate_guard (by rfl) ?_; dsimp only)); refine bxe (N := 3) (cs := #[.int .i8 a1_0, .int .i8 a1_1, .int .i8 a1_2, .int .i8 a1_3, .int .i8 a1_4, .int .i8 a1_5]) (t := 48) ?_; intro gb330 hg w39 hbox hb; have BK330 := am (hbox); have GW330 := am (gN hg (below_size (be HB))); have GE330 := am (gN hg (below_size (be HB))); have NB329_330 := nL BK329 hg; have NB330_329 := nR BK329 hg; replace BK329 := bB BK329 hb; replace HB := am (below_step (be HB) hb); clear hb hbox hg; have hnb40 := NB329_330.out; have hnc40 := NB330_329.out; obtain ⟨hcz41_0, hcz41_1, hwz41, haz41, hyz41, hvz41, hfz41_0, hfz41_1, hfz41_2⟩ := bb32 BK329; obtain ⟨hcz42_0, hcz42_1, hcz42_2, hcz42_3, hcz42_4, hcz42_5, hfz42_0, hfz42_1, hfz42_2, hfz42_3, hfz42_4, hfz42_5⟩ := bx6 BK330) | ((with_reducible refine gate_callee (f := 39) rfl ?_); refine gL (some 10) Try.func39 #[.agg (csBay a0_0 a0_1 a0_2), .agg #[.int .i8 a1_0, .int .i8 a1_1, .int .i8 a1_2, .int .i8 a1_3, .int .i8 a1_4, .int .i8 a1_5]] ?_; (with_reducible refine (impl_reachOf.calls k a0_0 a0_1 a0_2 a1_0 a1_1 a1_2 a1_3 a1_4 a1_5 t331 _ A3.out).mono ?_); rintro e w43 ⟨rfl, hb⟩; refine ⟨_, rfl, ?_⟩; replace BK329 := bB BK329 hb; replace BK330 := bB BK330 hb; replace HB := am (below_step (be HB) hb); (try clear hb); (try clear hb2); (try clear hk); (try clear hi)))
     have n0_ := am (blk_drew BK329.out)
     have n1_ := am (blk_drew BK330.out)
     have n2_ := am (below_drew1 HB.out)
     clear BK329
     clear BK330
     clear HB
     have BK329 := n0_
     have BK330 := n1_
     have HB := n2_
     clear n0_ n1_ n2_
     refine start_ (n := 14) (S := fun w' => w'.cell? ⟨gb329, 0, none⟩ = some (.int .i8 a0_0) ∧ w'.cell? ⟨gb329, 1, none⟩ = some (.int .i8 a0_1) ∧ atCells w' gb329 a0_2 ∧ BayAt32 w' gb329 ∧ lvv w' gb329 = .agg (csBay a0_0 a0_1 a0_2) ∧ w'.cell? ⟨gb330, 0, none⟩ = some (.int .i8 a1_0) ∧ w'.cell? ⟨gb330, 1, none⟩ = some (.int .i8 a1_1) ∧ w'.cell? ⟨gb330, 2, none⟩ = some (.int .i8 a1_2) ∧ w'.cell? ⟨gb330, 3, none⟩ = some (.int .i8 a1_3) ∧ w'.cell? ⟨gb330, 4, none⟩ = some (.int .i8 a1_4) ∧ w'.cell? ⟨gb330, 5, none⟩ = some (.int .i8 a1_5)) (ds := []) #[false, false, false, false, false, false, false, false, false, false, false, false, false, false] (by kernel_rfl) rfl rfl ⟨(blk_cell BK329.out 0).trans rfl, (blk_cell BK329.out 1).trans rfl, at_cells BK329.out, BayAt32_of BK329.out, lvv_of BK329.out, (blk_cell BK330.out 0).trans rfl, (blk_cell BK330.out 1).trans rfl, (blk_cell BK330.out 2).trans rfl, (blk_cell BK330.out 3).trans rfl, (blk_cell BK330.out 4).trans rfl, (blk_cell BK330.out 5).trans rfl⟩ (fun hHeld => ?_); refine with_tabW impl_safe.tab3 impl_safe.bits3 (fun HT_ HW_ => ?_)
     generalize w43.drew = w44 at BK329 BK330 HB hHeld ⊢
     refine pS (i := 3) (some 15) #[false, false, false, true, false, false, false, false, false, false, false, false, false, false] (any_of HT_.out (by kernel_rfl)) ?_
     refine pS (i := 4) (some 16) #[false, false, false, true, true, false, false, false, false, false, false, false, false, false] (any_of HT_.out (by kernel_rfl)) ?_
     refine pS (i := 7) (some 19) #[false, false, false, true, true, false, false, true, false, false, false, false, false, false] (any_of HT_.out (by kernel_rfl)) ?_
     refine pS (i := 8) (some 20) #[false, false, false, true, true, false, false, true, true, false, false, false, false, false] (any_of HT_.out (by kernel_rfl)) ?_
     refine tS (i := 0) (some 12) #[true, false, false, true, true, false, false, true, true, false, false, false, false, false] (take_ofW HT_.out HW_.out (by kernel_rfl)) hHeld ?_
     refine tS (i := 1) (some 13) #[true, true, false, true, true, false, false, true, true, false, false, false, false, false] (take_ofW HT_.out HW_.out (by kernel_rfl)) hHeld ?_
     refine tS (i := 5) (some 17) #[true, true, false, true, true, true, false, true, true, false, false, false, false, false] (take_ofW HT_.out HW_.out (by kernel_rfl)) hHeld ?_
     refine pS (i := 6) (some 18) #[true, true, false, true, true, true, true, true, true, false, false, false, false, false] (any_of HT_.out (by kernel_rfl)) ?_
     refine tS (i := 9) (some 21) #[true, true, false, true, true, true, true, true, true, true, false, false, false, false] (take_ofW HT_.out HW_.out (by kernel_rfl)) hHeld ?_
     refine pS (i := 10) (some 22) #[true, true, false, true, true, true, true, true, true, true, true, false, false, false] (any_of HT_.out (by kernel_rfl)) ?_
     refine one_ (i := 2) (N := some 14) #[true, true, true, true, true, true, true, true, true, true, true, false, false, false] rfl rfl (one_of HT_.out (by kernel_rfl)) (by decide) (fun K hK => ?_)
     refine goes_ Try.func40 (by kernel_rfl) rfl #[.agg (csBay a0_0 a0_1 a0_2), .agg #[.int .i8 a1_0, .int .i8 a1_1, .int .i8 a1_2, .int .i8 a1_3, .int .i8 a1_4, .int .i8 a1_5]] (by rfl) rfl rfl (by (try simp only [List.map_toArray, List.map_cons, List.map_nil]); first | done | rfl | (simp only [List.length_drop, List.length_take]; rfl)) ?_
     with_reducible refine (impl_swingOf.calls k a0_0 a0_1 a0_2 a1_0 a1_1 a1_2 a1_3 a1_4 a1_5 t332 _ A11.out).mono ?_
     rintro e w45 ⟨rfl, hb⟩
     refine ⟨_, rfl, ?_⟩
     have n0_ := bB BK329 hb
     have n1_ := bB BK330 hb
     have n2_ := am (below_step (be HB) hb)
     clear BK329
     clear BK330
     clear HB
     have BK329 := n0_
     have BK330 := n1_
     have HB := n2_
     clear n0_ n1_ n2_
     (try clear hb)
     (try clear hb2)
     (try clear hk)
     (try clear hi)
     refine hK.out _ _ ⟨(blk_cell BK329.out 0).trans rfl, (blk_cell BK329.out 1).trans rfl, at_cells BK329.out, BayAt32_of BK329.out, lvv_of BK329.out, (blk_cell BK330.out 0).trans rfl, (blk_cell BK330.out 1).trans rfl, (blk_cell BK330.out 2).trans rfl, (blk_cell BK330.out 3).trans rfl, (blk_cell BK330.out 4).trans rfl, (blk_cell BK330.out 5).trans rfl⟩ (fun hHeld => ?_)
     clear hK K
     refine norm_ (a' := ?_) ?_ ?_
     rotate_left
     ·show Act.put _ (some 14) _ = _
      simp only [Act.put, List.setIfInBounds_toArray, List.set_cons_zero, List.set_cons_succ, i64_w, i32_w]
      rfl
     refine pS (i := 11) (some 5) #[true, true, true, true, true, true, true, true, true, true, true, true, false, false] (any_of HT_.out (by kernel_rfl)) ?_
     refine pS (i := 12) (some 6) #[true, true, true, true, true, true, true, true, true, true, true, true, true, false] (any_of HT_.out (by kernel_rfl)) ?_
     refine pS (i := 13) (some 7) #[true, true, true, true, true, true, true, true, true, true, true, true, true, true] (any_of HT_.out (by kernel_rfl)) ?_
     refine done_ (done_of HT_.out (by kernel_rfl)) ?_
     have hcz46_0 : w45.cell? ⟨gb329, 0, none⟩ = some (.int .i8 a0_0) := (blk_cell BK329.out 0).trans rfl
     have hcz46_1 : w45.cell? ⟨gb329, 1, none⟩ = some (.int .i8 a0_1) := (blk_cell BK329.out 1).trans rfl
     have hwz46 := lv32_at BK329.out; have haz46 := at_cells BK329.out; have hyz46 := BayAt32_of BK329.out; have hvz46 := lvv_of BK329.out
     have hfz46_0 := blk_frozen BK329.out 0
     have hfz46_1 := blk_frozen BK329.out 1
     have hfz46_2 := blk_frozen BK329.out 2
     try go_wp2
     go_ret
     exact ⟨by first | rfl | (simp [errW_none, errW_some] <;> rfl) | (simp [*, errW_none, errW_some] <;> rfl), be HB⟩
   ·rw [if_neg c13] at H
    have c13b0 : decide ((wrap64 ((wrap64 (a1_0)) + t332)) < (wrap64 (a0_0))) = false := decide_eq_false c13
    clear c13
    obtain rfl := Option.some.inj H
    go_enter Try.func30, Try.ntmps30
    try go_wp2_with (first | ((with_reducible refine gate_dst (N := 2) rfl ?_); (try (refine gate_guard (by rfl) ?_; dsimp only)); refine bxe (N := 2) (cs := (csBay a0_0 a0_1 a0_2)) (t := 32) ?_; intro gb329 hg w47 hbox hb; have BK329 := am (hbox); have GW329 := am (gN hg (below_size (be HB))); have GE329 := am (gN hg (below_size (be HB))); replace HB := am (below_step (be HB) hb); clear hb hbox hg) | ((with_reducible refine gate_dst (N := 3) rfl ?_); (try (refine gate_guard (by rfl) ?_; dsimp only)); refine bxe (N := 3) (cs := #[.int .i8 a1_0, .int .i8 a1_1, .int .i8 a1_2, .int .i8 a1_3, .int .i8 a1_4, .int .i8 a1_5]) (t := 48) ?_; intro gb330 hg w48 hbox hb; have BK330 := am (hbox); have GW330 := am (gN hg (below_size (be HB))); have GE330 := am (gN hg (below_size (be HB))); have NB329_330 := nL BK329 hg; have NB330_329 := nR BK329 hg; replace BK329 := bB BK329 hb; replace HB := am (below_step (be HB) hb); clear hb hbox hg; have hnb49 := NB329_330.out; have hnc49 := NB330_329.out; obtain ⟨hcz50_0, hcz50_1, hwz50, haz50, hyz50, hvz50, hfz50_0, hfz50_1, hfz50_2⟩ := bb32 BK329; obtain ⟨hcz51_0, hcz51_1, hcz51_2, hcz51_3, hcz51_4, hcz51_5, hfz51_0, hfz51_1, hfz51_2, hfz51_3, hfz51_4, hfz51_5⟩ := bx6 BK330) | ((with_reducible refine gate_callee (f := 39) rfl ?_); refine gL (some 10) Try.func39 #[.agg (csBay a0_0 a0_1 a0_2), .agg #[.int .i8 a1_0, .int .i8 a1_1, .int .i8 a1_2, .int .i8 a1_3, .int .i8 a1_4, .int .i8 a1_5]] ?_; (with_reducible refine (impl_reachOf.calls k a0_0 a0_1 a0_2 a1_0 a1_1 a1_2 a1_3 a1_4 a1_5 t331 _ A3.out).mono ?_); rintro e w52 ⟨rfl, hb⟩; refine ⟨_, rfl, ?_⟩; replace BK329 := bB BK329 hb; replace BK330 := bB BK330 hb; replace HB := am (below_step (be HB) hb); (try clear hb); (try clear hb2); (try clear hk); (try clear hi)))
    have n0_ := am (blk_drew BK329.out)
    have n1_ := am (blk_drew BK330.out)
    have n2_ := am (below_drew1 HB.out)
    clear BK329
    clear BK330
    clear HB
    have BK329 := n0_
    have BK330 := n1_
    have HB := n2_
    clear n0_ n1_ n2_
    refine start_ (n := 14) (S := fun w' => w'.cell? ⟨gb329, 0, none⟩ = some (.int .i8 a0_0) ∧ w'.cell? ⟨gb329, 1, none⟩ = some (.int .i8 a0_1) ∧ atCells w' gb329 a0_2 ∧ BayAt32 w' gb329 ∧ lvv w' gb329 = .agg (csBay a0_0 a0_1 a0_2) ∧ w'.cell? ⟨gb330, 0, none⟩ = some (.int .i8 a1_0) ∧ w'.cell? ⟨gb330, 1, none⟩ = some (.int .i8 a1_1) ∧ w'.cell? ⟨gb330, 2, none⟩ = some (.int .i8 a1_2) ∧ w'.cell? ⟨gb330, 3, none⟩ = some (.int .i8 a1_3) ∧ w'.cell? ⟨gb330, 4, none⟩ = some (.int .i8 a1_4) ∧ w'.cell? ⟨gb330, 5, none⟩ = some (.int .i8 a1_5)) (ds := []) #[false, false, false, false, false, false, false, false, false, false, false, false, false, false] (by kernel_rfl) rfl rfl ⟨(blk_cell BK329.out 0).trans rfl, (blk_cell BK329.out 1).trans rfl, at_cells BK329.out, BayAt32_of BK329.out, lvv_of BK329.out, (blk_cell BK330.out 0).trans rfl, (blk_cell BK330.out 1).trans rfl, (blk_cell BK330.out 2).trans rfl, (blk_cell BK330.out 3).trans rfl, (blk_cell BK330.out 4).trans rfl, (blk_cell BK330.out 5).trans rfl⟩ (fun hHeld => ?_); refine with_tabW impl_safe.tab3 impl_safe.bits3 (fun HT_ HW_ => ?_)
    generalize w52.drew = w53 at BK329 BK330 HB hHeld ⊢
    refine pS (i := 3) (some 15) #[false, false, false, true, false, false, false, false, false, false, false, false, false, false] (any_of HT_.out (by kernel_rfl)) ?_
    refine pS (i := 4) (some 16) #[false, false, false, true, true, false, false, false, false, false, false, false, false, false] (any_of HT_.out (by kernel_rfl)) ?_
    refine pS (i := 7) (some 19) #[false, false, false, true, true, false, false, true, false, false, false, false, false, false] (any_of HT_.out (by kernel_rfl)) ?_
    refine pS (i := 8) (some 20) #[false, false, false, true, true, false, false, true, true, false, false, false, false, false] (any_of HT_.out (by kernel_rfl)) ?_
    refine tS (i := 0) (some 12) #[true, false, false, true, true, false, false, true, true, false, false, false, false, false] (take_ofW HT_.out HW_.out (by kernel_rfl)) hHeld ?_
    refine tS (i := 1) (some 13) #[true, true, false, true, true, false, false, true, true, false, false, false, false, false] (take_ofW HT_.out HW_.out (by kernel_rfl)) hHeld ?_
    refine tS (i := 5) (some 17) #[true, true, false, true, true, true, false, true, true, false, false, false, false, false] (take_ofW HT_.out HW_.out (by kernel_rfl)) hHeld ?_
    refine pS (i := 6) (some 18) #[true, true, false, true, true, true, true, true, true, false, false, false, false, false] (any_of HT_.out (by kernel_rfl)) ?_
    refine tS (i := 9) (some 21) #[true, true, false, true, true, true, true, true, true, true, false, false, false, false] (take_ofW HT_.out HW_.out (by kernel_rfl)) hHeld ?_
    refine pS (i := 10) (some 22) #[true, true, false, true, true, true, true, true, true, true, true, false, false, false] (any_of HT_.out (by kernel_rfl)) ?_
    refine one_ (i := 2) (N := some 14) #[true, true, true, true, true, true, true, true, true, true, true, false, false, false] rfl rfl (one_of HT_.out (by kernel_rfl)) (by decide) (fun K hK => ?_)
    refine goes_ Try.func40 (by kernel_rfl) rfl #[.agg (csBay a0_0 a0_1 a0_2), .agg #[.int .i8 a1_0, .int .i8 a1_1, .int .i8 a1_2, .int .i8 a1_3, .int .i8 a1_4, .int .i8 a1_5]] (by rfl) rfl rfl (by (try simp only [List.map_toArray, List.map_cons, List.map_nil]); first | done | rfl | (simp only [List.length_drop, List.length_take]; rfl)) ?_
    with_reducible refine (impl_swingOf.calls k a0_0 a0_1 a0_2 a1_0 a1_1 a1_2 a1_3 a1_4 a1_5 t332 _ A11.out).mono ?_
    rintro e w54 ⟨rfl, hb⟩
    refine ⟨_, rfl, ?_⟩
    have n0_ := bB BK329 hb
    have n1_ := bB BK330 hb
    have n2_ := am (below_step (be HB) hb)
    clear BK329
    clear BK330
    clear HB
    have BK329 := n0_
    have BK330 := n1_
    have HB := n2_
    clear n0_ n1_ n2_
    (try clear hb)
    (try clear hb2)
    (try clear hk)
    (try clear hi)
    refine hK.out _ _ ⟨(blk_cell BK329.out 0).trans rfl, (blk_cell BK329.out 1).trans rfl, at_cells BK329.out, BayAt32_of BK329.out, lvv_of BK329.out, (blk_cell BK330.out 0).trans rfl, (blk_cell BK330.out 1).trans rfl, (blk_cell BK330.out 2).trans rfl, (blk_cell BK330.out 3).trans rfl, (blk_cell BK330.out 4).trans rfl, (blk_cell BK330.out 5).trans rfl⟩ (fun hHeld => ?_)
    clear hK K
    refine norm_ (a' := ?_) ?_ ?_
    rotate_left
    ·show Act.put _ (some 14) _ = _
     simp only [Act.put, List.setIfInBounds_toArray, List.set_cons_zero, List.set_cons_succ, i64_w, i32_w]
     rfl
    refine pS (i := 11) (some 5) #[true, true, true, true, true, true, true, true, true, true, true, true, false, false] (any_of HT_.out (by kernel_rfl)) ?_
    refine pS (i := 12) (some 6) #[true, true, true, true, true, true, true, true, true, true, true, true, true, false] (any_of HT_.out (by kernel_rfl)) ?_
    refine pS (i := 13) (some 7) #[true, true, true, true, true, true, true, true, true, true, true, true, true, true] (any_of HT_.out (by kernel_rfl)) ?_
    refine done_ (done_of HT_.out (by kernel_rfl)) ?_
    have hcz55_0 : w54.cell? ⟨gb329, 0, none⟩ = some (.int .i8 a0_0) := (blk_cell BK329.out 0).trans rfl
    have hcz55_1 : w54.cell? ⟨gb329, 1, none⟩ = some (.int .i8 a0_1) := (blk_cell BK329.out 1).trans rfl
    have hwz55 := lv32_at BK329.out; have haz55 := at_cells BK329.out; have hyz55 := BayAt32_of BK329.out; have hvz55 := lvv_of BK329.out
    have hfz55_0 := blk_frozen BK329.out 0
    have hfz55_1 := blk_frozen BK329.out 1
    have hfz55_2 := blk_frozen BK329.out 2
    try go_wp2
    go_ret
    exact ⟨by first | rfl | (simp [errW_none, errW_some] <;> rfl) | (simp [*, errW_none, errW_some] <;> rfl), be HB⟩
  ·rw [if_neg c12] at H
   have c12b0 : decide (0 ≤ (wrap64 ((wrap64 (a1_0)) - t332))) = false := decide_eq_false c12
   clear c12
   obtain rfl := Option.some.inj H
   go_enter Try.func30, Try.ntmps30
   try go_wp2_with (first | ((with_reducible refine gate_dst (N := 2) rfl ?_); (try (refine gate_guard (by rfl) ?_; dsimp only)); refine bxe (N := 2) (cs := (csBay a0_0 a0_1 a0_2)) (t := 32) ?_; intro gb329 hg w56 hbox hb; have BK329 := am (hbox); have GW329 := am (gN hg (below_size (be HB))); have GE329 := am (gN hg (below_size (be HB))); replace HB := am (below_step (be HB) hb); clear hb hbox hg) | ((with_reducible refine gate_dst (N := 3) rfl ?_); (try (refine gate_guard (by rfl) ?_; dsimp only)); refine bxe (N := 3) (cs := #[.int .i8 a1_0, .int .i8 a1_1, .int .i8 a1_2, .int .i8 a1_3, .int .i8 a1_4, .int .i8 a1_5]) (t := 48) ?_; intro gb330 hg w57 hbox hb; have BK330 := am (hbox); have GW330 := am (gN hg (below_size (be HB))); have GE330 := am (gN hg (below_size (be HB))); have NB329_330 := nL BK329 hg; have NB330_329 := nR BK329 hg; replace BK329 := bB BK329 hb; replace HB := am (below_step (be HB) hb); clear hb hbox hg; have hnb58 := NB329_330.out; have hnc58 := NB330_329.out; obtain ⟨hcz59_0, hcz59_1, hwz59, haz59, hyz59, hvz59, hfz59_0, hfz59_1, hfz59_2⟩ := bb32 BK329; obtain ⟨hcz60_0, hcz60_1, hcz60_2, hcz60_3, hcz60_4, hcz60_5, hfz60_0, hfz60_1, hfz60_2, hfz60_3, hfz60_4, hfz60_5⟩ := bx6 BK330) | ((with_reducible refine gate_callee (f := 39) rfl ?_); refine gL (some 10) Try.func39 #[.agg (csBay a0_0 a0_1 a0_2), .agg #[.int .i8 a1_0, .int .i8 a1_1, .int .i8 a1_2, .int .i8 a1_3, .int .i8 a1_4, .int .i8 a1_5]] ?_; (with_reducible refine (impl_reachOf.calls k a0_0 a0_1 a0_2 a1_0 a1_1 a1_2 a1_3 a1_4 a1_5 t331 _ A3.out).mono ?_); rintro e w61 ⟨rfl, hb⟩; refine ⟨_, rfl, ?_⟩; replace BK329 := bB BK329 hb; replace BK330 := bB BK330 hb; replace HB := am (below_step (be HB) hb); (try clear hb); (try clear hb2); (try clear hk); (try clear hi)))
   have n0_ := am (blk_drew BK329.out)
   have n1_ := am (blk_drew BK330.out)
   have n2_ := am (below_drew1 HB.out)
   clear BK329
   clear BK330
   clear HB
   have BK329 := n0_
   have BK330 := n1_
   have HB := n2_
   clear n0_ n1_ n2_
   refine start_ (n := 14) (S := fun w' => w'.cell? ⟨gb329, 0, none⟩ = some (.int .i8 a0_0) ∧ w'.cell? ⟨gb329, 1, none⟩ = some (.int .i8 a0_1) ∧ atCells w' gb329 a0_2 ∧ BayAt32 w' gb329 ∧ lvv w' gb329 = .agg (csBay a0_0 a0_1 a0_2) ∧ w'.cell? ⟨gb330, 0, none⟩ = some (.int .i8 a1_0) ∧ w'.cell? ⟨gb330, 1, none⟩ = some (.int .i8 a1_1) ∧ w'.cell? ⟨gb330, 2, none⟩ = some (.int .i8 a1_2) ∧ w'.cell? ⟨gb330, 3, none⟩ = some (.int .i8 a1_3) ∧ w'.cell? ⟨gb330, 4, none⟩ = some (.int .i8 a1_4) ∧ w'.cell? ⟨gb330, 5, none⟩ = some (.int .i8 a1_5)) (ds := []) #[false, false, false, false, false, false, false, false, false, false, false, false, false, false] (by kernel_rfl) rfl rfl ⟨(blk_cell BK329.out 0).trans rfl, (blk_cell BK329.out 1).trans rfl, at_cells BK329.out, BayAt32_of BK329.out, lvv_of BK329.out, (blk_cell BK330.out 0).trans rfl, (blk_cell BK330.out 1).trans rfl, (blk_cell BK330.out 2).trans rfl, (blk_cell BK330.out 3).trans rfl, (blk_cell BK330.out 4).trans rfl, (blk_cell BK330.out 5).trans rfl⟩ (fun hHeld => ?_); refine with_tabW impl_safe.tab3 impl_safe.bits3 (fun HT_ HW_ => ?_)
   generalize w61.drew = w62 at BK329 BK330 HB hHeld ⊢
   refine pS (i := 3) (some 15) #[false, false, false, true, false, false, false, false, false, false, false, false, false, false] (any_of HT_.out (by kernel_rfl)) ?_
   refine pS (i := 4) (some 16) #[false, false, false, true, true, false, false, false, false, false, false, false, false, false] (any_of HT_.out (by kernel_rfl)) ?_
   refine pS (i := 7) (some 19) #[false, false, false, true, true, false, false, true, false, false, false, false, false, false] (any_of HT_.out (by kernel_rfl)) ?_
   refine pS (i := 8) (some 20) #[false, false, false, true, true, false, false, true, true, false, false, false, false, false] (any_of HT_.out (by kernel_rfl)) ?_
   refine tS (i := 0) (some 12) #[true, false, false, true, true, false, false, true, true, false, false, false, false, false] (take_ofW HT_.out HW_.out (by kernel_rfl)) hHeld ?_
   refine tS (i := 1) (some 13) #[true, true, false, true, true, false, false, true, true, false, false, false, false, false] (take_ofW HT_.out HW_.out (by kernel_rfl)) hHeld ?_
   refine tS (i := 5) (some 17) #[true, true, false, true, true, true, false, true, true, false, false, false, false, false] (take_ofW HT_.out HW_.out (by kernel_rfl)) hHeld ?_
   refine pS (i := 6) (some 18) #[true, true, false, true, true, true, true, true, true, false, false, false, false, false] (any_of HT_.out (by kernel_rfl)) ?_
   refine tS (i := 9) (some 21) #[true, true, false, true, true, true, true, true, true, true, false, false, false, false] (take_ofW HT_.out HW_.out (by kernel_rfl)) hHeld ?_
   refine pS (i := 10) (some 22) #[true, true, false, true, true, true, true, true, true, true, true, false, false, false] (any_of HT_.out (by kernel_rfl)) ?_
   refine one_ (i := 2) (N := some 14) #[true, true, true, true, true, true, true, true, true, true, true, false, false, false] rfl rfl (one_of HT_.out (by kernel_rfl)) (by decide) (fun K hK => ?_)
   refine goes_ Try.func40 (by kernel_rfl) rfl #[.agg (csBay a0_0 a0_1 a0_2), .agg #[.int .i8 a1_0, .int .i8 a1_1, .int .i8 a1_2, .int .i8 a1_3, .int .i8 a1_4, .int .i8 a1_5]] (by rfl) rfl rfl (by (try simp only [List.map_toArray, List.map_cons, List.map_nil]); first | done | rfl | (simp only [List.length_drop, List.length_take]; rfl)) ?_
   with_reducible refine (impl_swingOf.calls k a0_0 a0_1 a0_2 a1_0 a1_1 a1_2 a1_3 a1_4 a1_5 t332 _ A11.out).mono ?_
   rintro e w63 ⟨rfl, hb⟩
   refine ⟨_, rfl, ?_⟩
   have n0_ := bB BK329 hb
   have n1_ := bB BK330 hb
   have n2_ := am (below_step (be HB) hb)
   clear BK329
   clear BK330
   clear HB
   have BK329 := n0_
   have BK330 := n1_
   have HB := n2_
   clear n0_ n1_ n2_
   (try clear hb)
   (try clear hb2)
   (try clear hk)
   (try clear hi)
   refine hK.out _ _ ⟨(blk_cell BK329.out 0).trans rfl, (blk_cell BK329.out 1).trans rfl, at_cells BK329.out, BayAt32_of BK329.out, lvv_of BK329.out, (blk_cell BK330.out 0).trans rfl, (blk_cell BK330.out 1).trans rfl, (blk_cell BK330.out 2).trans rfl, (blk_cell BK330.out 3).trans rfl, (blk_cell BK330.out 4).trans rfl, (blk_cell BK330.out 5).trans rfl⟩ (fun hHeld => ?_)
   clear hK K
   refine norm_ (a' := ?_) ?_ ?_
   rotate_left
   ·show Act.put _ (some 14) _ = _
    simp only [Act.put, List.setIfInBounds_toArray, List.set_cons_zero, List.set_cons_succ, i64_w, i32_w]
    rfl
   refine pS (i := 11) (some 5) #[true, true, true, true, true, true, true, true, true, true, true, true, false, false] (any_of HT_.out (by kernel_rfl)) ?_
   refine pS (i := 12) (some 6) #[true, true, true, true, true, true, true, true, true, true, true, true, true, false] (any_of HT_.out (by kernel_rfl)) ?_
   refine pS (i := 13) (some 7) #[true, true, true, true, true, true, true, true, true, true, true, true, true, true] (any_of HT_.out (by kernel_rfl)) ?_
   refine done_ (done_of HT_.out (by kernel_rfl)) ?_
   try go_wp2
   go_ret
   exact ⟨by first | rfl | (simp [errW_none, errW_some] <;> rfl) | (simp [*, errW_none, errW_some] <;> rfl), be HB⟩

end Go.Proofs.Ytigafbmdedjgdaa.PFnExactMostBoats
