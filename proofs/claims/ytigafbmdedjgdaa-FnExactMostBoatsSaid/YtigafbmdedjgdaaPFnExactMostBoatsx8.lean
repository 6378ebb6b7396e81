-- Written by a program out of this seat's translation (functions, and that the code comes to them).
import Derived.Test.YtigafbmdedjgdaaPFnExactMostBoatsx0
import Derived.Test.YtigafbmdedjgdaaPFnExactMostBoatsx7
namespace Go.Proofs.Ytigafbmdedjgdaa.PFnExactMostBoats
open Go.RowKit Go.Proofs.YtigafbmdedjgdaaW.PrintWords Go.Proofs.YtigafbmdedjgdaaW.PrintLast Go.Proofs.YtigafbmdedjgdaaW.PrintMore
attribute [local go_sem] max2_int min2_int max_two min_two max_three min_three max_four min_four   -- for this text's walks alone
open Go.Proofs.Ytigafbmdedjgdaa.Bay Go.Proofs.Ytigafbmdedjgdaa.Short
attribute [local go_sem ↓] lv26_eq lv32_eq
attribute [local go_sem] lvv_set lvv_drewN lvv_drew lv26_run BayAt26_set BayAt26_drewN BayAt26_drew lv32_run BayAt32_set BayAt32_drewN BayAt32_drew
set_option linter.unusedVariables false
set_option linter.unusedSimpArgs false

/-! ### impl_root: function 48 -/
def impl_root.l0 : Nat → Int → Int → Option (Int)
 | 0, _, _ => none
 | k + 1, x0, x3 => if (wrap64 ((wrap64 (x3 + 1)) * (wrap64 (x3 + 1)))) ≤ x0 then (impl_root.l0 k x0 (wrap64 (x3 + 1))) else (some x3)
def impl_root.f (k : Nat) (a0 : Int) : Option (Int) := impl_root.l0 k a0 0
set_option maxHeartbeats 8000000 in
set_option maxRecDepth 100000 in
theorem impl_root.calls (k : Nat) (a0 : Int) (r : Int) (w : World) (h : impl_root.f k a0 = some r) :
  Calls Try.prog 48 #[.int .i64 a0] w fun e w' => e = .returned (.int .i64 r) ∧ Drawn0 w w' := by
 have H : (impl_root.l0 k a0 0) = some r := h
 clear h
 have H' := am H
 clear H
 go_enter Try.func48, Try.ntmps48
 go_wp2
 go_loopg [3] k (fun kq v3 w' => ∃ (x3_1 : Int), v3 = .int .i64 x3_1 ∧ Aside0 (impl_root.l0 kq a0 x3_1 = some r) ∧ Aside0 (kq ≤ k) ∧ Drawn0 w w')
 case atStart => exact ⟨(0), vv, H', ⟨Nat.le_refl _⟩, by repeat (first | exact Drawn0.refl _ | apply Drawn0.step)⟩
 case round =>
  clear H'
  obtain ⟨x3_1, rfl, HA, HK1, ⟨m1, rfl⟩⟩ := hrel
  cases gk with
  | zero => exact absurd HA.out (by simp [impl_root.l0])
  | succ k1 =>
   have H := HA.out
   clear HA
   simp only [impl_root.l0] at H
   by_cases c2 : (wrap64 ((wrap64 (x3_1 + 1)) * (wrap64 (x3_1 + 1)))) ≤ a0
   ·rw [if_pos c2] at H
    have c2b0 : decide ((wrap64 ((wrap64 (x3_1 + 1)) * (wrap64 (x3_1 + 1)))) ≤ a0) = true := decide_eq_true c2
    clear c2
    have H' := am H
    clear H
    go_wp2
    go_roundg k1
    case measure => have := HK1.out; omega
    case rel => exact ⟨(wrap64 (x3_1 + 1)), vv, H', ⟨by have := HK1.out; omega⟩, by repeat (first | exact Drawn0.refl _ | apply Drawn0.step)⟩
   ·rw [if_neg c2] at H
    have c2b0 : decide ((wrap64 ((wrap64 (x3_1 + 1)) * (wrap64 (x3_1 + 1)))) ≤ a0) = false := decide_eq_false c2
    clear c2
    obtain rfl := Option.some.inj H
    go_wp2
    go_ret
    exact ⟨by first | rfl | (simp; done) | (simp [*]; done), by repeat (first | exact Drawn0.refl _ | apply Drawn0.step)⟩

/-! ### impl_reachOf: function 39 -/
def impl_reachOf.f (k : Nat) (a0_0 : Int) (a0_1 : Int) (a0_2 : (Nat → Int)) (a1_0 : Int) (a1_1 : Int) (a1_2 : Int) (a1_3 : Int) (a1_4 : Int) (a1_5 : Int) : Option (Int) := (impl_depth.f a0_0 a0_1 a0_2 a1_0 a1_1).bind fun t286 => (if (wrap64 ((wrap64 ((wrap64 (a1_2)) * (wrap64 (a1_2)))) - (wrap64 (t286 * t286)))) < 0 then (some (-1)) else ((impl_root.f k (wrap64 ((wrap64 ((wrap64 (a1_2)) * (wrap64 (a1_2)))) - (wrap64 (t286 * t286))))).bind fun t287 => (some t287)))
set_option maxHeartbeats 8000000 in
set_option maxRecDepth 100000 in
theorem impl_reachOf.calls (k : Nat) (a0_0 : Int) (a0_1 : Int) (a0_2 : (Nat → Int)) (a1_0 : Int) (a1_1 : Int) (a1_2 : Int) (a1_3 : Int) (a1_4 : Int) (a1_5 : Int) (r : Int) (w : World) (h : impl_reachOf.f k a0_0 a0_1 a0_2 a1_0 a1_1 a1_2 a1_3 a1_4 a1_5 = some r) :
  Calls Try.prog 39 #[.agg (csBay a0_0 a0_1 a0_2), .agg #[.int .i8 a1_0, .int .i8 a1_1, .int .i8 a1_2, .int .i8 a1_3, .int .i8 a1_4, .int .i8 a1_5]] w fun e w' => e = .returned (.int .i64 r) ∧ Below w.heap.size w w' := by
 have hu32 := Try.underlying32
 have hu48 := Try.underlying48
 have hu46 := Try.underlying46
 have HB := am (Below.refl w.heap.size w)
 have H : ((impl_depth.f a0_0 a0_1 a0_2 a1_0 a1_1).bind fun t286 => (if (wrap64 ((wrap64 ((wrap64 (a1_2)) * (wrap64 (a1_2)))) - (wrap64 (t286 * t286)))) < 0 then (some (-1)) else ((impl_root.f k (wrap64 ((wrap64 ((wrap64 (a1_2)) * (wrap64 (a1_2)))) - (wrap64 (t286 * t286))))).bind fun t287 => (some t287)))) = some r := h
 clear h
 replace H := Option.bind_eq_some_iff.mp H
 obtain ⟨t286, A30, H⟩ := H
 try dsimp only at H
 have A3 := am A30
 clear A30
 by_cases c4 : (wrap64 ((wrap64 ((wrap64 (a1_2)) * (wrap64 (a1_2)))) - (wrap64 (t286 * t286)))) < 0
 ·rw [if_pos c4] at H
  have c4b0 : decide ((wrap64 ((wrap64 ((wrap64 (a1_2)) * (wrap64 (a1_2)))) - (wrap64 (t286 * t286)))) < 0) = true := decide_eq_true c4
  clear c4
  obtain rfl := Option.some.inj H
  go_enter Try.func39, Try.ntmps39
  go_wp2_with (first | ((with_reducible refine gate_dst (N := 2) rfl ?_); refine bxe (N := 2) (cs := (csBay a0_0 a0_1 a0_2)) (t := 32) ?_; intro gb284 hg w5 hbox hb; have BK284 := am (hbox); have GW284 := am (gN hg (below_size (be HB))); have GE284 := am (gN hg (below_size (be HB))); replace HB := am (below_step (be HB) hb); clear hb hbox hg) | ((with_reducible refine gate_dst (N := 3) rfl ?_); refine bxe (N := 3) (cs := #[.int .i8 a1_0, .int .i8 a1_1, .int .i8 a1_2, .int .i8 a1_3, .int .i8 a1_4, .int .i8 a1_5]) (t := 48) ?_; intro gb285 hg w6 hbox hb; have BK285 := am (hbox); have GW285 := am (gN hg (below_size (be HB))); have GE285 := am (gN hg (below_size (be HB))); have NB284_285 := nL BK284 hg; have NB285_284 := nR BK284 hg; replace BK284 := bB BK284 hb; replace HB := am (below_step (be HB) hb); clear hb hbox hg; have hnb7 := NB284_285.out; have hnc7 := NB285_284.out; obtain ⟨hcz8_0, hcz8_1, hwz8, haz8, hyz8, hvz8, hfz8_0, hfz8_1, hfz8_2⟩ := bb32 BK284; obtain ⟨hcz9_0, hcz9_1, hcz9_2, hcz9_3, hcz9_4, hcz9_5, hfz9_0, hfz9_1, hfz9_2, hfz9_3, hfz9_4, hfz9_5⟩ := bx6 BK285) | ((with_reducible refine gate_callee (f := 47) rfl ?_); refine gL (some 10) Try.func47 #[.agg (csBay a0_0 a0_1 a0_2), .agg #[.int .i8 a1_0, .int .i8 a1_1]] ?_; (with_reducible refine (impl_depth.calls a0_0 a0_1 a0_2 a1_0 a1_1 t286 _ A3.out).mono ?_); rintro e w10 ⟨rfl, hb⟩; refine ⟨_, rfl, ?_⟩; replace BK284 := bB BK284 hb; replace BK285 := bB BK285 hb; replace HB := am (below_step (be HB) hb); (try clear hb); (try clear hb2); (try clear hk); (try clear hi); obtain ⟨hcz11_0, hcz11_1, hcz11_2, hcz11_3, hcz11_4, hcz11_5, hfz11_0, hfz11_1, hfz11_2, hfz11_3, hfz11_4, hfz11_5⟩ := bx6 BK285))
  go_ret
  exact ⟨by first | rfl | (simp [errW_none, errW_some] <;> rfl) | (simp [*, errW_none, errW_some] <;> rfl), be HB⟩
 ·rw [if_neg c4] at H
  have c4b0 : decide ((wrap64 ((wrap64 ((wrap64 (a1_2)) * (wrap64 (a1_2)))) - (wrap64 (t286 * t286)))) < 0) = false := decide_eq_false c4
  clear c4
  replace H := Option.bind_eq_some_iff.mp H
  obtain ⟨t287, A120, H⟩ := H
  try dsimp only at H
  have A12 := am A120
  clear A120
  obtain rfl := Option.some.inj H
  go_enter Try.func39, Try.ntmps39
  go_wp2_with (first | ((with_reducible refine gate_dst (N := 2) rfl ?_); refine bxe (N := 2) (cs := (csBay a0_0 a0_1 a0_2)) (t := 32) ?_; intro gb284 hg w13 hbox hb; have BK284 := am (hbox); have GW284 := am (gN hg (below_size (be HB))); have GE284 := am (gN hg (below_size (be HB))); replace HB := am (below_step (be HB) hb); clear hb hbox hg) | ((with_reducible refine gate_dst (N := 3) rfl ?_); refine bxe (N := 3) (cs := #[.int .i8 a1_0, .int .i8 a1_1, .int .i8 a1_2, .int .i8 a1_3, .int .i8 a1_4, .int .i8 a1_5]) (t := 48) ?_; intro gb285 hg w14 hbox hb; have BK285 := am (hbox); have GW285 := am (gN hg (below_size (be HB))); have GE285 := am (gN hg (below_size (be HB))); have NB284_285 := nL BK284 hg; have NB285_284 := nR BK284 hg; replace BK284 := bB BK284 hb; replace HB := am (below_step (be HB) hb); clear hb hbox hg; have hnb15 := NB284_285.out; have hnc15 := NB285_284.out; obtain ⟨hcz16_0, hcz16_1, hwz16, haz16, hyz16, hvz16, hfz16_0, hfz16_1, hfz16_2⟩ := bb32 BK284; obtain ⟨hcz17_0, hcz17_1, hcz17_2, hcz17_3, hcz17_4, hcz17_5, hfz17_0, hfz17_1, hfz17_2, hfz17_3, hfz17_4, hfz17_5⟩ := bx6 BK285) | ((with_reducible refine gate_callee (f := 47) rfl ?_); refine gL (some 10) Try.func47 #[.agg (csBay a0_0 a0_1 a0_2), .agg #[.int .i8 a1_0, .int .i8 a1_1]] ?_; (with_reducible refine (impl_depth.calls a0_0 a0_1 a0_2 a1_0 a1_1 t286 _ A3.out).mono ?_); rintro e w18 ⟨rfl, hb⟩; refine ⟨_, rfl, ?_⟩; replace BK284 := bB BK284 hb; replace BK285 := bB BK285 hb; replace HB := am (below_step (be HB) hb); (try clear hb); (try clear hb2); (try clear hk); (try clear hi); obtain ⟨hcz19_0, hcz19_1, hcz19_2, hcz19_3, hcz19_4, hcz19_5, hfz19_0, hfz19_1, hfz19_2, hfz19_3, hfz19_4, hfz19_5⟩ := bx6 BK285) | ((with_reducible refine gate_callee (f := 48) rfl ?_); refine gL (some 25) Try.func48 #[.int .i64 (wrap64 ((wrap64 ((wrap64 (a1_2)) * (wrap64 (a1_2)))) - (wrap64 (t286 * t286))))] ?_; (with_reducible refine (impl_root.calls k (wrap64 ((wrap64 ((wrap64 (a1_2)) * (wrap64 (a1_2)))) - (wrap64 (t286 * t286)))) t287 _ A12.out).mono ?_); rintro e w' ⟨rfl, ⟨nd, rfl⟩⟩; refine ⟨_, rfl, ?_⟩))
  go_ret
  exact ⟨by first | rfl | (simp [errW_none, errW_some] <;> rfl) | (simp [*, errW_none, errW_some] <;> rfl), be HB⟩

/-! ### impl_swingOf: function 40 -/
def impl_swingOf.f (k : Nat) (a0_0 : Int) (a0_1 : Int) (a0_2 : (Nat → Int)) (a1_0 : Int) (a1_1 : Int) (a1_2 : Int) (a1_3 : Int) (a1_4 : Int) (a1_5 : Int) : Option (Int) := (impl_reachOf.f k a0_0 a0_1 a0_2 a1_0 a1_1 a1_2 a1_3 a1_4 a1_5).bind fun t290 => (some (wrap64 (t290 + (wrap64 (a1_3)))))
def impl_swingOf.T1 : Bool × List (List Nat × List Nat) := (true, [([], []), ([], []), ([0, 1], [0, 1]), ([], []), ([3], [3]), ([4], [4]), ([2, 5], [2, 5]), ([6, 2, 0, 1, 2, 3, 4, 5, 6], [6])])
def impl_swingOf.B1 : List Nat := [0, 0, 3, 0, 8, 24, 63, 127]
theorem impl_swingOf.tab1 : rtab .any (opsOf Try.f40 1) = impl_swingOf.T1 := by kernel_rfl
theorem impl_swingOf.bits1 : waitsOk impl_swingOf.T1.2 impl_swingOf.B1 = true := by kernel_rfl
set_option maxHeartbeats 8000000 in
set_option maxRecDepth 100000 in
theorem impl_swingOf.calls (k : Nat) (a0_0 : Int) (a0_1 : Int) (a0_2 : (Nat → Int)) (a1_0 : Int) (a1_1 : Int) (a1_2 : Int) (a1_3 : Int) (a1_4 : Int) (a1_5 : Int) (r : Int) (w : World) (h : impl_swingOf.f k a0_0 a0_1 a0_2 a1_0 a1_1 a1_2 a1_3 a1_4 a1_5 = some r) :
  Calls Try.prog 40 #[.agg (csBay a0_0 a0_1 a0_2), .agg #[.int .i8 a1_0, .int .i8 a1_1, .int .i8 a1_2, .int .i8 a1_3, .int .i8 a1_4, .int .i8 a1_5]] w fun e w' => e = .returned (.int .i64 r) ∧ Below w.heap.size w w' := by
 have hu32 := Try.underlying32
 have hu48 := Try.underlying48
 have HB := am (Below.refl w.heap.size w)
 have H : ((impl_reachOf.f k a0_0 a0_1 a0_2 a1_0 a1_1 a1_2 a1_3 a1_4 a1_5).bind fun t290 => (some (wrap64 (t290 + (wrap64 (a1_3)))))) = some r := h
 clear h
 replace H := Option.bind_eq_some_iff.mp H
 obtain ⟨t290, A30, H⟩ := H
 try dsimp only at H
 have A3 := am A30
 clear A30
 obtain rfl := Option.some.inj H
 go_enter Try.func40, Try.ntmps40
 try go_wp2_with (first | ((with_reducible refine gate_dst (N := 2) rfl ?_); refine bxe (N := 2) (cs := (csBay a0_0 a0_1 a0_2)) (t := 32) ?_; intro gb288 hg w4 hbox hb; have BK288 := am (hbox); have GW288 := am (gN hg (below_size (be HB))); have GE288 := am (gN hg (below_size (be HB))); replace HB := am (below_step (be HB) hb); clear hb hbox hg) | ((with_reducible refine gate_dst (N := 3) rfl ?_); refine bxe (N := 3) (cs := #[.int .i8 a1_0, .int .i8 a1_1, .int .i8 a1_2, .int .i8 a1_3, .int .i8 a1_4, .int .i8 a1_5]) (t := 48) ?_; intro gb289 hg w5 hbox hb; have BK289 := am (hbox); have GW289 := am (gN hg (below_size (be HB))); have GE289 := am (gN hg (below_size (be HB))); have NB288_289 := nL BK288 hg; have NB289_288 := nR BK288 hg; replace BK288 := bB BK288 hb; replace HB := am (below_step (be HB) hb); clear hb hbox hg))
 have n0_ := am (blk_drew BK288.out)
 have n1_ := am (blk_drew BK289.out)
 have n2_ := am (below_drew1 HB.out)
 clear BK288
 clear BK289
 clear HB
 have BK288 := n0_
 have BK289 := n1_
 have HB := n2_
 clear n0_ n1_ n2_
 refine start_ (n := 8) (S := fun w' => w'.cell? ⟨gb288, 0, none⟩ = some (.int .i8 a0_0) ∧ w'.cell? ⟨gb288, 1, none⟩ = some (.int .i8 a0_1) ∧ atCells w' gb288 a0_2 ∧ BayAt32 w' gb288 ∧ lvv w' gb288 = .agg (csBay a0_0 a0_1 a0_2) ∧ w'.cell? ⟨gb289, 0, none⟩ = some (.int .i8 a1_0) ∧ w'.cell? ⟨gb289, 1, none⟩ = some (.int .i8 a1_1) ∧ w'.cell? ⟨gb289, 2, none⟩ = some (.int .i8 a1_2) ∧ w'.cell? ⟨gb289, 3, none⟩ = some (.int .i8 a1_3) ∧ w'.cell? ⟨gb289, 4, none⟩ = some (.int .i8 a1_4) ∧ w'.cell? ⟨gb289, 5, none⟩ = some (.int .i8 a1_5)) (ds := []) #[false, false, false, false, false, false, false, false] (by kernel_rfl) rfl rfl ⟨(blk_cell BK288.out 0).trans rfl, (blk_cell BK288.out 1).trans rfl, at_cells BK288.out, BayAt32_of BK288.out, lvv_of BK288.out, (blk_cell BK289.out 0).trans rfl, (blk_cell BK289.out 1).trans rfl, (blk_cell BK289.out 2).trans rfl, (blk_cell BK289.out 3).trans rfl, (blk_cell BK289.out 4).trans rfl, (blk_cell BK289.out 5).trans rfl⟩ (fun hHeld => ?_); refine with_tabW impl_swingOf.tab1 impl_swingOf.bits1 (fun HT_ HW_ => ?_)
 generalize w5.drew = w6 at BK288 BK289 HB hHeld ⊢
 refine pS (i := 3) (some 8) #[false, false, false, true, false, false, false, false] (any_of HT_.out (by kernel_rfl)) ?_
 refine tS (i := 0) (some 5) #[true, false, false, true, false, false, false, false] (take_ofW HT_.out HW_.out (by kernel_rfl)) hHeld ?_
 refine tS (i := 1) (some 6) #[true, true, false, true, false, false, false, false] (take_ofW HT_.out HW_.out (by kernel_rfl)) hHeld ?_
 refine tS (i := 4) (some 9) #[true, true, false, true, true, false, false, false] (take_ofW HT_.out HW_.out (by kernel_rfl)) hHeld ?_
 refine pS (i := 5) (some 10) #[true, true, false, true, true, true, false, false] (any_of HT_.out (by kernel_rfl)) ?_
 refine one_ (i := 2) (N := some 7) #[true, true, true, true, true, true, false, false] rfl rfl (one_of HT_.out (by kernel_rfl)) (by decide) (fun K hK => ?_)
 refine goes_ Try.func39 (by kernel_rfl) rfl #[.agg (csBay a0_0 a0_1 a0_2), .agg #[.int .i8 a1_0, .int .i8 a1_1, .int .i8 a1_2, .int .i8 a1_3, .int .i8 a1_4, .int .i8 a1_5]] (by rfl) rfl rfl (by (try simp only [List.map_toArray, List.map_cons, List.map_nil]); first | done | rfl | (simp only [List.length_drop, List.length_take]; rfl)) ?_
 with_reducible refine (impl_reachOf.calls k a0_0 a0_1 a0_2 a1_0 a1_1 a1_2 a1_3 a1_4 a1_5 t290 _ A3.out).mono ?_
 rintro e w7 ⟨rfl, hb⟩
 refine ⟨_, rfl, ?_⟩
 have n0_ := bB BK288 hb
 have n1_ := bB BK289 hb
 have n2_ := am (below_step (be HB) hb)
 clear BK288
 clear BK289
 clear HB
 have BK288 := n0_
 have BK289 := n1_
 have HB := n2_
 clear n0_ n1_ n2_
 (try clear hb)
 (try clear hb2)
 (try clear hk)
 (try clear hi)
 refine hK.out _ _ ⟨(blk_cell BK288.out 0).trans rfl, (blk_cell BK288.out 1).trans rfl, at_cells BK288.out, BayAt32_of BK288.out, lvv_of BK288.out, (blk_cell BK289.out 0).trans rfl, (blk_cell BK289.out 1).trans rfl, (blk_cell BK289.out 2).trans rfl, (blk_cell BK289.out 3).trans rfl, (blk_cell BK289.out 4).trans rfl, (blk_cell BK289.out 5).trans rfl⟩ (fun hHeld => ?_)
 clear hK K
 refine norm_ (a' := ?_) ?_ ?_
 rotate_left
 ·show Act.put _ (some 7) _ = _
  simp only [Act.put, List.setIfInBounds_toArray, List.set_cons_zero, List.set_cons_succ, i64_w, i32_w]
  rfl
 refine pS (i := 6) (some 11) #[true, true, true, true, true, true, true, false] (any_of HT_.out (by kernel_rfl)) ?_
 refine pS (i := 7) (some 4) #[true, true, true, true, true, true, true, true] (any_of HT_.out (by kernel_rfl)) ?_
 refine done_ (done_of HT_.out (by kernel_rfl)) ?_
 try go_wp2
 go_ret
 exact ⟨by first | rfl | (simp [errW_none, errW_some] <;> rfl) | (simp [*, errW_none, errW_some] <;> rfl), be HB⟩

/-! ### impl_far: function 42 -/
def impl_far.f (a0_0 : Int) (a0_1 : Int) (a1_0 : Int) (a1_1 : Int) : Option (Int) := some (wrap64 ((wrap64 ((wrap64 ((wrap64 (a0_0)) - (wrap64 (a1_0)))) * (wrap64 ((wrap64 (a0_0)) - (wrap64 (a1_0)))))) + (wrap64 ((wrap64 ((wrap64 (a0_1)) - (wrap64 (a1_1)))) * (wrap64 ((wrap64 (a0_1)) - (wrap64 (a1_1))))))))
set_option maxHeartbeats 8000000 in
set_option maxRecDepth 100000 in
theorem impl_far.calls (a0_0 : Int) (a0_1 : Int) (a1_0 : Int) (a1_1 : Int) (r : Int) (w : World) (h : impl_far.f a0_0 a0_1 a1_0 a1_1 = some r) :
  Calls Try.prog 42 #[.agg #[.int .i8 a0_0, .int .i8 a0_1], .agg #[.int .i8 a1_0, .int .i8 a1_1]] w fun e w' => e = .returned (.int .i64 r) ∧ Below w.heap.size w w' := by
 have hu46 := Try.underlying46
 have HB := am (Below.refl w.heap.size w)
 have H : (some (wrap64 ((wrap64 ((wrap64 ((wrap64 (a0_0)) - (wrap64 (a1_0)))) * (wrap64 ((wrap64 (a0_0)) - (wrap64 (a1_0)))))) + (wrap64 ((wrap64 ((wrap64 (a0_1)) - (wrap64 (a1_1)))) * (wrap64 ((wrap64 (a0_1)) - (wrap64 (a1_1))))))))) = some r := h
 clear h
 obtain rfl := Option.some.inj H
 go_enter Try.func42, Try.ntmps42
 go_wp2_with (first | ((with_reducible refine gate_dst (N := 2) rfl ?_); refine bxe (N := 2) (cs := #[.int .i8 a0_0, .int .i8 a0_1]) (t := 46) ?_; intro gb291 hg w3 hbox hb; have BK291 := am (hbox); have GW291 := am (gN hg (below_size (be HB))); have GE291 := am (gN hg (below_size (be HB))); replace HB := am (below_step (be HB) hb); clear hb hbox hg) | ((with_reducible refine gate_dst (N := 3) rfl ?_); refine bxe (N := 3) (cs := #[.int .i8 a1_0, .int .i8 a1_1]) (t := 46) ?_; intro gb292 hg w4 hbox hb; have BK292 := am (hbox); have GW292 := am (gN hg (below_size (be HB))); have GE292 := am (gN hg (below_size (be HB))); have NB291_292 := nL BK291 hg; have NB292_291 := nR BK291 hg; replace BK291 := bB BK291 hb; replace HB := am (below_step (be HB) hb); clear hb hbox hg; have hnb5 := NB291_292.out; have hnc5 := NB292_291.out; obtain ⟨hcz6_0, hcz6_1, hfz6_0, hfz6_1⟩ := bx2 BK291; obtain ⟨hcz7_0, hcz7_1, hfz7_0, hfz7_1⟩ := bx2 BK292))
 repeat (go_quiet (first | ((with_reducible refine gate_dst (N := 2) rfl ?_); refine bxe (N := 2) (cs := #[.int .i8 a0_0, .int .i8 a0_1]) (t := 46) ?_; intro gb291 hg w3 hbox hb; have BK291 := am (hbox); have GW291 := am (gN hg (below_size (be HB))); have GE291 := am (gN hg (below_size (be HB))); replace HB := am (below_step (be HB) hb); clear hb hbox hg) | ((with_reducible refine gate_dst (N := 3) rfl ?_); refine bxe (N := 3) (cs := #[.int .i8 a1_0, .int .i8 a1_1]) (t := 46) ?_; intro gb292 hg w4 hbox hb; have BK292 := am (hbox); have GW292 := am (gN hg (below_size (be HB))); have GE292 := am (gN hg (below_size (be HB))); have NB291_292 := nL BK291 hg; have NB292_291 := nR BK291 hg; replace BK291 := bB BK291 hb; replace HB := am (below_step (be HB) hb); clear hb hbox hg; have hnb5 := NB291_292.out; have hnc5 := NB292_291.out; obtain ⟨hcz6_0, hcz6_1, hfz6_0, hfz6_1⟩ := bx2 BK291; obtain ⟨hcz7_0, hcz7_1, hfz7_0, hfz7_1⟩ := bx2 BK292)); try go_wp2_with (first | ((with_reducible refine gate_dst (N := 2) rfl ?_); refine bxe (N := 2) (cs := #[.int .i8 a0_0, .int .i8 a0_1]) (t := 46) ?_; intro gb291 hg w3 hbox hb; have BK291 := am (hbox); have GW291 := am (gN hg (below_size (be HB))); have GE291 := am (gN hg (below_size (be HB))); replace HB := am (below_step (be HB) hb); clear hb hbox hg) | ((with_reducible refine gate_dst (N := 3) rfl ?_); refine bxe (N := 3) (cs := #[.int .i8 a1_0, .int .i8 a1_1]) (t := 46) ?_; intro gb292 hg w4 hbox hb; have BK292 := am (hbox); have GW292 := am (gN hg (below_size (be HB))); have GE292 := am (gN hg (below_size (be HB))); have NB291_292 := nL BK291 hg; have NB292_291 := nR BK291 hg; replace BK291 := bB BK291 hb; replace HB := am (below_step (be HB) hb); clear hb hbox hg; have hnb5 := NB291_292.out; have hnc5 := NB292_291.out; obtain ⟨hcz6_0, hcz6_1, hfz6_0, hfz6_1⟩ := bx2 BK291; obtain ⟨hcz7_0, hcz7_1, hfz7_0, hfz7_1⟩ := bx2 BK292)))
 go_ret
 exact ⟨by first | rfl | (simp [errW_none, errW_some] <;> rfl) | (simp [*, errW_none, errW_some] <;> rfl), be HB⟩

/-! ### impl_allPlaces: function 51 -/
mutual
def impl_allPlaces.l0 : Nat → List (S46) → Int → Int → Int → Int → (Nat → Int) → Option ((List (S46)))
 | 0, _, _, _, _, _, _ => none
 | k + 1, x3, x8, x9, x294000, x294001, x294002 => if x9 < x8 then (impl_allPlaces.l1 k x3 x9 x8 x9 x294000 0 x294000 x294001 x294002) else (some x3)
def impl_allPlaces.l1 : Nat → List (S46) → Int → Int → Int → Int → Int → Int → Int → (Nat → Int) → Option ((List (S46)))
 | 0, _, _, _, _, _, _, _, _, _ => none
 | k + 1, x3, x4, x8, x9, x13, x14, x294000, x294001, x294002 => if x14 < x13 then (if x3.length < 70368744177664 then (impl_allPlaces.l1 k (x3 ++ [(⟨x14, x4⟩ : S46)]) x4 x8 x9 x13 (IntKind.i8.wrap (x14 + 1)) x294000 x294001 x294002) else (none)) else (impl_allPlaces.l0 k x3 x8 (IntKind.i8.wrap (x9 + 1)) x294000 x294001 x294002)
end
def impl_allPlaces.f (k : Nat) (a0_0 : Int) (a0_1 : Int) (a0_2 : (Nat → Int)) : Option ((List (S46))) := impl_allPlaces.l0 k (([] : List (S46))) a0_1 0 a0_0 a0_1 a0_2
set_option maxHeartbeats 8000000 in
set_option maxRecDepth 100000 in
theorem impl_allPlaces.calls (k : Nat) (a0_0 : Int) (a0_1 : Int) (a0_2 : (Nat → Int)) (r : List (S46)) (w : World) (h : impl_allPlaces.f k a0_0 a0_1 a0_2 = some r) :
  Calls Try.prog 51 #[.agg (csBay a0_0 a0_1 a0_2)] w fun e w' => ∃ v0_ : Value, e = .returned (v0_) ∧ Kd.R k46 46 w' w.heap.size (fun _ => True) v0_ r ∧ Below w.heap.size w w' := by
 have hu32 := Try.underlying32
 have hu46 := Try.underlying46
 have HB := am (Below.refl w.heap.size w)
 have H : (impl_allPlaces.l0 k (([] : List (S46))) a0_1 0 a0_0 a0_1 a0_2) = some r := h
 clear h
 obtain ⟨y294, hy294⟩ : ∃ y_ : List (S46), y_ = (([] : List (S46))) := ⟨_, rfl⟩
 replace H : (impl_allPlaces.l0 k y294 a0_1 0 a0_0 a0_1 a0_2) = some r := by first | (rw [hy294]; with_reducible exact H) | (have H2_ := (Option.bind_some _ _).symm.trans H; rw [hy294]; with_reducible exact H2_) | (have H2_ := (Option.bind_some _ _).symm.trans H; with_reducible exact H2_) | with_reducible exact H | (rw [hy294]; exact H) | exact H
 have Ny294 := am hy294
 clear hy294
 have H' := am H
 clear H
 go_enter Try.func51, Try.ntmps51
 go_wp2_with (first | ((with_reducible refine gate_dst (N := 1) rfl ?_); refine bxe (N := 1) (cs := (csBay a0_0 a0_1 a0_2)) (t := 32) ?_; intro gb293 hg w2 hbox hb; have BK293 := am (hbox); have GW293 := am (gN hg (below_size (be HB))); have GE293 := am (gN hg (below_size (be HB))); replace HB := am (below_step (be HB) hb); clear hb hbox hg) | ((with_reducible refine gate_dst (N := 6) rfl ?_); refine Kd.R_lit k46 _ 46 ?hg (N := 6) ?hd (xs := ([] : List (S46))) (inner := []) (ok := fun _ => True) (okp := fun _ => True) ?hr ?hp (fun _ hk => hk) trivial (Below.refl _ _) (Nat.le_refl _) (by simp) ?_; (case hd => rfl); (case hg => rfl); (case hr => first | (go_simp; done) | (go_simp; rfl)); (case hp => exact (Reps.none _ _)); intro v295 w3 ho4 hb hg_ hnew_; clear hg_ hnew_; (first | rw [← Ny294.out] at ho4 | (simp only [Int.reduceToNat] at ho4; rw [← Ny294.out] at ho4)); have HO296 := am (Kd.R_lower ho4 (below_size (be HB))); replace BK293 := bB BK293 hb; replace HB := am (below_step (be HB) hb); clear hb ho4; obtain ⟨hcz5_0, hcz5_1, hwz5, haz5, hyz5, hvz5, hfz5_0, hfz5_1, hfz5_2⟩ := bb32 BK293))
 go_loopg [3, 9] k (fun kq v3 v9 w' => ∃ (x3_1 : List (S46)) (x9_1 : Int), v9 = .int .i8 x9_1 ∧ Aside0 (impl_allPlaces.l0 kq x3_1 a0_1 x9_1 a0_0 a0_1 a0_2 = some r) ∧ Aside0 (kq ≤ k) ∧ Aside0 (Kd.R k46 46 w' w.heap.size (fun _ => True) v3 x3_1) ∧ Aside0 (w'.heap[gb293]? = some (.cells (csBay a0_0 a0_1 a0_2) 32 (0, 0))) ∧ Aside0 (Below w.heap.size w w'))
 case atStart => exact ⟨(y294), (0), vv, H', ⟨Nat.le_refl _⟩, ⟨kr HO296⟩, ⟨kb BK293⟩, ⟨be HB⟩⟩
 case round =>
  clear H'
  try clear p2
  try clear c5
  try clear hcz5_0
  try clear hcz5_1
  try clear hfz5_0
  try clear hfz5_1
  try clear hfz5_2
  obtain ⟨x3_1, x9_1, rfl, HA, HK1, HO_3, BK293, HB⟩ := hrel
  cases gk with
  | zero => exact absurd HA.out (by simp [impl_allPlaces.l0])
  | succ k1 =>
   have H := HA.out
   clear HA
   simp only [impl_allPlaces.l0] at H
   by_cases c6 : x9_1 < a0_1
   ·rw [if_pos c6] at H
    have c6b0 : decide (x9_1 < a0_1) = true := decide_eq_true c6
    clear c6
    have H' := am H
    clear H
    have hcz7_0 : wr.cell? ⟨gb293, 0, none⟩ = some (.int .i8 a0_0) := (blk_cell BK293.out 0).trans rfl
    have hcz7_1 : wr.cell? ⟨gb293, 1, none⟩ = some (.int .i8 a0_1) := (blk_cell BK293.out 1).trans rfl
    have hwz7 := lv32_at BK293.out; have haz7 := at_cells BK293.out; have hyz7 := BayAt32_of BK293.out; have hvz7 := lvv_of BK293.out
    have hfz7_0 := blk_frozen BK293.out 0
    have hfz7_1 := blk_frozen BK293.out 1
    have hfz7_2 := blk_frozen BK293.out 2
    go_wp2
    go_loopg [3, 14] k1 (fun kq v3 v14 w' => ∃ (x3_2 : List (S46)) (x14_2 : Int), v14 = .int .i8 x14_2 ∧ Aside0 (impl_allPlaces.l1 kq x3_2 x9_1 a0_1 x9_1 a0_0 x14_2 a0_0 a0_1 a0_2 = some r) ∧ Aside0 (kq ≤ k1) ∧ Aside0 (Kd.R k46 46 w' w.heap.size (fun _ => True) v3 x3_2) ∧ Aside0 (w'.heap[gb293]? = some (.cells (csBay a0_0 a0_1 a0_2) 32 (0, 0))) ∧ Aside0 (Below w.heap.size w w'))
    case atStart => exact ⟨(x3_1), (0), vv, H', ⟨Nat.le_refl _⟩, ⟨kr HO_3⟩, ⟨kb BK293⟩, ⟨be HB⟩⟩
    case round =>
     clear H'
     try clear p2
     try clear c5
     try clear c6
     try clear c6b0
     try clear hcz5_0
     try clear hcz5_1
     try clear hcz7_0
     try clear hcz7_1
     try clear hfz5_0
     try clear hfz5_1
     try clear hfz5_2
     try clear hfz7_0
     try clear hfz7_1
     try clear hfz7_2
     try clear p2
     obtain ⟨x3_2, x14_2, rfl, HA, HK2, HO_3, BK293, HB⟩ := hrel
     cases gk with
     | zero => exact absurd HA.out (by simp [impl_allPlaces.l1])
     | succ k2 =>
      have H := HA.out
      clear HA
      simp only [impl_allPlaces.l1] at H
      by_cases c8 : x14_2 < a0_0
      ·rw [if_pos c8] at H
       have c8b0 : decide (x14_2 < a0_0) = true := decide_eq_true c8
       clear c8
       by_cases c9 : x3_2.length < 70368744177664
       ·rw [if_pos c9] at H
        have LMc9 := am c9
        clear c9
        obtain ⟨y297, hy297⟩ : ∃ y_ : List (S46), y_ = (x3_2 ++ [(⟨x14_2, x9_1⟩ : S46)]) := ⟨_, rfl⟩
        replace H : (impl_allPlaces.l1 k2 y297 x9_1 a0_1 x9_1 a0_0 (IntKind.i8.wrap (x14_2 + 1)) a0_0 a0_1 a0_2) = some r := by first | (rw [hy297]; with_reducible exact H) | (have H2_ := (Option.bind_some _ _).symm.trans H; rw [hy297]; with_reducible exact H2_) | (have H2_ := (Option.bind_some _ _).symm.trans H; with_reducible exact H2_) | with_reducible exact H | (rw [hy297]; exact H) | exact H
        have Ny297 := am hy297
        clear hy297
        have H' := am H
        clear H
        go_wp2_with (first | ((with_reducible refine gate_builtin (b := .append) (xs := #[.tmp 17, .tmp 21]) rfl ?_); at_builtin; refine Kd.R_append k46 (w0 := w) w.heap.size rfl (.tmp 17) (.tmp 21) 73 46 (.agg #[(.int .i8 0), (.int .i8 0)]) 2 rfl Try.underlying73 info46 rfl (by decide) (by omega) u3 x3_2 (⟨x14_2, x9_1⟩ : S46) [.int .i8 x14_2, .int .i8 x9_1] (fun _ => True) (fun _ => False) rfl rfl ?aP (fun _ hk => hk.elim) ?aF ?aO ?aB ?aS ?aL ?_; (case aP => exact k46_mkM _ _ _ (⟨x14_2, x9_1⟩ : S46)); (case aB => exact (be HB)); (case aF => exact (fun _ _ => trivial)); (case aO => exact (kr HO_3)); (case aS => exact (below_size (be HB))); (case aL => have := LMc9.out; omega); intro v298 w10 ho hb hg hat; rw [← Ny297.out] at ho; have HO299 := am (ho); replace BK293 := am (blk_grown (g := gb293) (o := .cells (csBay a0_0 a0_1 a0_2) 32 (0, 0)) (kb BK293) hg (Kd.R_ne HO_3.out BK293.out (by decide))); replace HB := am (hb); clear HO_3; clear ho hb hg hat))
        go_roundg k2
        case measure => have := HK1.out; have := HK2.out; omega
        case rel => exact ⟨(y297), (IntKind.i8.wrap (x14_2 + 1)), vv, H', ⟨by have := HK1.out; have := HK2.out; omega⟩, ⟨kr HO299⟩, ⟨kb BK293⟩, ⟨be HB⟩⟩
       ·rw [if_neg c9] at H
        exact absurd H (by simp)
      ·rw [if_neg c8] at H
       have c8b0 : decide (x14_2 < a0_0) = false := decide_eq_false c8
       clear c8
       have H' := am H
       clear H
       go_wp2
       go_roundg k2
       case measure => have := HK1.out; have := HK2.out; omega
       case rel => exact ⟨(x3_2), (IntKind.i8.wrap (x9_1 + 1)), vv, H', ⟨by have := HK1.out; have := HK2.out; omega⟩, ⟨kr HO_3⟩, ⟨kb BK293⟩, ⟨be HB⟩⟩
   ·rw [if_neg c6] at H
    have c6b0 : decide (x9_1 < a0_1) = false := decide_eq_false c6
    clear c6
    obtain rfl := Option.some.inj H
    go_wp2
    go_ret
    exact ⟨_, by first | rfl | (simp [errW_none, errW_some] <;> rfl) | (simp [*, errW_none, errW_some] <;> rfl), by (with_reducible repeat (first | apply Kd.R_alloc | apply Kd.R_drewN | apply Kd.R_drew)); exact HO_3.out, be HB⟩

/-! ### impl_swingPlaces: function 49 -/
def impl_swingPlaces.l0 : Nat → Int → List (S46) → List (S46) → Int → Int → Int → Int → Int → Int → Int → Int → Option ((List (S46)))
 | 0, _, _, _, _, _, _, _, _, _, _, _ => none
 | k + 1, x5, x6, x14, x15, x16, x302000, x302001, x302002, x302003, x302004, x302005 => if x16 < x15 then (if 0 ≤ x16 then (if x16 < (x14.length : Int) then ((impl_far.f ((rd_T46 x14 x16).f0) ((rd_T46 x14 x16).f1) x302000 x302001).bind fun t311 => (if t311 ≤ (wrap64 (x5 * x5)) then (if x6.length < 70368744177664 then (impl_swingPlaces.l0 k x5 (x6 ++ [(⟨(rd_T46 x14 x16).f0, (rd_T46 x14 x16).f1⟩ : S46)]) x14 x15 (wrap64 (x16 + 1)) x302000 x302001 x302002 x302003 x302004 x302005) else (none)) else (impl_swingPlaces.l0 k x5 x6 x14 x15 (wrap64 (x16 + 1)) x302000 x302001 x302002 x302003 x302004 x302005))) else (none)) else (none)) else (some x6)
def impl_swingPlaces.f (k : Nat) (a0_0 : Int) (a0_1 : Int) (a0_2 : (Nat → Int)) (a1_0 : Int) (a1_1 : Int) (a1_2 : Int) (a1_3 : Int) (a1_4 : Int) (a1_5 : Int) : Option ((List (S46))) := (impl_swingOf.f k a0_0 a0_1 a0_2 a1_0 a1_1 a1_2 a1_3 a1_4 a1_5).bind fun t302 => ((impl_allPlaces.f k a0_0 a0_1 a0_2).bind fun t306 => (impl_swingPlaces.l0 k t302 (([] : List (S46))) t306 (t306.length : Int) 0 a1_0 a1_1 a1_2 a1_3 a1_4 a1_5))
set_option maxHeartbeats 8000000 in
set_option maxRecDepth 100000 in
theorem impl_swingPlaces.calls (k : Nat) (a0_0 : Int) (a0_1 : Int) (a0_2 : (Nat → Int)) (a1_0 : Int) (a1_1 : Int) (a1_2 : Int) (a1_3 : Int) (a1_4 : Int) (a1_5 : Int) (r : List (S46)) (w : World) (h : impl_swingPlaces.f k a0_0 a0_1 a0_2 a1_0 a1_1 a1_2 a1_3 a1_4 a1_5 = some r) :
  Calls Try.prog 49 #[.agg (csBay a0_0 a0_1 a0_2), .agg #[.int .i8 a1_0, .int .i8 a1_1, .int .i8 a1_2, .int .i8 a1_3, .int .i8 a1_4, .int .i8 a1_5]] w fun e w' => ∃ v0_ : Value, e = .returned (v0_) ∧ Kd.R k46 46 w' w.heap.size (fun _ => True) v0_ r ∧ Below w.heap.size w w' := by
 have hu32 := Try.underlying32
 have hu48 := Try.underlying48
 have hu46 := Try.underlying46
 have HB := am (Below.refl w.heap.size w)
 have H : ((impl_swingOf.f k a0_0 a0_1 a0_2 a1_0 a1_1 a1_2 a1_3 a1_4 a1_5).bind fun t302 => ((impl_allPlaces.f k a0_0 a0_1 a0_2).bind fun t306 => (impl_swingPlaces.l0 k t302 (([] : List (S46))) t306 (t306.length : Int) 0 a1_0 a1_1 a1_2 a1_3 a1_4 a1_5))) = some r := h
 clear h
 replace H := Option.bind_eq_some_iff.mp H
 obtain ⟨t302, A30, H⟩ := H
 try dsimp only at H
 have A3 := am A30
 clear A30
 obtain ⟨y303, hy303⟩ : ∃ y_ : List (S46), y_ = (([] : List (S46))) := ⟨_, rfl⟩
 replace H : ((impl_allPlaces.f k a0_0 a0_1 a0_2).bind fun t306 => (impl_swingPlaces.l0 k t302 y303 t306 (t306.length : Int) 0 a1_0 a1_1 a1_2 a1_3 a1_4 a1_5)) = some r := by first | (rw [hy303]; with_reducible exact H) | (have H2_ := (Option.bind_some _ _).symm.trans H; rw [hy303]; with_reducible exact H2_) | (have H2_ := (Option.bind_some _ _).symm.trans H; with_reducible exact H2_) | with_reducible exact H | (rw [hy303]; exact H) | exact H
 have Ny303 := am hy303
 clear hy303
 replace H := Option.bind_eq_some_iff.mp H
 obtain ⟨t306, A40, H⟩ := H
 try dsimp only at H
 have A4 := am A40
 clear A40
 have H' := am H
 clear H
 go_enter Try.func49, Try.ntmps49
 go_wp2_with (first | ((with_reducible refine gate_dst (N := 2) rfl ?_); refine bxe (N := 2) (cs := (csBay a0_0 a0_1 a0_2)) (t := 32) ?_; intro gb300 hg w5 hbox hb; have BK300 := am (hbox); have GW300 := am (gN hg (below_size (be HB))); have GE300 := am (gN hg (below_size (be HB))); replace HB := am (below_step (be HB) hb); clear hb hbox hg) | ((with_reducible refine gate_dst (N := 3) rfl ?_); refine bxe (N := 3) (cs := #[.int .i8 a1_0, .int .i8 a1_1, .int .i8 a1_2, .int .i8 a1_3, .int .i8 a1_4, .int .i8 a1_5]) (t := 48) ?_; intro gb301 hg w6 hbox hb; have BK301 := am (hbox); have GW301 := am (gN hg (below_size (be HB))); have GE301 := am (gN hg (below_size (be HB))); have NB300_301 := nL BK300 hg; have NB301_300 := nR BK300 hg; replace BK300 := bB BK300 hb; replace HB := am (below_step (be HB) hb); clear hb hbox hg; have hnb7 := NB300_301.out; have hnc7 := NB301_300.out; obtain ⟨hcz8_0, hcz8_1, hwz8, haz8, hyz8, hvz8, hfz8_0, hfz8_1, hfz8_2⟩ := bb32 BK300; obtain ⟨hcz9_0, hcz9_1, hcz9_2, hcz9_3, hcz9_4, hcz9_5, hfz9_0, hfz9_1, hfz9_2, hfz9_3, hfz9_4, hfz9_5⟩ := bx6 BK301) | ((with_reducible refine gate_callee (f := 40) rfl ?_); refine gL (some 11) Try.func40 #[.agg (csBay a0_0 a0_1 a0_2), .agg #[.int .i8 a1_0, .int .i8 a1_1, .int .i8 a1_2, .int .i8 a1_3, .int .i8 a1_4, .int .i8 a1_5]] ?_; (with_reducible refine (impl_swingOf.calls k a0_0 a0_1 a0_2 a1_0 a1_1 a1_2 a1_3 a1_4 a1_5 t302 _ A3.out).mono ?_); rintro e w10 ⟨rfl, hb⟩; refine ⟨_, rfl, ?_⟩; replace BK300 := bB BK300 hb; replace BK301 := bB BK301 hb; replace HB := am (below_step (be HB) hb); (try clear hb); (try clear hb2); (try clear hk); (try clear hi)) | ((with_reducible refine gate_dst (N := 12) rfl ?_); refine Kd.R_lit k46 _ 46 ?hg (N := 12) ?hd (xs := ([] : List (S46))) (inner := []) (ok := fun _ => True) (okp := fun _ => True) ?hr ?hp (fun _ hk => hk) trivial (Below.refl _ _) (Nat.le_refl _) (by simp) ?_; (case hd => rfl); (case hg => rfl); (case hr => first | (go_simp; done) | (go_simp; rfl)); (case hp => exact (Reps.none _ _)); intro v304 w11 ho12 hb hg_ hnew_; clear hg_ hnew_; (first | rw [← Ny303.out] at ho12 | (simp only [Int.reduceToNat] at ho12; rw [← Ny303.out] at ho12)); have HO305 := am (Kd.R_lower ho12 (below_size (be HB))); replace BK300 := bB BK300 hb; replace BK301 := bB BK301 hb; replace HB := am (below_step (be HB) hb); clear hb ho12; obtain ⟨hcz13_0, hcz13_1, hwz13, haz13, hyz13, hvz13, hfz13_0, hfz13_1, hfz13_2⟩ := bb32 BK300) | ((with_reducible refine gate_callee (f := 51) rfl ?_); refine gL (some 14) Try.func51 #[.agg (csBay a0_0 a0_1 a0_2)] ?_; (with_reducible refine (impl_allPlaces.calls k a0_0 a0_1 a0_2 t306 _ A4.out).mono ?_); rintro e w14 ⟨v307, rfl, ho0, hb⟩; refine ⟨_, rfl, ?_⟩; have HO308 := am (Kd.R_lower (Kd.R_new' ho0 (Kd.R_lt (kr HO305))) (below_size (be HB))); replace HO305 := am (Kd.R_elder' (kr HO305) (Kd.R_base ho0) hb); replace BK300 := bB BK300 hb; replace BK301 := bB BK301 hb; replace HB := am (below_step (be HB) hb); (try clear hb); (try clear hb2); (try clear hk); (try clear hi); (try clear ho0); obtain ⟨Ao15, co15, eo15⟩ := Kd.R_slice HO308.out; subst eo15))
 go_loopg [6, 16] k (fun kq v6 v16 w' => ∃ (x6_1 : List (S46)) (x16_1 : Int), v16 = .int .i64 x16_1 ∧ Aside0 (impl_swingPlaces.l0 kq t302 x6_1 t306 (t306.length : Int) x16_1 a1_0 a1_1 a1_2 a1_3 a1_4 a1_5 = some r) ∧ Aside0 (kq ≤ k) ∧ Aside0 (Kd.R k46 46 w' w.heap.size (fun k_ => some k_ ≠ ((.slice Ao15 t306.length co15) : Value).ownBlock) v6 x6_1) ∧ Aside0 (Kd.R k46 46 w' w.heap.size (fun k_ => some k_ ≠ (v6 : Value).ownBlock) (.slice Ao15 t306.length co15) t306) ∧ Aside0 (w'.heap[gb300]? = some (.cells (csBay a0_0 a0_1 a0_2) 32 (0, 0))) ∧ Aside0 (w'.heap[gb301]? = some (.cells #[.int .i8 a1_0, .int .i8 a1_1, .int .i8 a1_2, .int .i8 a1_3, .int .i8 a1_4, .int .i8 a1_5] 48 (0, 0))) ∧ Aside0 (Below w.heap.size w w'))
 case atStart => exact ⟨(y303), (0), vv, H', ⟨Nat.le_refl _⟩, ⟨by (with_reducible repeat (first | apply Kd.R_alloc | apply Kd.R_drewN | apply Kd.R_drew)); exact Kd.R_mono HO305.out (fun _ hk => hk.2)⟩, ⟨by (with_reducible repeat (first | apply Kd.R_alloc | apply Kd.R_drewN | apply Kd.R_drew)); exact Kd.R_mono HO308.out (fun _ hk => hk.2)⟩, ⟨kb BK300⟩, ⟨kb BK301⟩, ⟨be HB⟩⟩
 case round =>
  clear H'
  try clear p2
  try clear c4
  try clear c5
  try clear c7
  try clear hcz13_0
  try clear hcz13_1
  try clear hcz8_0
  try clear hcz8_1
  try clear hcz9_0
  try clear hcz9_1
  try clear hcz9_2
  try clear hcz9_3
  try clear hcz9_4
  try clear hcz9_5
  try clear hfz13_0
  try clear hfz13_1
  try clear hfz13_2
  try clear hfz8_0
  try clear hfz8_1
  try clear hfz8_2
  try clear hfz9_0
  try clear hfz9_1
  try clear hfz9_2
  try clear hfz9_3
  try clear hfz9_4
  try clear hfz9_5
  obtain ⟨x6_1, x16_1, rfl, HA, HK1, HO_6, HO_14, BK300, BK301, HB⟩ := hrel
  cases gk with
  | zero => exact absurd HA.out (by simp [impl_swingPlaces.l0])
  | succ k1 =>
   have H := HA.out
   clear HA
   simp only [impl_swingPlaces.l0] at H
   by_cases c16 : x16_1 < (t306.length : Int)
   ·rw [if_pos c16] at H
    have c16b0 : decide (x16_1 < (t306.length : Int)) = true := decide_eq_true c16
    clear c16
    by_cases c17 : 0 ≤ x16_1
    ·rw [if_pos c17] at H
     have c17b0 : decide (0 ≤ x16_1) = true := decide_eq_true c17
     have c17b1 : 0 ≤ x16_1 := c17
     clear c17
     by_cases c18 : x16_1 < (t306.length : Int)
     ·rw [if_pos c18] at H
      have c18b0 : decide (x16_1 < (t306.length : Int)) = true := decide_eq_true c18
      clear c18
      replace H := Option.bind_eq_some_iff.mp H
      obtain ⟨t311, A190, H⟩ := H
      try dsimp only at H
      have A19 := am A190
      clear A190
      by_cases c20 : t311 ≤ (wrap64 (t302 * t302))
      ·rw [if_pos c20] at H
       have c20b0 : decide (t311 ≤ (wrap64 (t302 * t302))) = true := decide_eq_true c20
       clear c20
       by_cases c21 : x6_1.length < 70368744177664
       ·rw [if_pos c21] at H
        have LMc21 := am c21
        clear c21
        obtain ⟨y312, hy312⟩ : ∃ y_ : List (S46), y_ = (x6_1 ++ [(⟨(rd_T46 t306 x16_1).f0, (rd_T46 t306 x16_1).f1⟩ : S46)]) := ⟨_, rfl⟩
        replace H : (impl_swingPlaces.l0 k1 t302 y312 t306 (t306.length : Int) (wrap64 (x16_1 + 1)) a1_0 a1_1 a1_2 a1_3 a1_4 a1_5) = some r := by first | (rw [hy312]; with_reducible exact H) | (have H2_ := (Option.bind_some _ _).symm.trans H; rw [hy312]; with_reducible exact H2_) | (have H2_ := (Option.bind_some _ _).symm.trans H; with_reducible exact H2_) | with_reducible exact H | (rw [hy312]; exact H) | exact H
        have Ny312 := am hy312
        clear hy312
        have H' := am H
        clear H
        have p309 : 0 ≤ (x16_1 : Int) := of_decide_eq_true (by first | (with_reducible assumption) | assumption)
        have q309 : x16_1 < (t306.length : Int) := of_decide_eq_true (by first | (with_reducible assumption) | assumption)
        obtain ⟨ad309, e309, hx309_0, hx309_1⟩ := at_T46 (Kd.R_reads' HO_14.out).2.2 x16_1 p309 q309
        cases e309
        replace p309 := eq_true p309
        replace q309 := eq_true q309
        go_wp2_with (first | ((with_reducible refine gate_dst (N := 8) rfl ?_); refine bxe (N := 8) (cs := #[.int .i8 0, .int .i8 0]) (t := 46) ?_; intro gb310 hg w22 hbox hb; have BK310 := am (hbox); have GW310 := am (gN hg (below_size (be HB))); have GE310 := am (gN hg (below_size (be HB))); have NB300_310 := nL BK300 hg; have NB310_300 := nR BK300 hg; have NB301_310 := nL BK301 hg; have NB310_301 := nR BK301 hg; replace HO_6 := am (Kd.R_below (Kd.R_elderB (kr HO_6) gb310 (Nat.le_of_eq hg.symm)) hb); replace HO_14 := am (Kd.R_below (Kd.R_elderB (kr HO_14) gb310 (Nat.le_of_eq hg.symm)) hb); replace BK300 := bB BK300 hb; replace BK301 := bB BK301 hb; replace HB := am (below_step (be HB) hb); clear hb hbox hg; have hnb23 := NB310_300.out; have hnc23 := NB300_310.out; have hnb24 := NB310_301.out; have hnc24 := NB301_310.out; obtain ⟨hcz25_0, hcz25_1, hfz25_0, hfz25_1⟩ := bx2 BK310; have hnb26 := NB301_300.out; have hnc26 := NB300_301.out; obtain ⟨hcz27_0, hcz27_1, hcz27_2, hcz27_3, hcz27_4, hcz27_5, hfz27_0, hfz27_1, hfz27_2, hfz27_3, hfz27_4, hfz27_5⟩ := bx6 BK301) | ((with_reducible refine gate_callee (f := 42) rfl ?_); refine gL (some 23) Try.func42 #[.agg #[.int .i8 ((rd_T46 t306 x16_1).f0), .int .i8 ((rd_T46 t306 x16_1).f1)], .agg #[.int .i8 a1_0, .int .i8 a1_1]] ?_; (with_reducible refine (impl_far.calls ((rd_T46 t306 x16_1).f0) ((rd_T46 t306 x16_1).f1) a1_0 a1_1 t311 _ A19.out).mono ?_); rintro e w28 ⟨rfl, hb⟩; refine ⟨_, rfl, ?_⟩; replace HO_6 := am (Kd.R_below (by (with_reducible repeat (first | apply Kd.R_alloc | apply Kd.R_drewN | apply Kd.R_drew)); exact (Kd.R_mono (Kd.R_far (p := ⟨gb310, 1, none⟩) (Kd.R_far (p := ⟨gb310, 0, none⟩) (Kd.R_mono HO_6.out (fun k_ hk => (⟨hk, hk.2⟩ : _ ∧ k_ ≠ gb310))) (fun _ hk => hk.2) (.int .i8 ((rd_T46 t306 x16_1).f0))) (fun _ hk => hk.2) (.int .i8 ((rd_T46 t306 x16_1).f1))) (fun _ h_ => h_.1))) hb); replace HO_14 := am (Kd.R_below (by (with_reducible repeat (first | apply Kd.R_alloc | apply Kd.R_drewN | apply Kd.R_drew)); exact (Kd.R_mono (Kd.R_far (p := ⟨gb310, 1, none⟩) (Kd.R_far (p := ⟨gb310, 0, none⟩) (Kd.R_mono HO_14.out (fun k_ hk => (⟨hk, hk.2⟩ : _ ∧ k_ ≠ gb310))) (fun _ hk => hk.2) (.int .i8 ((rd_T46 t306 x16_1).f0))) (fun _ hk => hk.2) (.int .i8 ((rd_T46 t306 x16_1).f1))) (fun _ h_ => h_.1))) hb); replace BK300 := am (blk_below (g := gb300) (o := .cells (csBay a0_0 a0_1 a0_2) 32 (0, 0)) (by (with_reducible repeat (first | refine blk_drewN ?_ _ | refine blk_drew ?_ | refine blk_alloc ?_ _)); refine blk_far ?_ NB300_310.out _; (with_reducible repeat (first | refine blk_drewN ?_ _ | refine blk_drew ?_ | refine blk_alloc ?_ _)); refine blk_far ?_ NB300_310.out _; exact kb BK300) hb); replace BK301 := am (blk_below (g := gb301) (o := .cells #[.int .i8 a1_0, .int .i8 a1_1, .int .i8 a1_2, .int .i8 a1_3, .int .i8 a1_4, .int .i8 a1_5] 48 (0, 0)) (by (with_reducible repeat (first | refine blk_drewN ?_ _ | refine blk_drew ?_ | refine blk_alloc ?_ _)); refine blk_far ?_ NB301_310.out _; (with_reducible repeat (first | refine blk_drewN ?_ _ | refine blk_drew ?_ | refine blk_alloc ?_ _)); refine blk_far ?_ NB301_310.out _; exact kb BK301) hb); replace BK310 := am (blk_below (g := gb310) (o := .cells #[.int .i8 ((rd_T46 t306 x16_1).f0), .int .i8 ((rd_T46 t306 x16_1).f1)] 46 (0, 0)) (by (with_reducible repeat (first | refine blk_drewN ?_ _ | refine blk_drew ?_ | refine blk_alloc ?_ _)); refine blk_put (cs := #[.int .i8 ((rd_T46 t306 x16_1).f0), .int .i8 0]) ?_ 1 _ rfl; (with_reducible repeat (first | refine blk_drewN ?_ _ | refine blk_drew ?_ | refine blk_alloc ?_ _)); refine blk_put (cs := #[.int .i8 0, .int .i8 0]) ?_ 0 _ rfl; exact kb BK310) hb); replace HB := am (below_step (be HB) hb); (try clear hb); (try clear hb2); (try clear hk); (try clear hi); obtain ⟨hcz29_0, hcz29_1, hfz29_0, hfz29_1⟩ := bx2 BK310) | ((with_reducible refine gate_builtin (b := .append) (xs := #[.tmp 28, .tmp 30]) rfl ?_); at_builtin; refine Kd.R_append k46 (w0 := w) w.heap.size rfl (.tmp 28) (.tmp 30) 73 46 (.agg #[(.int .i8 0), (.int .i8 0)]) 2 rfl Try.underlying73 info46 rfl (by decide) (by omega) u6 x6_1 (⟨(rd_T46 t306 x16_1).f0, (rd_T46 t306 x16_1).f1⟩ : S46) [.int .i8 ((rd_T46 t306 x16_1).f0), .int .i8 ((rd_T46 t306 x16_1).f1)] (fun k_ => some k_ ≠ (.slice (some ad309) t306.length co15 : Value).ownBlock ∧ k_ ≠ gb310) (fun _ => False) rfl rfl ?aP (fun _ hk => hk.elim) ?aF ?aO ?aB ?aS ?aL ?_; (case aP => exact k46_mkM _ _ _ (⟨(rd_T46 t306 x16_1).f0, (rd_T46 t306 x16_1).f1⟩ : S46)); (case aB => exact (be HB)); (case aF => exact (fun k_ hk => ⟨Kd.fresh' (Kd.R_lt (kr HO_14)) k_ hk, Kd.freshB (g := gb310) (o := .cells #[.int .i8 ((rd_T46 t306 x16_1).f0), .int .i8 ((rd_T46 t306 x16_1).f1)] 46 (0, 0)) (kb BK310) k_ hk⟩)); (case aO => exact (kr HO_6)); (case aS => exact (below_size (be HB))); (case aL => have := LMc21.out; omega); intro v313 w30 ho hb hg hat; rw [← Ny312.out] at ho; have HO314 := am (ho); replace HO_14 := am (Kd.R_after (ok := (fun k_ => k_ ≠ gb310)) (by (with_reducible repeat (first | apply Kd.R_alloc | apply Kd.R_drewN | apply Kd.R_drew)); exact Kd.R_mono HO_14.out (fun _ hk => ⟨hk.2, hk.1⟩)) hg hat); replace BK300 := am (blk_grown (g := gb300) (o := .cells (csBay a0_0 a0_1 a0_2) 32 (0, 0)) (kb BK300) hg (Kd.R_ne HO_6.out BK300.out (by decide))); replace BK301 := am (blk_grown (g := gb301) (o := .cells #[.int .i8 a1_0, .int .i8 a1_1, .int .i8 a1_2, .int .i8 a1_3, .int .i8 a1_4, .int .i8 a1_5] 48 (0, 0)) (kb BK301) hg (Kd.R_ne HO_6.out BK301.out (by decide))); replace BK310 := am (blk_grown (g := gb310) (o := .cells #[.int .i8 ((rd_T46 t306 x16_1).f0), .int .i8 ((rd_T46 t306 x16_1).f1)] 46 (0, 0)) (kb BK310) hg (Kd.R_away HO_6.out (fun _ hk => hk.2))); replace HB := am (hb); clear HO_6; clear ho hb hg hat))
        go_roundg k1
        case measure => have := HK1.out; omega
        case rel => exact ⟨(y312), (wrap64 (x16_1 + 1)), vv, H', ⟨by have := HK1.out; omega⟩, ⟨by (with_reducible repeat (first | apply Kd.R_alloc | apply Kd.R_drewN | apply Kd.R_drew)); exact Kd.R_mono HO314.out (fun _ hk => hk.1)⟩, ⟨by (with_reducible repeat (first | apply Kd.R_alloc | apply Kd.R_drewN | apply Kd.R_drew)); exact Kd.R_mono HO_14.out (fun _ hk => hk.2)⟩, ⟨kb BK300⟩, ⟨kb BK301⟩, ⟨be HB⟩⟩
       ·rw [if_neg c21] at H
        exact absurd H (by simp)
      ·rw [if_neg c20] at H
       have c20b0 : decide (t311 ≤ (wrap64 (t302 * t302))) = false := decide_eq_false c20
       clear c20
       have H' := am H
       clear H
       have p309 : 0 ≤ (x16_1 : Int) := of_decide_eq_true (by first | (with_reducible assumption) | assumption)
       have q309 : x16_1 < (t306.length : Int) := of_decide_eq_true (by first | (with_reducible assumption) | assumption)
       obtain ⟨ad309, e309, hx309_0, hx309_1⟩ := at_T46 (Kd.R_reads' HO_14.out).2.2 x16_1 p309 q309
       cases e309
       replace p309 := eq_true p309
       replace q309 := eq_true q309
       go_wp2_with (first | ((with_reducible refine gate_dst (N := 8) rfl ?_); refine bxe (N := 8) (cs := #[.int .i8 0, .int .i8 0]) (t := 46) ?_; intro gb310 hg w31 hbox hb; have BK310 := am (hbox); have GW310 := am (gN hg (below_size (be HB))); have GE310 := am (gN hg (below_size (be HB))); have NB300_310 := nL BK300 hg; have NB310_300 := nR BK300 hg; have NB301_310 := nL BK301 hg; have NB310_301 := nR BK301 hg; replace HO_6 := am (Kd.R_below (Kd.R_elderB (kr HO_6) gb310 (Nat.le_of_eq hg.symm)) hb); replace HO_14 := am (Kd.R_below (Kd.R_elderB (kr HO_14) gb310 (Nat.le_of_eq hg.symm)) hb); replace BK300 := bB BK300 hb; replace BK301 := bB BK301 hb; replace HB := am (below_step (be HB) hb); clear hb hbox hg; have hnb32 := NB310_300.out; have hnc32 := NB300_310.out; have hnb33 := NB310_301.out; have hnc33 := NB301_310.out; obtain ⟨hcz34_0, hcz34_1, hfz34_0, hfz34_1⟩ := bx2 BK310; have hnb35 := NB301_300.out; have hnc35 := NB300_301.out; obtain ⟨hcz36_0, hcz36_1, hcz36_2, hcz36_3, hcz36_4, hcz36_5, hfz36_0, hfz36_1, hfz36_2, hfz36_3, hfz36_4, hfz36_5⟩ := bx6 BK301) | ((with_reducible refine gate_callee (f := 42) rfl ?_); refine gL (some 23) Try.func42 #[.agg #[.int .i8 ((rd_T46 t306 x16_1).f0), .int .i8 ((rd_T46 t306 x16_1).f1)], .agg #[.int .i8 a1_0, .int .i8 a1_1]] ?_; (with_reducible refine (impl_far.calls ((rd_T46 t306 x16_1).f0) ((rd_T46 t306 x16_1).f1) a1_0 a1_1 t311 _ A19.out).mono ?_); rintro e w37 ⟨rfl, hb⟩; refine ⟨_, rfl, ?_⟩; replace HO_6 := am (Kd.R_below (by (with_reducible repeat (first | apply Kd.R_alloc | apply Kd.R_drewN | apply Kd.R_drew)); exact (Kd.R_mono (Kd.R_far (p := ⟨gb310, 1, none⟩) (Kd.R_far (p := ⟨gb310, 0, none⟩) (Kd.R_mono HO_6.out (fun k_ hk => (⟨hk, hk.2⟩ : _ ∧ k_ ≠ gb310))) (fun _ hk => hk.2) (.int .i8 ((rd_T46 t306 x16_1).f0))) (fun _ hk => hk.2) (.int .i8 ((rd_T46 t306 x16_1).f1))) (fun _ h_ => h_.1))) hb); replace HO_14 := am (Kd.R_below (by (with_reducible repeat (first | apply Kd.R_alloc | apply Kd.R_drewN | apply Kd.R_drew)); exact (Kd.R_mono (Kd.R_far (p := ⟨gb310, 1, none⟩) (Kd.R_far (p := ⟨gb310, 0, none⟩) (Kd.R_mono HO_14.out (fun k_ hk => (⟨hk, hk.2⟩ : _ ∧ k_ ≠ gb310))) (fun _ hk => hk.2) (.int .i8 ((rd_T46 t306 x16_1).f0))) (fun _ hk => hk.2) (.int .i8 ((rd_T46 t306 x16_1).f1))) (fun _ h_ => h_.1))) hb); replace BK300 := am (blk_below (g := gb300) (o := .cells (csBay a0_0 a0_1 a0_2) 32 (0, 0)) (by (with_reducible repeat (first | refine blk_drewN ?_ _ | refine blk_drew ?_ | refine blk_alloc ?_ _)); refine blk_far ?_ NB300_310.out _; (with_reducible repeat (first | refine blk_drewN ?_ _ | refine blk_drew ?_ | refine blk_alloc ?_ _)); refine blk_far ?_ NB300_310.out _; exact kb BK300) hb); replace BK301 := am (blk_below (g := gb301) (o := .cells #[.int .i8 a1_0, .int .i8 a1_1, .int .i8 a1_2, .int .i8 a1_3, .int .i8 a1_4, .int .i8 a1_5] 48 (0, 0)) (by (with_reducible repeat (first | refine blk_drewN ?_ _ | refine blk_drew ?_ | refine blk_alloc ?_ _)); refine blk_far ?_ NB301_310.out _; (with_reducible repeat (first | refine blk_drewN ?_ _ | refine blk_drew ?_ | refine blk_alloc ?_ _)); refine blk_far ?_ NB301_310.out _; exact kb BK301) hb); replace BK310 := am (blk_below (g := gb310) (o := .cells #[.int .i8 ((rd_T46 t306 x16_1).f0), .int .i8 ((rd_T46 t306 x16_1).f1)] 46 (0, 0)) (by (with_reducible repeat (first | refine blk_drewN ?_ _ | refine blk_drew ?_ | refine blk_alloc ?_ _)); refine blk_put (cs := #[.int .i8 ((rd_T46 t306 x16_1).f0), .int .i8 0]) ?_ 1 _ rfl; (with_reducible repeat (first | refine blk_drewN ?_ _ | refine blk_drew ?_ | refine blk_alloc ?_ _)); refine blk_put (cs := #[.int .i8 0, .int .i8 0]) ?_ 0 _ rfl; exact kb BK310) hb); replace HB := am (below_step (be HB) hb); (try clear hb); (try clear hb2); (try clear hk); (try clear hi)))
       go_roundg k1
       case measure => have := HK1.out; omega
       case rel => exact ⟨(x6_1), (wrap64 (x16_1 + 1)), vv, H', ⟨by have := HK1.out; omega⟩, ⟨by (with_reducible repeat (first | apply Kd.R_alloc | apply Kd.R_drewN | apply Kd.R_drew)); exact Kd.R_mono HO_6.out (fun _ hk => hk.1)⟩, ⟨by (with_reducible repeat (first | apply Kd.R_alloc | apply Kd.R_drewN | apply Kd.R_drew)); exact Kd.R_mono HO_14.out (fun _ hk => hk.1)⟩, ⟨kb BK300⟩, ⟨kb BK301⟩, ⟨be HB⟩⟩
     ·rw [if_neg c18] at H
      exact absurd H (by simp)
    ·rw [if_neg c17] at H
     exact absurd H (by simp)
   ·rw [if_neg c16] at H
    have c16b0 : decide (x16_1 < (t306.length : Int)) = false := decide_eq_false c16
    clear c16
    obtain rfl := Option.some.inj H
    go_wp2
    go_ret
    exact ⟨_, by first | rfl | (simp [errW_none, errW_some] <;> rfl) | (simp [*, errW_none, errW_some] <;> rfl), by (with_reducible repeat (first | apply Kd.R_alloc | apply Kd.R_drewN | apply Kd.R_drew)); exact Kd.R_mono HO_6.out (fun _ hk => trivial), be HB⟩

end Go.Proofs.Ytigafbmdedjgdaa.PFnExactMostBoats
