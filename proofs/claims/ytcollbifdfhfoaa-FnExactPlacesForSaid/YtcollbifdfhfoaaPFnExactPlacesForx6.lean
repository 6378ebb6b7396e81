-- Written by a program out of this seat's translation (functions, and that the code comes to them).
import Derived.Test.YtcollbifdfhfoaaPFnExactPlacesForx0
import Derived.Test.YtcollbifdfhfoaaPFnExactPlacesForx3
import Derived.Test.YtcollbifdfhfoaaPFnExactPlacesForx4
import Derived.Test.YtcollbifdfhfoaaPFnExactPlacesForx5
namespace Go.Proofs.Ytcollbifdfhfoaa.PFnExactPlacesFor
open Go.RowKit Go.Proofs.YtcollbifdfhfoaaW.PrintWords Go.Proofs.YtcollbifdfhfoaaW.PrintLast Go.Proofs.YtcollbifdfhfoaaW.PrintMore
attribute [local go_sem] max2_int min2_int max_two min_two max_three min_three max_four min_four   -- for this text's walks alone
open Go.Proofs.Ytcollbifdfhfoaa.Bay Go.Proofs.Ytcollbifdfhfoaa.Short
attribute [local go_sem ↓] lv26_eq lv28_eq
attribute [local go_sem] lvv_set lvv_drewN lvv_drew lv26_run BayAt26_set BayAt26_drewN BayAt26_drew lv28_run BayAt28_set BayAt28_drewN BayAt28_drew
set_option linter.unusedVariables false
set_option linter.unusedSimpArgs false

/-! ### spec_l01Safe: function 120 -/
def spec_l01Safe.f (k : Nat) (s0_0 : Int) (s0_1 : Int) (s0_2 : (Nat → Int)) (a1_0 : Int) (a1_1 : Int) (a1_2 : Int) (a1_3 : Int) (a1_4 : Int) (a1_5 : Int) : Option (Bool × Int × Int × (Nat → Int)) := (spec_l01Reach.f k s0_0 s0_1 s0_2 a1_0 a1_1 a1_2 a1_3 a1_4 a1_5).bind fun bt205 => (if bt205.1 < 0 then (some (false, bt205.2.1, bt205.2.2.1, bt205.2.2.2)) else (if (wrap64 (a1_0)) < (wrap64 (bt205.1 + (wrap64 (a1_3)))) then (some (false, bt205.2.1, bt205.2.2.1, bt205.2.2.2)) else (if (wrap64 (a1_1)) < (wrap64 (bt205.1 + (wrap64 (a1_3)))) then (some (false, bt205.2.1, bt205.2.2.1, bt205.2.2.2)) else (if (wrap64 ((wrap64 (a1_0)) + (wrap64 (bt205.1 + (wrap64 (a1_3)))))) ≥ (wrap64 (bt205.2.1)) then (some (false, bt205.2.1, bt205.2.2.1, bt205.2.2.2)) else (if (wrap64 ((wrap64 (a1_1)) + (wrap64 (bt205.1 + (wrap64 (a1_3)))))) ≥ (wrap64 (bt205.2.2.1)) then (some (false, bt205.2.1, bt205.2.2.1, bt205.2.2.2)) else ((spec_l01Over.f k bt205.2.1 bt205.2.2.1 bt205.2.2.2 a1_0 a1_1 (wrap64 (bt205.1 + (wrap64 (a1_3)))) (wrap64 (a1_4))).bind fun bt209 => (some (((bt209.1.length : Int) == 0), bt209.2.1, bt209.2.2.1, bt209.2.2.2))))))))
set_option maxHeartbeats 8000000 in
set_option maxRecDepth 100000 in
theorem spec_l01Safe.calls (k : Nat) (g : Nat) (s0_0 : Int) (s0_1 : Int) (s0_2 : (Nat → Int)) (a1_0 : Int) (a1_1 : Int) (a1_2 : Int) (a1_3 : Int) (a1_4 : Int) (a1_5 : Int) (r1 : Bool) (r2 : Int) (r3 : Int) (r4 : (Nat → Int)) (w0 w : World) (hI : IsS28 w0 w g s0_0 s0_1 s0_2) (hB : Below w0.heap.size w0 w) (h : spec_l01Safe.f k s0_0 s0_1 s0_2 a1_0 a1_1 a1_2 a1_3 a1_4 a1_5 = some (r1, r2, r3, r4)) :
  Calls Try.prog 120 #[.pointer (some ⟨g, 0, none⟩), .agg #[.int .i8 a1_0, .int .i8 a1_1, .int .i8 a1_2, .int .i8 a1_3, .int .i8 a1_4, .int .i8 a1_5]] w fun e w' => e = .returned (.bool r1) ∧ IsS28 w0 w' g r2 r3 r4 ∧ Below w0.heap.size w0 w' ∧ KeepBut w w' g none := by
 have hu38 := Try.underlying38
 have hu36 := Try.underlying36
 have HI0 := am hI
 have HK := am (KeepBut.refl w g none)
 have HL := am hB.size
 clear hI
 have HW0 := am hB.size
 have HB := am hB
 clear hB
 have H : ((spec_l01Reach.f k s0_0 s0_1 s0_2 a1_0 a1_1 a1_2 a1_3 a1_4 a1_5).bind fun bt205 => (if bt205.1 < 0 then (some (false, bt205.2.1, bt205.2.2.1, bt205.2.2.2)) else (if (wrap64 (a1_0)) < (wrap64 (bt205.1 + (wrap64 (a1_3)))) then (some (false, bt205.2.1, bt205.2.2.1, bt205.2.2.2)) else (if (wrap64 (a1_1)) < (wrap64 (bt205.1 + (wrap64 (a1_3)))) then (some (false, bt205.2.1, bt205.2.2.1, bt205.2.2.2)) else (if (wrap64 ((wrap64 (a1_0)) + (wrap64 (bt205.1 + (wrap64 (a1_3)))))) ≥ (wrap64 (bt205.2.1)) then (some (false, bt205.2.1, bt205.2.2.1, bt205.2.2.2)) else (if (wrap64 ((wrap64 (a1_1)) + (wrap64 (bt205.1 + (wrap64 (a1_3)))))) ≥ (wrap64 (bt205.2.2.1)) then (some (false, bt205.2.1, bt205.2.2.1, bt205.2.2.2)) else ((spec_l01Over.f k bt205.2.1 bt205.2.2.1 bt205.2.2.2 a1_0 a1_1 (wrap64 (bt205.1 + (wrap64 (a1_3)))) (wrap64 (a1_4))).bind fun bt209 => (some (((bt209.1.length : Int) == 0), bt209.2.1, bt209.2.2.1, bt209.2.2.2))))))))) = some (r1, r2, r3, r4) := h
 clear h
 replace H := Option.bind_eq_some_iff.mp H
 obtain ⟨⟨t205, t206, t207, t208⟩, A30, H⟩ := H
 try dsimp only at H
 have A3 := am A30
 clear A30
 by_cases c4 : t205 < 0
 ·rw [if_pos c4] at H
  have c4b0 : decide (t205 < 0) = true := decide_eq_true c4
  clear c4
  simp only [Option.some.injEq, Prod.mk.injEq] at H
  obtain ⟨rfl, rfl, rfl, rfl⟩ := H
  go_enter Try.func120, Try.ntmps120
  go_wp2_with (first | ((with_reducible refine gate_dst (N := 3) rfl ?_); refine bxe (N := 3) (cs := #[.int .i8 a1_0, .int .i8 a1_1, .int .i8 a1_2, .int .i8 a1_3, .int .i8 a1_4, .int .i8 a1_5]) (t := 38) ?_; intro gb204 hg w5 hbox hb; have BK204 := am (hbox); have GW204 := am (gN hg (keep_size (w := w) (g := g) (row := none) (ke HK))); have GE204 := am (Nat.le_trans HW0.out (gN hg (keep_size (w := w) (g := g) (row := none) (ke HK)))); have NB0_204 := am (nLi hg (IsS28.lt (show IsS28 w0 _ g s0_0 s0_1 s0_2 from si28 HI0))); have NB204_0 := am (nRi hg (IsS28.lt (show IsS28 w0 _ g s0_0 s0_1 s0_2 from si28 HI0))); replace HI0 := am (IsS28.below (si28 HI0) hb); replace HK := am (KeepBut.trans (ke HK) (KeepBut.of_below hb g none) (.inl rfl)); replace HB := am (below_step (be HB) hb); clear hb hbox hg; have hnb6 := NB204_0.out; have hnc6 := NB0_204.out; obtain ⟨hcz7_0, hcz7_1, hcz7_2, hcz7_3, hcz7_4, hcz7_5, hfz7_0, hfz7_1, hfz7_2, hfz7_3, hfz7_4, hfz7_5⟩ := bx6 BK204) | ((with_reducible refine gate_callee (f := 168) rfl ?_); refine gL (some 11) Try.func168 #[.pointer (some ⟨g, 0, none⟩), .agg #[.int .i8 a1_0, .int .i8 a1_1, .int .i8 a1_2, .int .i8 a1_3, .int .i8 a1_4, .int .i8 a1_5]] ?_; (with_reducible refine (spec_l01Reach.calls k g s0_0 s0_1 s0_2 a1_0 a1_1 a1_2 a1_3 a1_4 a1_5 t205 t206 t207 t208 w0 _ ?side1 ?side2 A3.out).mono ?_); (case side1 => exact si28 HI0); (case side2 => exact be HB); rintro e w8 ⟨rfl, hi, hb, hk⟩; refine ⟨_, rfl, ?_⟩; replace BK204 := am (KeepBut.blk hk (g' := gb204) (o := .cells #[.int .i8 a1_0, .int .i8 a1_1, .int .i8 a1_2, .int .i8 a1_3, .int .i8 a1_4, .int .i8 a1_5] 38 (0, 0)) (kb BK204) NB204_0.out (by simp)); replace HK := am (KeepBut.trans (ke HK) hk (.inl rfl)); replace HB := am (hb); replace HI0 := am (hi); (try clear hb); (try clear hb2); (try clear hk); (try clear hi)))
  go_ret
  exact ⟨by first | rfl | (simp [errW_none, errW_some] <;> rfl) | (simp [*, errW_none, errW_some] <;> rfl), si28 HI0, be HB, ke HK⟩
 ·rw [if_neg c4] at H
  have c4b0 : decide (t205 < 0) = false := decide_eq_false c4
  clear c4
  by_cases c9 : (wrap64 (a1_0)) < (wrap64 (t205 + (wrap64 (a1_3))))
  ·rw [if_pos c9] at H
   have c9b0 : decide ((wrap64 (a1_0)) < (wrap64 (t205 + (wrap64 (a1_3))))) = true := decide_eq_true c9
   clear c9
   simp only [Option.some.injEq, Prod.mk.injEq] at H
   obtain ⟨rfl, rfl, rfl, rfl⟩ := H
   go_enter Try.func120, Try.ntmps120
   go_wp2_with (first | ((with_reducible refine gate_dst (N := 3) rfl ?_); refine bxe (N := 3) (cs := #[.int .i8 a1_0, .int .i8 a1_1, .int .i8 a1_2, .int .i8 a1_3, .int .i8 a1_4, .int .i8 a1_5]) (t := 38) ?_; intro gb204 hg w10 hbox hb; have BK204 := am (hbox); have GW204 := am (gN hg (keep_size (w := w) (g := g) (row := none) (ke HK))); have GE204 := am (Nat.le_trans HW0.out (gN hg (keep_size (w := w) (g := g) (row := none) (ke HK)))); have NB0_204 := am (nLi hg (IsS28.lt (show IsS28 w0 _ g s0_0 s0_1 s0_2 from si28 HI0))); have NB204_0 := am (nRi hg (IsS28.lt (show IsS28 w0 _ g s0_0 s0_1 s0_2 from si28 HI0))); replace HI0 := am (IsS28.below (si28 HI0) hb); replace HK := am (KeepBut.trans (ke HK) (KeepBut.of_below hb g none) (.inl rfl)); replace HB := am (below_step (be HB) hb); clear hb hbox hg; have hnb11 := NB204_0.out; have hnc11 := NB0_204.out; obtain ⟨hcz12_0, hcz12_1, hcz12_2, hcz12_3, hcz12_4, hcz12_5, hfz12_0, hfz12_1, hfz12_2, hfz12_3, hfz12_4, hfz12_5⟩ := bx6 BK204) | ((with_reducible refine gate_callee (f := 168) rfl ?_); refine gL (some 11) Try.func168 #[.pointer (some ⟨g, 0, none⟩), .agg #[.int .i8 a1_0, .int .i8 a1_1, .int .i8 a1_2, .int .i8 a1_3, .int .i8 a1_4, .int .i8 a1_5]] ?_; (with_reducible refine (spec_l01Reach.calls k g s0_0 s0_1 s0_2 a1_0 a1_1 a1_2 a1_3 a1_4 a1_5 t205 t206 t207 t208 w0 _ ?side1 ?side2 A3.out).mono ?_); (case side1 => exact si28 HI0); (case side2 => exact be HB); rintro e w13 ⟨rfl, hi, hb, hk⟩; refine ⟨_, rfl, ?_⟩; replace BK204 := am (KeepBut.blk hk (g' := gb204) (o := .cells #[.int .i8 a1_0, .int .i8 a1_1, .int .i8 a1_2, .int .i8 a1_3, .int .i8 a1_4, .int .i8 a1_5] 38 (0, 0)) (kb BK204) NB204_0.out (by simp)); replace HK := am (KeepBut.trans (ke HK) hk (.inl rfl)); replace HB := am (hb); replace HI0 := am (hi); (try clear hb); (try clear hb2); (try clear hk); (try clear hi); obtain ⟨hcz14_0, hcz14_1, hcz14_2, hcz14_3, hcz14_4, hcz14_5, hfz14_0, hfz14_1, hfz14_2, hfz14_3, hfz14_4, hfz14_5⟩ := bx6 BK204))
   go_ret
   exact ⟨by first | rfl | (simp [errW_none, errW_some] <;> rfl) | (simp [*, errW_none, errW_some] <;> rfl), si28 HI0, be HB, ke HK⟩
  ·rw [if_neg c9] at H
   have c9b0 : decide ((wrap64 (a1_0)) < (wrap64 (t205 + (wrap64 (a1_3))))) = false := decide_eq_false c9
   clear c9
   by_cases c15 : (wrap64 (a1_1)) < (wrap64 (t205 + (wrap64 (a1_3))))
   ·rw [if_pos c15] at H
    have c15b0 : decide ((wrap64 (a1_1)) < (wrap64 (t205 + (wrap64 (a1_3))))) = true := decide_eq_true c15
    clear c15
    simp only [Option.some.injEq, Prod.mk.injEq] at H
    obtain ⟨rfl, rfl, rfl, rfl⟩ := H
    go_enter Try.func120, Try.ntmps120
    go_wp2_with (first | ((with_reducible refine gate_dst (N := 3) rfl ?_); refine bxe (N := 3) (cs := #[.int .i8 a1_0, .int .i8 a1_1, .int .i8 a1_2, .int .i8 a1_3, .int .i8 a1_4, .int .i8 a1_5]) (t := 38) ?_; intro gb204 hg w16 hbox hb; have BK204 := am (hbox); have GW204 := am (gN hg (keep_size (w := w) (g := g) (row := none) (ke HK))); have GE204 := am (Nat.le_trans HW0.out (gN hg (keep_size (w := w) (g := g) (row := none) (ke HK)))); have NB0_204 := am (nLi hg (IsS28.lt (show IsS28 w0 _ g s0_0 s0_1 s0_2 from si28 HI0))); have NB204_0 := am (nRi hg (IsS28.lt (show IsS28 w0 _ g s0_0 s0_1 s0_2 from si28 HI0))); replace HI0 := am (IsS28.below (si28 HI0) hb); replace HK := am (KeepBut.trans (ke HK) (KeepBut.of_below hb g none) (.inl rfl)); replace HB := am (below_step (be HB) hb); clear hb hbox hg; have hnb17 := NB204_0.out; have hnc17 := NB0_204.out; obtain ⟨hcz18_0, hcz18_1, hcz18_2, hcz18_3, hcz18_4, hcz18_5, hfz18_0, hfz18_1, hfz18_2, hfz18_3, hfz18_4, hfz18_5⟩ := bx6 BK204) | ((with_reducible refine gate_callee (f := 168) rfl ?_); refine gL (some 11) Try.func168 #[.pointer (some ⟨g, 0, none⟩), .agg #[.int .i8 a1_0, .int .i8 a1_1, .int .i8 a1_2, .int .i8 a1_3, .int .i8 a1_4, .int .i8 a1_5]] ?_; (with_reducible refine (spec_l01Reach.calls k g s0_0 s0_1 s0_2 a1_0 a1_1 a1_2 a1_3 a1_4 a1_5 t205 t206 t207 t208 w0 _ ?side1 ?side2 A3.out).mono ?_); (case side1 => exact si28 HI0); (case side2 => exact be HB); rintro e w19 ⟨rfl, hi, hb, hk⟩; refine ⟨_, rfl, ?_⟩; replace BK204 := am (KeepBut.blk hk (g' := gb204) (o := .cells #[.int .i8 a1_0, .int .i8 a1_1, .int .i8 a1_2, .int .i8 a1_3, .int .i8 a1_4, .int .i8 a1_5] 38 (0, 0)) (kb BK204) NB204_0.out (by simp)); replace HK := am (KeepBut.trans (ke HK) hk (.inl rfl)); replace HB := am (hb); replace HI0 := am (hi); (try clear hb); (try clear hb2); (try clear hk); (try clear hi); obtain ⟨hcz20_0, hcz20_1, hcz20_2, hcz20_3, hcz20_4, hcz20_5, hfz20_0, hfz20_1, hfz20_2, hfz20_3, hfz20_4, hfz20_5⟩ := bx6 BK204))
    go_ret
    exact ⟨by first | rfl | (simp [errW_none, errW_some] <;> rfl) | (simp [*, errW_none, errW_some] <;> rfl), si28 HI0, be HB, ke HK⟩
   ·rw [if_neg c15] at H
    have c15b0 : decide ((wrap64 (a1_1)) < (wrap64 (t205 + (wrap64 (a1_3))))) = false := decide_eq_false c15
    clear c15
    by_cases c21 : (wrap64 ((wrap64 (a1_0)) + (wrap64 (t205 + (wrap64 (a1_3)))))) ≥ (wrap64 (t206))
    ·rw [if_pos c21] at H
     have c21b0 : decide ((wrap64 (t206)) ≤ (wrap64 ((wrap64 (a1_0)) + (wrap64 (t205 + (wrap64 (a1_3))))))) = true := decide_eq_true c21
     clear c21
     simp only [Option.some.injEq, Prod.mk.injEq] at H
     obtain ⟨rfl, rfl, rfl, rfl⟩ := H
     go_enter Try.func120, Try.ntmps120
     go_wp2_with (first | ((with_reducible refine gate_dst (N := 3) rfl ?_); refine bxe (N := 3) (cs := #[.int .i8 a1_0, .int .i8 a1_1, .int .i8 a1_2, .int .i8 a1_3, .int .i8 a1_4, .int .i8 a1_5]) (t := 38) ?_; intro gb204 hg w22 hbox hb; have BK204 := am (hbox); have GW204 := am (gN hg (keep_size (w := w) (g := g) (row := none) (ke HK))); have GE204 := am (Nat.le_trans HW0.out (gN hg (keep_size (w := w) (g := g) (row := none) (ke HK)))); have NB0_204 := am (nLi hg (IsS28.lt (show IsS28 w0 _ g s0_0 s0_1 s0_2 from si28 HI0))); have NB204_0 := am (nRi hg (IsS28.lt (show IsS28 w0 _ g s0_0 s0_1 s0_2 from si28 HI0))); replace HI0 := am (IsS28.below (si28 HI0) hb); replace HK := am (KeepBut.trans (ke HK) (KeepBut.of_below hb g none) (.inl rfl)); replace HB := am (below_step (be HB) hb); clear hb hbox hg; have hnb23 := NB204_0.out; have hnc23 := NB0_204.out; obtain ⟨hcz24_0, hcz24_1, hcz24_2, hcz24_3, hcz24_4, hcz24_5, hfz24_0, hfz24_1, hfz24_2, hfz24_3, hfz24_4, hfz24_5⟩ := bx6 BK204) | ((with_reducible refine gate_callee (f := 168) rfl ?_); refine gL (some 11) Try.func168 #[.pointer (some ⟨g, 0, none⟩), .agg #[.int .i8 a1_0, .int .i8 a1_1, .int .i8 a1_2, .int .i8 a1_3, .int .i8 a1_4, .int .i8 a1_5]] ?_; (with_reducible refine (spec_l01Reach.calls k g s0_0 s0_1 s0_2 a1_0 a1_1 a1_2 a1_3 a1_4 a1_5 t205 t206 t207 t208 w0 _ ?side1 ?side2 A3.out).mono ?_); (case side1 => exact si28 HI0); (case side2 => exact be HB); rintro e w25 ⟨rfl, hi, hb, hk⟩; refine ⟨_, rfl, ?_⟩; replace BK204 := am (KeepBut.blk hk (g' := gb204) (o := .cells #[.int .i8 a1_0, .int .i8 a1_1, .int .i8 a1_2, .int .i8 a1_3, .int .i8 a1_4, .int .i8 a1_5] 38 (0, 0)) (kb BK204) NB204_0.out (by simp)); replace HK := am (KeepBut.trans (ke HK) hk (.inl rfl)); replace HB := am (hb); replace HI0 := am (hi); (try clear hb); (try clear hb2); (try clear hk); (try clear hi); obtain ⟨hcz26_0, hcz26_1, hcz26_2, hcz26_3, hcz26_4, hcz26_5, hfz26_0, hfz26_1, hfz26_2, hfz26_3, hfz26_4, hfz26_5⟩ := bx6 BK204; obtain ⟨HGz27, hgz27⟩ := HI0.out; have hcz27_0 := cellS28_0 HGz27; have hcz27_1 := cellS28_1 HGz27; have hwz27 := lv28_at HGz27; have haz27 := at_cells HGz27; have hyz27 := BayAt28_of HGz27; have hvz27 := lvv_of HGz27; have hfz27_0 := blk_frozen HGz27 0; have hfz27_1 := blk_frozen HGz27 1; have hfz27_2 := blk_frozen HGz27 2; clear HGz27 hgz27))
     go_ret
     exact ⟨by first | rfl | (simp [errW_none, errW_some] <;> rfl) | (simp [*, errW_none, errW_some] <;> rfl), si28 HI0, be HB, ke HK⟩
    ·rw [if_neg c21] at H
     have c21b0 : decide ((wrap64 (t206)) ≤ (wrap64 ((wrap64 (a1_0)) + (wrap64 (t205 + (wrap64 (a1_3))))))) = false := decide_eq_false c21
     clear c21
     by_cases c28 : (wrap64 ((wrap64 (a1_1)) + (wrap64 (t205 + (wrap64 (a1_3)))))) ≥ (wrap64 (t207))
     ·rw [if_pos c28] at H
      have c28b0 : decide ((wrap64 (t207)) ≤ (wrap64 ((wrap64 (a1_1)) + (wrap64 (t205 + (wrap64 (a1_3))))))) = true := decide_eq_true c28
      clear c28
      simp only [Option.some.injEq, Prod.mk.injEq] at H
      obtain ⟨rfl, rfl, rfl, rfl⟩ := H
      go_enter Try.func120, Try.ntmps120
      go_wp2_with (first | ((with_reducible refine gate_dst (N := 3) rfl ?_); refine bxe (N := 3) (cs := #[.int .i8 a1_0, .int .i8 a1_1, .int .i8 a1_2, .int .i8 a1_3, .int .i8 a1_4, .int .i8 a1_5]) (t := 38) ?_; intro gb204 hg w29 hbox hb; have BK204 := am (hbox); have GW204 := am (gN hg (keep_size (w := w) (g := g) (row := none) (ke HK))); have GE204 := am (Nat.le_trans HW0.out (gN hg (keep_size (w := w) (g := g) (row := none) (ke HK)))); have NB0_204 := am (nLi hg (IsS28.lt (show IsS28 w0 _ g s0_0 s0_1 s0_2 from si28 HI0))); have NB204_0 := am (nRi hg (IsS28.lt (show IsS28 w0 _ g s0_0 s0_1 s0_2 from si28 HI0))); replace HI0 := am (IsS28.below (si28 HI0) hb); replace HK := am (KeepBut.trans (ke HK) (KeepBut.of_below hb g none) (.inl rfl)); replace HB := am (below_step (be HB) hb); clear hb hbox hg; have hnb30 := NB204_0.out; have hnc30 := NB0_204.out; obtain ⟨hcz31_0, hcz31_1, hcz31_2, hcz31_3, hcz31_4, hcz31_5, hfz31_0, hfz31_1, hfz31_2, hfz31_3, hfz31_4, hfz31_5⟩ := bx6 BK204) | ((with_reducible refine gate_callee (f := 168) rfl ?_); refine gL (some 11) Try.func168 #[.pointer (some ⟨g, 0, none⟩), .agg #[.int .i8 a1_0, .int .i8 a1_1, .int .i8 a1_2, .int .i8 a1_3, .int .i8 a1_4, .int .i8 a1_5]] ?_; (with_reducible refine (spec_l01Reach.calls k g s0_0 s0_1 s0_2 a1_0 a1_1 a1_2 a1_3 a1_4 a1_5 t205 t206 t207 t208 w0 _ ?side1 ?side2 A3.out).mono ?_); (case side1 => exact si28 HI0); (case side2 => exact be HB); rintro e w32 ⟨rfl, hi, hb, hk⟩; refine ⟨_, rfl, ?_⟩; replace BK204 := am (KeepBut.blk hk (g' := gb204) (o := .cells #[.int .i8 a1_0, .int .i8 a1_1, .int .i8 a1_2, .int .i8 a1_3, .int .i8 a1_4, .int .i8 a1_5] 38 (0, 0)) (kb BK204) NB204_0.out (by simp)); replace HK := am (KeepBut.trans (ke HK) hk (.inl rfl)); replace HB := am (hb); replace HI0 := am (hi); (try clear hb); (try clear hb2); (try clear hk); (try clear hi); obtain ⟨hcz33_0, hcz33_1, hcz33_2, hcz33_3, hcz33_4, hcz33_5, hfz33_0, hfz33_1, hfz33_2, hfz33_3, hfz33_4, hfz33_5⟩ := bx6 BK204; obtain ⟨HGz34, hgz34⟩ := HI0.out; have hcz34_0 := cellS28_0 HGz34; have hcz34_1 := cellS28_1 HGz34; have hwz34 := lv28_at HGz34; have haz34 := at_cells HGz34; have hyz34 := BayAt28_of HGz34; have hvz34 := lvv_of HGz34; have hfz34_0 := blk_frozen HGz34 0; have hfz34_1 := blk_frozen HGz34 1; have hfz34_2 := blk_frozen HGz34 2; clear HGz34 hgz34))
      go_ret
      exact ⟨by first | rfl | (simp [errW_none, errW_some] <;> rfl) | (simp [*, errW_none, errW_some] <;> rfl), si28 HI0, be HB, ke HK⟩
     ·rw [if_neg c28] at H
      have c28b0 : decide ((wrap64 (t207)) ≤ (wrap64 ((wrap64 (a1_1)) + (wrap64 (t205 + (wrap64 (a1_3))))))) = false := decide_eq_false c28
      clear c28
      replace H := Option.bind_eq_some_iff.mp H
      obtain ⟨⟨t209, t212, t213, t214⟩, A350, H⟩ := H
      try dsimp only at H
      have A35 := am A350
      clear A350
      simp only [Option.some.injEq, Prod.mk.injEq] at H
      obtain ⟨rfl, rfl, rfl, rfl⟩ := H
      go_enter Try.func120, Try.ntmps120
      go_wp2_with (first | ((with_reducible refine gate_dst (N := 3) rfl ?_); refine bxe (N := 3) (cs := #[.int .i8 a1_0, .int .i8 a1_1, .int .i8 a1_2, .int .i8 a1_3, .int .i8 a1_4, .int .i8 a1_5]) (t := 38) ?_; intro gb204 hg w36 hbox hb; have BK204 := am (hbox); have GW204 := am (gN hg (keep_size (w := w) (g := g) (row := none) (ke HK))); have GE204 := am (Nat.le_trans HW0.out (gN hg (keep_size (w := w) (g := g) (row := none) (ke HK)))); have NB0_204 := am (nLi hg (IsS28.lt (show IsS28 w0 _ g s0_0 s0_1 s0_2 from si28 HI0))); have NB204_0 := am (nRi hg (IsS28.lt (show IsS28 w0 _ g s0_0 s0_1 s0_2 from si28 HI0))); replace HI0 := am (IsS28.below (si28 HI0) hb); replace HK := am (KeepBut.trans (ke HK) (KeepBut.of_below hb g none) (.inl rfl)); replace HB := am (below_step (be HB) hb); clear hb hbox hg; have hnb37 := NB204_0.out; have hnc37 := NB0_204.out; obtain ⟨hcz38_0, hcz38_1, hcz38_2, hcz38_3, hcz38_4, hcz38_5, hfz38_0, hfz38_1, hfz38_2, hfz38_3, hfz38_4, hfz38_5⟩ := bx6 BK204) | ((with_reducible refine gate_callee (f := 168) rfl ?_); refine gL (some 11) Try.func168 #[.pointer (some ⟨g, 0, none⟩), .agg #[.int .i8 a1_0, .int .i8 a1_1, .int .i8 a1_2, .int .i8 a1_3, .int .i8 a1_4, .int .i8 a1_5]] ?_; (with_reducible refine (spec_l01Reach.calls k g s0_0 s0_1 s0_2 a1_0 a1_1 a1_2 a1_3 a1_4 a1_5 t205 t206 t207 t208 w0 _ ?side1 ?side2 A3.out).mono ?_); (case side1 => exact si28 HI0); (case side2 => exact be HB); rintro e w39 ⟨rfl, hi, hb, hk⟩; refine ⟨_, rfl, ?_⟩; replace BK204 := am (KeepBut.blk hk (g' := gb204) (o := .cells #[.int .i8 a1_0, .int .i8 a1_1, .int .i8 a1_2, .int .i8 a1_3, .int .i8 a1_4, .int .i8 a1_5] 38 (0, 0)) (kb BK204) NB204_0.out (by simp)); replace HK := am (KeepBut.trans (ke HK) hk (.inl rfl)); replace HB := am (hb); replace HI0 := am (hi); (try clear hb); (try clear hb2); (try clear hk); (try clear hi); obtain ⟨hcz40_0, hcz40_1, hcz40_2, hcz40_3, hcz40_4, hcz40_5, hfz40_0, hfz40_1, hfz40_2, hfz40_3, hfz40_4, hfz40_5⟩ := bx6 BK204; obtain ⟨HGz41, hgz41⟩ := HI0.out; have hcz41_0 := cellS28_0 HGz41; have hcz41_1 := cellS28_1 HGz41; have hwz41 := lv28_at HGz41; have haz41 := at_cells HGz41; have hyz41 := BayAt28_of HGz41; have hvz41 := lvv_of HGz41; have hfz41_0 := blk_frozen HGz41 0; have hfz41_1 := blk_frozen HGz41 1; have hfz41_2 := blk_frozen HGz41 2; clear HGz41 hgz41) | ((with_reducible refine gate_callee (f := 122) rfl ?_); refine gL (some 64) Try.func122 #[.pointer (some ⟨g, 0, none⟩), .agg #[.int .i8 a1_0, .int .i8 a1_1], .int .i64 (wrap64 (t205 + (wrap64 (a1_3)))), .int .i64 (wrap64 (a1_4))] ?_; (with_reducible refine (spec_l01Over.calls k g t206 t207 t208 a1_0 a1_1 (wrap64 (t205 + (wrap64 (a1_3)))) (wrap64 (a1_4)) t209 t212 t213 t214 w0 _ ?side1 ?side2 A35.out).mono ?_); (case side1 => exact si28 HI0); (case side2 => exact be HB); rintro e w42 ⟨v210, rfl, ho0, hi, hb, hk⟩; refine ⟨_, rfl, ?_⟩; have HO211 := am (Kd.R_lower ho0 (keep_size (w := w) (g := g) (row := none) (ke HK))); replace BK204 := am (KeepBut.blk hk (g' := gb204) (o := .cells #[.int .i8 a1_0, .int .i8 a1_1, .int .i8 a1_2, .int .i8 a1_3, .int .i8 a1_4, .int .i8 a1_5] 38 (0, 0)) (kb BK204) NB204_0.out (by simp)); replace HK := am (KeepBut.trans (ke HK) hk (.inl rfl)); replace HB := am (hb); replace HI0 := am (hi); (try clear hb); (try clear hb2); (try clear hk); (try clear hi); (try clear ho0); obtain ⟨Ao43, co43, eo43⟩ := Kd.R_slice HO211.out; subst eo43))
      go_ret
      exact ⟨by first | rfl | (simp [errW_none, errW_some] <;> rfl) | (simp [*, errW_none, errW_some] <;> rfl), si28 HI0, be HB, ke HK⟩

/-! ### spec_l01Right: function 128 -/
mutual
def spec_l01Right.l0 : Nat → List (S38) → Int → Int → Int → (Nat → Int) → Option (Bool × Int × Int × (Nat → Int))
 | 0, _, _, _, _, _ => none
 | k + 1, x1, x5, x1000, x1001, x1002 => if x5 < (x1.length : Int) then (if 0 ≤ x5 then ((spec_l01Safe.f k x1000 x1001 x1002 ((rd_T38 x1 x5).f0.f0) ((rd_T38 x1 x5).f0.f1) ((rd_T38 x1 x5).f1) ((rd_T38 x1 x5).f2) ((rd_T38 x1 x5).f3) ((rd_T38 x1 x5).f4)).bind fun bt216 => (if bt216.1 = true then (spec_l01Right.l1 k x1 x5 0 bt216.2.1 bt216.2.2.1 bt216.2.2.2) else (some (false, bt216.2.1, bt216.2.2.1, bt216.2.2.2)))) else (none)) else (some (true, x1000, x1001, x1002))
def spec_l01Right.l1 : Nat → List (S38) → Int → Int → Int → Int → (Nat → Int) → Option (Bool × Int × Int × (Nat → Int))
 | 0, _, _, _, _, _, _ => none
 | k + 1, x1, x5, x6, x1000, x1001, x1002 => if x6 < x5 then (if 0 ≤ x5 then (if x5 < (x1.length : Int) then (if 0 ≤ x6 then (if x6 < (x1.length : Int) then ((spec_l01Touch.f k x1000 x1001 x1002 ((rd_T38 x1 x5).f0.f0) ((rd_T38 x1 x5).f0.f1) ((rd_T38 x1 x5).f1) ((rd_T38 x1 x5).f2) ((rd_T38 x1 x5).f3) ((rd_T38 x1 x5).f4) ((rd_T38 x1 x6).f0.f0) ((rd_T38 x1 x6).f0.f1) ((rd_T38 x1 x6).f1) ((rd_T38 x1 x6).f2) ((rd_T38 x1 x6).f3) ((rd_T38 x1 x6).f4)).bind fun bt222 => (if bt222.1 = true then (some (false, bt222.2.1, bt222.2.2.1, bt222.2.2.2)) else (spec_l01Right.l1 k x1 x5 (wrap64 (x6 + 1)) bt222.2.1 bt222.2.2.1 bt222.2.2.2))) else (none)) else (none)) else (none)) else (none)) else (spec_l01Right.l0 k x1 (wrap64 (x5 + 1)) x1000 x1001 x1002)
end
def spec_l01Right.f (k : Nat) (s0_0 : Int) (s0_1 : Int) (s0_2 : (Nat → Int)) (l1 : List (S38)) : Option (Bool × Int × Int × (Nat → Int)) := spec_l01Right.l0 k l1 0 s0_0 s0_1 s0_2
def spec_l01Right.T9 : Bool × List (List Nat × List Nat) := (true, [([], []), ([], []), ([], []), ([1, 2], [1, 2]), ([3], [3]), ([], []), ([], []), ([5, 6], [5, 6]), ([7], [7]), ([0, 4, 8], [0, 4, 8])])
def spec_l01Right.B9 : List Nat := [0, 0, 0, 6, 14, 0, 0, 96, 224, 511]
theorem spec_l01Right.tab9 : rtab .any (opsOf Try.f128 9) = spec_l01Right.T9 := by kernel_rfl
theorem spec_l01Right.bits9 : waitsOk spec_l01Right.T9.2 spec_l01Right.B9 = true := by kernel_rfl
set_option maxHeartbeats 8000000 in
set_option maxRecDepth 100000 in
theorem spec_l01Right.calls (k : Nat) (g : Nat) (s0_0 : Int) (s0_1 : Int) (s0_2 : (Nat → Int)) (A1 : Option Addr) (c1 : Nat) (l1 : List (S38)) (r1 : Bool) (r2 : Int) (r3 : Int) (r4 : (Nat → Int)) (w0 w : World) (hI : IsS28 w0 w g s0_0 s0_1 s0_2) (hB : Below w0.heap.size w0 w) (hr1 : ∀ W_, KeepBut w W_ g none → Kd.C k38 W_ A1 l1.length l1) (hc1 : l1.length ≤ c1) (h : spec_l01Right.f k s0_0 s0_1 s0_2 l1 = some (r1, r2, r3, r4)) :
  Calls Try.prog 128 #[.pointer (some ⟨g, 0, none⟩), .slice A1 l1.length c1] w fun e w' => e = .returned (.bool r1) ∧ IsS28 w0 w' g r2 r3 r4 ∧ Below w0.heap.size w0 w' ∧ KeepBut w w' g none := by
 have hu38 := Try.underlying38
 have HR1 := am hr1
 have HC1 := am hc1
 clear hr1 hc1
 have HI0 := am hI
 have HK := am (KeepBut.refl w g none)
 have HL := am hB.size
 clear hI
 have HW0 := am hB.size
 have HB := am hB
 clear hB
 have H : (spec_l01Right.l0 k l1 0 s0_0 s0_1 s0_2) = some (r1, r2, r3, r4) := h
 clear h
 have H' := am H
 clear H
 go_enter Try.func128, Try.ntmps128
 go_wp2
 go_loopg [5] k (fun kq v5 w' => ∃ (x5_1 : Int) (x1000_1 : Int) (x1001_1 : Int) (x1002_1 : (Nat → Int)), v5 = .int .i64 x5_1 ∧ Aside0 (spec_l01Right.l0 kq l1 x5_1 x1000_1 x1001_1 x1002_1 = some (r1, r2, r3, r4)) ∧ Aside0 (kq ≤ k) ∧ Aside0 (IsS28 w0 w' g x1000_1 x1001_1 x1002_1) ∧ Aside0 (KeepBut w w' g none) ∧ Aside0 (Below w0.heap.size w0 w'))
 case atStart => exact ⟨(0), (s0_0), (s0_1), (s0_2), vv, H', ⟨Nat.le_refl _⟩, ⟨si28 HI0⟩, ⟨ke HK⟩, ⟨be HB⟩⟩
 case round =>
  clear H'
  try clear c1
  try clear p2
  obtain ⟨x5_1, x1000_1, x1001_1, x1002_1, rfl, HA, HK1, HI0, HK, HB⟩ := hrel
  cases gk with
  | zero => exact absurd HA.out (by simp [spec_l01Right.l0])
  | succ k1 =>
   have H := HA.out
   clear HA
   simp only [spec_l01Right.l0] at H
   by_cases c3 : x5_1 < (l1.length : Int)
   ·rw [if_pos c3] at H
    have c3b0 : decide (x5_1 < (l1.length : Int)) = true := decide_eq_true c3
    clear c3
    by_cases c4 : 0 ≤ x5_1
    ·rw [if_pos c4] at H
     have c4b0 : decide (0 ≤ x5_1) = true := decide_eq_true c4
     have c4b1 : 0 ≤ x5_1 := c4
     clear c4
     replace H := Option.bind_eq_some_iff.mp H
     obtain ⟨⟨t216, t217, t218, t219⟩, A50, H⟩ := H
     try dsimp only at H
     have A5 := am A50
     clear A50
     by_cases c6 : t216 = true
     ·subst c6
      rw [if_pos rfl] at H
      have H' := am H
      clear H
      have p215 : 0 ≤ (x5_1 : Int) := of_decide_eq_true (by first | (with_reducible assumption) | assumption)
      have q215 : x5_1 < (l1.length : Int) := of_decide_eq_true (by first | (with_reducible assumption) | assumption)
      obtain ⟨ad215, e215, hx215_0, hx215_1, hx215_2, hx215_3, hx215_4, hx215_5⟩ := at_T38 (Kd.C_foot_now HR1.out HK.out) x5_1 p215 q215
      cases e215
      replace p215 := eq_true p215
      replace q215 := eq_true q215
      go_wp2_with (first | ((with_reducible refine gate_callee (f := 120) rfl ?_); refine gL (some 18) Try.func120 #[.pointer (some ⟨g, 0, none⟩), .agg #[.int .i8 ((rd_T38 l1 x5_1).f0.f0), .int .i8 ((rd_T38 l1 x5_1).f0.f1), .int .i8 ((rd_T38 l1 x5_1).f1), .int .i8 ((rd_T38 l1 x5_1).f2), .int .i8 ((rd_T38 l1 x5_1).f3), .int .i8 ((rd_T38 l1 x5_1).f4)]] ?_; (with_reducible refine (spec_l01Safe.calls k1 g x1000_1 x1001_1 x1002_1 ((rd_T38 l1 x5_1).f0.f0) ((rd_T38 l1 x5_1).f0.f1) ((rd_T38 l1 x5_1).f1) ((rd_T38 l1 x5_1).f2) ((rd_T38 l1 x5_1).f3) ((rd_T38 l1 x5_1).f4) true t217 t218 t219 w0 _ ?side1 ?side2 A5.out).mono ?_); (case side1 => exact si28 HI0); (case side2 => exact be HB); rintro e w7 ⟨rfl, hi, hb, hk⟩; refine ⟨_, rfl, ?_⟩; replace HK := am (KeepBut.trans (ke HK) hk (.inl rfl)); replace HB := am (hb); replace HI0 := am (hi); (try clear hb); (try clear hb2); (try clear hk); (try clear hi)))
      go_loopg [6] k1 (fun kq v6 w' => ∃ (x6_2 : Int) (x1000_2 : Int) (x1001_2 : Int) (x1002_2 : (Nat → Int)), v6 = .int .i64 x6_2 ∧ Aside0 (spec_l01Right.l1 kq l1 x5_1 x6_2 x1000_2 x1001_2 x1002_2 = some (r1, r2, r3, r4)) ∧ Aside0 (kq ≤ k1) ∧ Aside0 (IsS28 w0 w' g x1000_2 x1001_2 x1002_2) ∧ Aside0 (KeepBut w w' g none) ∧ Aside0 (Below w0.heap.size w0 w'))
      case atStart => exact ⟨(0), (t217), (t218), (t219), vv, H', ⟨Nat.le_refl _⟩, ⟨si28 HI0⟩, ⟨ke HK⟩, ⟨be HB⟩⟩
      case round =>
       clear H'
       try clear c1
       try clear p2
       try clear q2
       try clear hx2
       try clear c3
       try clear c3b0
       try clear c4
       try clear c4b0
       try clear c4b1
       try clear c6
       try clear hx215_0
       try clear hx215_1
       try clear hx215_2
       try clear hx215_3
       try clear hx215_4
       try clear hx215_5
       try clear p2
       try clear p215
       try clear q215
       obtain ⟨x6_2, x1000_2, x1001_2, x1002_2, rfl, HA, HK2, HI0, HK, HB⟩ := hrel
       cases gk with
       | zero => exact absurd HA.out (by simp [spec_l01Right.l1])
       | succ k2 =>
        have H := HA.out
        clear HA
        simp only [spec_l01Right.l1] at H
        by_cases c8 : x6_2 < x5_1
        ·rw [if_pos c8] at H
         have c8b0 : decide (x6_2 < x5_1) = true := decide_eq_true c8
         clear c8
         by_cases c9 : 0 ≤ x5_1
         ·rw [if_pos c9] at H
          have c9b0 : decide (0 ≤ x5_1) = true := decide_eq_true c9
          have c9b1 : 0 ≤ x5_1 := c9
          clear c9
          by_cases c10 : x5_1 < (l1.length : Int)
          ·rw [if_pos c10] at H
           have c10b0 : decide (x5_1 < (l1.length : Int)) = true := decide_eq_true c10
           clear c10
           by_cases c11 : 0 ≤ x6_2
           ·rw [if_pos c11] at H
            have c11b0 : decide (0 ≤ x6_2) = true := decide_eq_true c11
            have c11b1 : 0 ≤ x6_2 := c11
            clear c11
            by_cases c12 : x6_2 < (l1.length : Int)
            ·rw [if_pos c12] at H
             have c12b0 : decide (x6_2 < (l1.length : Int)) = true := decide_eq_true c12
             clear c12
             replace H := Option.bind_eq_some_iff.mp H
             obtain ⟨⟨t222, t223, t224, t225⟩, A130, H⟩ := H
             try dsimp only at H
             have A13 := am A130
             clear A130
             by_cases c14 : t222 = true
             ·subst c14
              rw [if_pos rfl] at H
              simp only [Option.some.injEq, Prod.mk.injEq] at H
              obtain ⟨rfl, rfl, rfl, rfl⟩ := H
              try go_wp2
              have n0_ := am (IsS28.drew HI0.out)
              have n1_ := am (keep_drew HK.out)
              have n2_ := am (below_drew1 HB.out)
              clear HI0
              clear HK
              clear HB
              have HI0 := n0_
              have HK := n1_
              have HB := n2_
              clear n0_ n1_ n2_
              have p220 : 0 ≤ (x5_1 : Int) := of_decide_eq_true (by first | (with_reducible assumption) | assumption)
              have q220 : x5_1 < (l1.length : Int) := of_decide_eq_true (by first | (with_reducible assumption) | assumption)
              obtain ⟨ad220, e220, hx220_0, hx220_1, hx220_2, hx220_3, hx220_4, hx220_5⟩ := at_T38 (Kd.C_foot_now HR1.out HK.out) x5_1 p220 q220
              have hw220_5 := hx220_5
              have hw220_4 := hx220_4
              have hw220_3 := hx220_3
              have hw220_2 := hx220_2
              have hw220_1 := hx220_1
              have hw220_0 := hx220_0
              obtain rfl : ad215 = ad220 := (by injection e220)
              have hne220_5 := (show (⟨(ad215.add ((x5_1).toNat * 6)).block, (ad215.add ((x5_1).toNat * 6)).off + 5, none⟩ : Addr).block ≠ g from by first | (rw [add_block]; exact Kd.foot_ne HR1.out (by omega) (by decide)) | (show (Addr.add _ _).block ≠ _; rw [add_block]; exact Kd.foot_ne HR1.out (by omega) (by decide)) | exact Kd.foot_ne HR1.out (by omega) (by decide) | (dsimp only; exact Kd.foot_ne HR1.out (by omega) (by decide)))
              have hlt220_5 := (Kd.foot_lt HR1.out (by omega) (by decide))
              have hne220_4 := (show (⟨(ad215.add ((x5_1).toNat * 6)).block, (ad215.add ((x5_1).toNat * 6)).off + 4, none⟩ : Addr).block ≠ g from by first | (rw [add_block]; exact Kd.foot_ne HR1.out (by omega) (by decide)) | (show (Addr.add _ _).block ≠ _; rw [add_block]; exact Kd.foot_ne HR1.out (by omega) (by decide)) | exact Kd.foot_ne HR1.out (by omega) (by decide) | (dsimp only; exact Kd.foot_ne HR1.out (by omega) (by decide)))
              have hlt220_4 := (Kd.foot_lt HR1.out (by omega) (by decide))
              have hne220_3 := (show (⟨(ad215.add ((x5_1).toNat * 6)).block, (ad215.add ((x5_1).toNat * 6)).off + 3, none⟩ : Addr).block ≠ g from by first | (rw [add_block]; exact Kd.foot_ne HR1.out (by omega) (by decide)) | (show (Addr.add _ _).block ≠ _; rw [add_block]; exact Kd.foot_ne HR1.out (by omega) (by decide)) | exact Kd.foot_ne HR1.out (by omega) (by decide) | (dsimp only; exact Kd.foot_ne HR1.out (by omega) (by decide)))
              have hlt220_3 := (Kd.foot_lt HR1.out (by omega) (by decide))
              have hne220_2 := (show (⟨(ad215.add ((x5_1).toNat * 6)).block, (ad215.add ((x5_1).toNat * 6)).off + 2, none⟩ : Addr).block ≠ g from by first | (rw [add_block]; exact Kd.foot_ne HR1.out (by omega) (by decide)) | (show (Addr.add _ _).block ≠ _; rw [add_block]; exact Kd.foot_ne HR1.out (by omega) (by decide)) | exact Kd.foot_ne HR1.out (by omega) (by decide) | (dsimp only; exact Kd.foot_ne HR1.out (by omega) (by decide)))
              have hlt220_2 := (Kd.foot_lt HR1.out (by omega) (by decide))
              have hne220_1 := (show (⟨(ad215.add ((x5_1).toNat * 6)).block, (ad215.add ((x5_1).toNat * 6)).off + 1, none⟩ : Addr).block ≠ g from by first | (rw [add_block]; exact Kd.foot_ne HR1.out (by omega) (by decide)) | (show (Addr.add _ _).block ≠ _; rw [add_block]; exact Kd.foot_ne HR1.out (by omega) (by decide)) | exact Kd.foot_ne HR1.out (by omega) (by decide) | (dsimp only; exact Kd.foot_ne HR1.out (by omega) (by decide)))
              have hlt220_1 := (Kd.foot_lt HR1.out (by omega) (by decide))
              have hne220_0 := (show ((ad215.add ((x5_1).toNat * 6)) : Addr).block ≠ g from by first | (rw [add_block]; exact Kd.foot_ne HR1.out (by omega) (by decide)) | (show (Addr.add _ _).block ≠ _; rw [add_block]; exact Kd.foot_ne HR1.out (by omega) (by decide)) | exact Kd.foot_ne HR1.out (by omega) (by decide) | (dsimp only; exact Kd.foot_ne HR1.out (by omega) (by decide)))
              have hlt220_0 := (Kd.foot_lt HR1.out (by omega) (by decide))
              replace p220 := eq_true p220
              replace q220 := eq_true q220
              have p221 : 0 ≤ (x6_2 : Int) := of_decide_eq_true (by first | (with_reducible assumption) | assumption)
              have q221 : x6_2 < (l1.length : Int) := of_decide_eq_true (by first | (with_reducible assumption) | assumption)
              obtain ⟨ad221, e221, hx221_0, hx221_1, hx221_2, hx221_3, hx221_4, hx221_5⟩ := at_T38 (Kd.C_foot_now HR1.out HK.out) x6_2 p221 q221
              have hw221_5 := hx221_5
              have hw221_4 := hx221_4
              have hw221_3 := hx221_3
              have hw221_2 := hx221_2
              have hw221_1 := hx221_1
              have hw221_0 := hx221_0
              obtain rfl : ad215 = ad221 := (by injection e221)
              have hne221_5 := (show (⟨(ad215.add ((x6_2).toNat * 6)).block, (ad215.add ((x6_2).toNat * 6)).off + 5, none⟩ : Addr).block ≠ g from by first | (rw [add_block]; exact Kd.foot_ne HR1.out (by omega) (by decide)) | (show (Addr.add _ _).block ≠ _; rw [add_block]; exact Kd.foot_ne HR1.out (by omega) (by decide)) | exact Kd.foot_ne HR1.out (by omega) (by decide) | (dsimp only; exact Kd.foot_ne HR1.out (by omega) (by decide)))
              have hlt221_5 := (Kd.foot_lt HR1.out (by omega) (by decide))
              have hne221_4 := (show (⟨(ad215.add ((x6_2).toNat * 6)).block, (ad215.add ((x6_2).toNat * 6)).off + 4, none⟩ : Addr).block ≠ g from by first | (rw [add_block]; exact Kd.foot_ne HR1.out (by omega) (by decide)) | (show (Addr.add _ _).block ≠ _; rw [add_block]; exact Kd.foot_ne HR1.out (by omega) (by decide)) | exact Kd.foot_ne HR1.out (by omega) (by decide) | (dsimp only; exact Kd.foot_ne HR1.out (by omega) (by decide)))
              have hlt221_4 := (Kd.foot_lt HR1.out (by omega) (by decide))
              have hne221_3 := (show (⟨(ad215.add ((x6_2).toNat * 6)).block, (ad215.add ((x6_2).toNat * 6)).off + 3, none⟩ : Addr).block ≠ g from by first | (rw [add_block]; exact Kd.foot_ne HR1.out (by omega) (by decide)) | (show (Addr.add _ _).block ≠ _; rw [add_block]; exact Kd.foot_ne HR1.out (by omega) (by decide)) | exact Kd.foot_ne HR1.out (by omega) (by decide) | (dsimp only; exact Kd.foot_ne HR1.out (by omega) (by decide)))
              have hlt221_3 := (Kd.foot_lt HR1.out (by omega) (by decide))
              have hne221_2 := (show (⟨(ad215.add ((x6_2).toNat * 6)).block, (ad215.add ((x6_2).toNat * 6)).off + 2, none⟩ : Addr).block ≠ g from by first | (rw [add_block]; exact Kd.foot_ne HR1.out (by omega) (by decide)) | (show (Addr.add _ _).block ≠ _; rw [add_block]; exact Kd.foot_ne HR1.out (by omega) (by decide)) | exact Kd.foot_ne HR1.out (by omega) (by decide) | (dsimp only; exact Kd.foot_ne HR1.out (by omega) (by decide)))
              have hlt221_2 := (Kd.foot_lt HR1.out (by omega) (by decide))
              have hne221_1 := (show (⟨(ad215.add ((x6_2).toNat * 6)).block, (ad215.add ((x6_2).toNat * 6)).off + 1, none⟩ : Addr).block ≠ g from by first | (rw [add_block]; exact Kd.foot_ne HR1.out (by omega) (by decide)) | (show (Addr.add _ _).block ≠ _; rw [add_block]; exact Kd.foot_ne HR1.out (by omega) (by decide)) | exact Kd.foot_ne HR1.out (by omega) (by decide) | (dsimp only; exact Kd.foot_ne HR1.out (by omega) (by decide)))
              have hlt221_1 := (Kd.foot_lt HR1.out (by omega) (by decide))
              have hne221_0 := (show ((ad215.add ((x6_2).toNat * 6)) : Addr).block ≠ g from by first | (rw [add_block]; exact Kd.foot_ne HR1.out (by omega) (by decide)) | (show (Addr.add _ _).block ≠ _; rw [add_block]; exact Kd.foot_ne HR1.out (by omega) (by decide)) | exact Kd.foot_ne HR1.out (by omega) (by decide) | (dsimp only; exact Kd.foot_ne HR1.out (by omega) (by decide)))
              have hlt221_0 := (Kd.foot_lt HR1.out (by omega) (by decide))
              replace p221 := eq_true p221
              replace q221 := eq_true q221
              refine start_ (n := 10) (S := fun w' => w'.cell? (ad215.add ((x5_1).toNat * 6)) = some (.int .i8 ((rd_T38 l1 x5_1).f0.f0)) ∧ w'.cell? ⟨(ad215.add ((x5_1).toNat * 6)).block, (ad215.add ((x5_1).toNat * 6)).off + 1, none⟩ = some (.int .i8 ((rd_T38 l1 x5_1).f0.f1)) ∧ w'.cell? ⟨(ad215.add ((x5_1).toNat * 6)).block, (ad215.add ((x5_1).toNat * 6)).off + 2, none⟩ = some (.int .i8 ((rd_T38 l1 x5_1).f1)) ∧ w'.cell? ⟨(ad215.add ((x5_1).toNat * 6)).block, (ad215.add ((x5_1).toNat * 6)).off + 3, none⟩ = some (.int .i8 ((rd_T38 l1 x5_1).f2)) ∧ w'.cell? ⟨(ad215.add ((x5_1).toNat * 6)).block, (ad215.add ((x5_1).toNat * 6)).off + 4, none⟩ = some (.int .i8 ((rd_T38 l1 x5_1).f3)) ∧ w'.cell? ⟨(ad215.add ((x5_1).toNat * 6)).block, (ad215.add ((x5_1).toNat * 6)).off + 5, none⟩ = some (.int .i8 ((rd_T38 l1 x5_1).f4)) ∧ w'.cell? (ad215.add ((x6_2).toNat * 6)) = some (.int .i8 ((rd_T38 l1 x6_2).f0.f0)) ∧ w'.cell? ⟨(ad215.add ((x6_2).toNat * 6)).block, (ad215.add ((x6_2).toNat * 6)).off + 1, none⟩ = some (.int .i8 ((rd_T38 l1 x6_2).f0.f1)) ∧ w'.cell? ⟨(ad215.add ((x6_2).toNat * 6)).block, (ad215.add ((x6_2).toNat * 6)).off + 2, none⟩ = some (.int .i8 ((rd_T38 l1 x6_2).f1)) ∧ w'.cell? ⟨(ad215.add ((x6_2).toNat * 6)).block, (ad215.add ((x6_2).toNat * 6)).off + 3, none⟩ = some (.int .i8 ((rd_T38 l1 x6_2).f2)) ∧ w'.cell? ⟨(ad215.add ((x6_2).toNat * 6)).block, (ad215.add ((x6_2).toNat * 6)).off + 4, none⟩ = some (.int .i8 ((rd_T38 l1 x6_2).f3)) ∧ w'.cell? ⟨(ad215.add ((x6_2).toNat * 6)).block, (ad215.add ((x6_2).toNat * 6)).off + 5, none⟩ = some (.int .i8 ((rd_T38 l1 x6_2).f4))) (ds := []) #[false, false, false, false, false, false, false, false, false, false] (by kernel_rfl) rfl rfl ⟨hx220_0, hx220_1, hx220_2, hx220_3, hx220_4, hx220_5, hx221_0, hx221_1, hx221_2, hx221_3, hx221_4, hx221_5⟩ (fun hHeld => ?_); refine with_tabW spec_l01Right.tab9 spec_l01Right.bits9 (fun HT_ HW_ => ?_)
              generalize wr.drew = w15 at HI0 HK HB hx220_0 hx220_1 hx220_2 hx220_3 hx220_4 hx220_5 hx221_0 hx221_1 hx221_2 hx221_3 hx221_4 hx221_5 hHeld ⊢
              refine pS (i := 0) (some 25) #[true, false, false, false, false, false, false, false, false, false] (any_of HT_.out (by kernel_rfl)) ?_
              refine pS (i := 1) (some 26) #[true, true, false, false, false, false, false, false, false, false] (any_of HT_.out (by kernel_rfl)) ?_
              refine pS (i := 2) (some 27) #[true, true, true, false, false, false, false, false, false, false] (any_of HT_.out (by kernel_rfl)) ?_
              refine pS (i := 3) (some 28) #[true, true, true, true, false, false, false, false, false, false] (any_of HT_.out (by kernel_rfl)) ?_
              refine pS (i := 5) (some 30) #[true, true, true, true, false, true, false, false, false, false] (any_of HT_.out (by kernel_rfl)) ?_
              refine pS (i := 6) (some 31) #[true, true, true, true, false, true, true, false, false, false] (any_of HT_.out (by kernel_rfl)) ?_
              refine pS (i := 7) (some 32) #[true, true, true, true, false, true, true, true, false, false] (any_of HT_.out (by kernel_rfl)) ?_
              refine tS (i := 4) (some 29) #[true, true, true, true, true, true, true, true, false, false] (take_ofW HT_.out HW_.out (by kernel_rfl)) hHeld ?_
              refine tS (i := 8) (some 33) #[true, true, true, true, true, true, true, true, true, false] (take_ofW HT_.out HW_.out (by kernel_rfl)) hHeld ?_
              refine one_ (i := 9) (N := some 34) #[true, true, true, true, true, true, true, true, true, true] rfl rfl (one_of HT_.out (by kernel_rfl)) (by decide) (fun K hK => ?_)
              refine goes_ Try.func118 (by kernel_rfl) rfl #[.pointer (some ⟨g, 0, none⟩), .agg #[.int .i8 ((rd_T38 l1 x5_1).f0.f0), .int .i8 ((rd_T38 l1 x5_1).f0.f1), .int .i8 ((rd_T38 l1 x5_1).f1), .int .i8 ((rd_T38 l1 x5_1).f2), .int .i8 ((rd_T38 l1 x5_1).f3), .int .i8 ((rd_T38 l1 x5_1).f4)], .agg #[.int .i8 ((rd_T38 l1 x6_2).f0.f0), .int .i8 ((rd_T38 l1 x6_2).f0.f1), .int .i8 ((rd_T38 l1 x6_2).f1), .int .i8 ((rd_T38 l1 x6_2).f2), .int .i8 ((rd_T38 l1 x6_2).f3), .int .i8 ((rd_T38 l1 x6_2).f4)]] (by rfl) rfl rfl (by (try simp only [List.map_toArray, List.map_cons, List.map_nil]); first | done | rfl | (simp only [List.length_drop, List.length_take]; rfl)) ?_
              with_reducible refine (spec_l01Touch.calls k2 g x1000_2 x1001_2 x1002_2 ((rd_T38 l1 x5_1).f0.f0) ((rd_T38 l1 x5_1).f0.f1) ((rd_T38 l1 x5_1).f1) ((rd_T38 l1 x5_1).f2) ((rd_T38 l1 x5_1).f3) ((rd_T38 l1 x5_1).f4) ((rd_T38 l1 x6_2).f0.f0) ((rd_T38 l1 x6_2).f0.f1) ((rd_T38 l1 x6_2).f1) ((rd_T38 l1 x6_2).f2) ((rd_T38 l1 x6_2).f3) ((rd_T38 l1 x6_2).f4) true t223 t224 t225 w0 _ ?side1 ?side2 A13.out).mono ?_
              (case side1 => exact si28 HI0)
              (case side2 => exact be HB)
              rintro e w16 ⟨rfl, hi, hb, hk⟩
              have HS0_ := keep_cell hk (hHeld.1) (by first | (rw [add_block]; exact hne220_0) | (show (Addr.add _ _).block ≠ _; rw [add_block]; exact hne220_0) | exact hne220_0)
              have HS1_ := keep_cell hk (hHeld.2.1) (by first | (rw [add_block]; exact hne220_1) | (show (Addr.add _ _).block ≠ _; rw [add_block]; exact hne220_1) | exact hne220_1)
              have HS2_ := keep_cell hk (hHeld.2.2.1) (by first | (rw [add_block]; exact hne220_2) | (show (Addr.add _ _).block ≠ _; rw [add_block]; exact hne220_2) | exact hne220_2)
              have HS3_ := keep_cell hk (hHeld.2.2.2.1) (by first | (rw [add_block]; exact hne220_3) | (show (Addr.add _ _).block ≠ _; rw [add_block]; exact hne220_3) | exact hne220_3)
              have HS4_ := keep_cell hk (hHeld.2.2.2.2.1) (by first | (rw [add_block]; exact hne220_4) | (show (Addr.add _ _).block ≠ _; rw [add_block]; exact hne220_4) | exact hne220_4)
              have HS5_ := keep_cell hk (hHeld.2.2.2.2.2.1) (by first | (rw [add_block]; exact hne220_5) | (show (Addr.add _ _).block ≠ _; rw [add_block]; exact hne220_5) | exact hne220_5)
              have HS6_ := keep_cell hk (hHeld.2.2.2.2.2.2.1) (by first | (rw [add_block]; exact hne221_0) | (show (Addr.add _ _).block ≠ _; rw [add_block]; exact hne221_0) | exact hne221_0)
              have HS7_ := keep_cell hk (hHeld.2.2.2.2.2.2.2.1) (by first | (rw [add_block]; exact hne221_1) | (show (Addr.add _ _).block ≠ _; rw [add_block]; exact hne221_1) | exact hne221_1)
              have HS8_ := keep_cell hk (hHeld.2.2.2.2.2.2.2.2.1) (by first | (rw [add_block]; exact hne221_2) | (show (Addr.add _ _).block ≠ _; rw [add_block]; exact hne221_2) | exact hne221_2)
              have HS9_ := keep_cell hk (hHeld.2.2.2.2.2.2.2.2.2.1) (by first | (rw [add_block]; exact hne221_3) | (show (Addr.add _ _).block ≠ _; rw [add_block]; exact hne221_3) | exact hne221_3)
              have HS10_ := keep_cell hk (hHeld.2.2.2.2.2.2.2.2.2.2.1) (by first | (rw [add_block]; exact hne221_4) | (show (Addr.add _ _).block ≠ _; rw [add_block]; exact hne221_4) | exact hne221_4)
              have HS11_ := keep_cell hk (hHeld.2.2.2.2.2.2.2.2.2.2.2) (by first | (rw [add_block]; exact hne221_5) | (show (Addr.add _ _).block ≠ _; rw [add_block]; exact hne221_5) | exact hne221_5)
              refine ⟨_, rfl, ?_⟩
              have n0_ := am (KeepBut.trans (ke HK) hk (.inl rfl))
              have n1_ := am (hb)
              have n2_ := am (hi)
              clear HK
              clear HB
              clear HI0
              have HK := n0_
              have HB := n1_
              have HI0 := n2_
              clear n0_ n1_ n2_
              (try clear hb)
              (try clear hb2)
              (try clear hk)
              (try clear hi)
              refine hK.out _ _ ⟨HS0_, HS1_, HS2_, HS3_, HS4_, HS5_, HS6_, HS7_, HS8_, HS9_, HS10_, HS11_⟩ (fun hHeld => ?_)
              clear hK K
              refine norm_ (a' := ?_) ?_ ?_
              rotate_left
              ·show Act.put _ (some 34) _ = _
               simp only [Act.put, List.setIfInBounds_toArray, List.set_cons_zero, List.set_cons_succ, i64_w, i32_w]
               rfl
              refine done_ (done_of HT_.out (by kernel_rfl)) ?_
              try go_wp2
              go_ret
              exact ⟨by first | rfl | (simp [errW_none, errW_some] <;> rfl) | (simp [*, errW_none, errW_some] <;> rfl), si28 HI0, be HB, ke HK⟩
             ·replace c14 := Bool.eq_false_iff.mpr c14
              subst c14
              have H1 : (spec_l01Right.l1 k2 l1 x5_1 (wrap64 (x6_2 + 1)) t223 t224 t225) = some (r1, r2, r3, r4) := by rw [if_neg (show ¬ (false = true) by decide)] at H; exact H
              clear H
              have H := H1
              clear H1
              have H' := am H
              clear H
              try go_wp2
              have n0_ := am (IsS28.drew HI0.out)
              have n1_ := am (keep_drew HK.out)
              have n2_ := am (below_drew1 HB.out)
              clear HI0
              clear HK
              clear HB
              have HI0 := n0_
              have HK := n1_
              have HB := n2_
              clear n0_ n1_ n2_
              have p220 : 0 ≤ (x5_1 : Int) := of_decide_eq_true (by first | (with_reducible assumption) | assumption)
              have q220 : x5_1 < (l1.length : Int) := of_decide_eq_true (by first | (with_reducible assumption) | assumption)
              obtain ⟨ad220, e220, hx220_0, hx220_1, hx220_2, hx220_3, hx220_4, hx220_5⟩ := at_T38 (Kd.C_foot_now HR1.out HK.out) x5_1 p220 q220
              have hw220_5 := hx220_5
              have hw220_4 := hx220_4
              have hw220_3 := hx220_3
              have hw220_2 := hx220_2
              have hw220_1 := hx220_1
              have hw220_0 := hx220_0
              obtain rfl : ad215 = ad220 := (by injection e220)
              have hne220_5 := (show (⟨(ad215.add ((x5_1).toNat * 6)).block, (ad215.add ((x5_1).toNat * 6)).off + 5, none⟩ : Addr).block ≠ g from by first | (rw [add_block]; exact Kd.foot_ne HR1.out (by omega) (by decide)) | (show (Addr.add _ _).block ≠ _; rw [add_block]; exact Kd.foot_ne HR1.out (by omega) (by decide)) | exact Kd.foot_ne HR1.out (by omega) (by decide) | (dsimp only; exact Kd.foot_ne HR1.out (by omega) (by decide)))
              have hlt220_5 := (Kd.foot_lt HR1.out (by omega) (by decide))
              have hne220_4 := (show (⟨(ad215.add ((x5_1).toNat * 6)).block, (ad215.add ((x5_1).toNat * 6)).off + 4, none⟩ : Addr).block ≠ g from by first | (rw [add_block]; exact Kd.foot_ne HR1.out (by omega) (by decide)) | (show (Addr.add _ _).block ≠ _; rw [add_block]; exact Kd.foot_ne HR1.out (by omega) (by decide)) | exact Kd.foot_ne HR1.out (by omega) (by decide) | (dsimp only; exact Kd.foot_ne HR1.out (by omega) (by decide)))
              have hlt220_4 := (Kd.foot_lt HR1.out (by omega) (by decide))
              have hne220_3 := (show (⟨(ad215.add ((x5_1).toNat * 6)).block, (ad215.add ((x5_1).toNat * 6)).off + 3, none⟩ : Addr).block ≠ g from by first | (rw [add_block]; exact Kd.foot_ne HR1.out (by omega) (by decide)) | (show (Addr.add _ _).block ≠ _; rw [add_block]; exact Kd.foot_ne HR1.out (by omega) (by decide)) | exact Kd.foot_ne HR1.out (by omega) (by decide) | (dsimp only; exact Kd.foot_ne HR1.out (by omega) (by decide)))
              have hlt220_3 := (Kd.foot_lt HR1.out (by omega) (by decide))
              have hne220_2 := (show (⟨(ad215.add ((x5_1).toNat * 6)).block, (ad215.add ((x5_1).toNat * 6)).off + 2, none⟩ : Addr).block ≠ g from by first | (rw [add_block]; exact Kd.foot_ne HR1.out (by omega) (by decide)) | (show (Addr.add _ _).block ≠ _; rw [add_block]; exact Kd.foot_ne HR1.out (by omega) (by decide)) | exact Kd.foot_ne HR1.out (by omega) (by decide) | (dsimp only; exact Kd.foot_ne HR1.out (by omega) (by decide)))
              have hlt220_2 := (Kd.foot_lt HR1.out (by omega) (by decide))
              have hne220_1 := (show (⟨(ad215.add ((x5_1).toNat * 6)).block, (ad215.add ((x5_1).toNat * 6)).off + 1, none⟩ : Addr).block ≠ g from by first | (rw [add_block]; exact Kd.foot_ne HR1.out (by omega) (by decide)) | (show (Addr.add _ _).block ≠ _; rw [add_block]; exact Kd.foot_ne HR1.out (by omega) (by decide)) | exact Kd.foot_ne HR1.out (by omega) (by decide) | (dsimp only; exact Kd.foot_ne HR1.out (by omega) (by decide)))
              have hlt220_1 := (Kd.foot_lt HR1.out (by omega) (by decide))
              have hne220_0 := (show ((ad215.add ((x5_1).toNat * 6)) : Addr).block ≠ g from by first | (rw [add_block]; exact Kd.foot_ne HR1.out (by omega) (by decide)) | (show (Addr.add _ _).block ≠ _; rw [add_block]; exact Kd.foot_ne HR1.out (by omega) (by decide)) | exact Kd.foot_ne HR1.out (by omega) (by decide) | (dsimp only; exact Kd.foot_ne HR1.out (by omega) (by decide)))
              have hlt220_0 := (Kd.foot_lt HR1.out (by omega) (by decide))
              replace p220 := eq_true p220
              replace q220 := eq_true q220
              have p221 : 0 ≤ (x6_2 : Int) := of_decide_eq_true (by first | (with_reducible assumption) | assumption)
              have q221 : x6_2 < (l1.length : Int) := of_decide_eq_true (by first | (with_reducible assumption) | assumption)
              obtain ⟨ad221, e221, hx221_0, hx221_1, hx221_2, hx221_3, hx221_4, hx221_5⟩ := at_T38 (Kd.C_foot_now HR1.out HK.out) x6_2 p221 q221
              have hw221_5 := hx221_5
              have hw221_4 := hx221_4
              have hw221_3 := hx221_3
              have hw221_2 := hx221_2
              have hw221_1 := hx221_1
              have hw221_0 := hx221_0
              obtain rfl : ad215 = ad221 := (by injection e221)
              have hne221_5 := (show (⟨(ad215.add ((x6_2).toNat * 6)).block, (ad215.add ((x6_2).toNat * 6)).off + 5, none⟩ : Addr).block ≠ g from by first | (rw [add_block]; exact Kd.foot_ne HR1.out (by omega) (by decide)) | (show (Addr.add _ _).block ≠ _; rw [add_block]; exact Kd.foot_ne HR1.out (by omega) (by decide)) | exact Kd.foot_ne HR1.out (by omega) (by decide) | (dsimp only; exact Kd.foot_ne HR1.out (by omega) (by decide)))
              have hlt221_5 := (Kd.foot_lt HR1.out (by omega) (by decide))
              have hne221_4 := (show (⟨(ad215.add ((x6_2).toNat * 6)).block, (ad215.add ((x6_2).toNat * 6)).off + 4, none⟩ : Addr).block ≠ g from by first | (rw [add_block]; exact Kd.foot_ne HR1.out (by omega) (by decide)) | (show (Addr.add _ _).block ≠ _; rw [add_block]; exact Kd.foot_ne HR1.out (by omega) (by decide)) | exact Kd.foot_ne HR1.out (by omega) (by decide) | (dsimp only; exact Kd.foot_ne HR1.out (by omega) (by decide)))
              have hlt221_4 := (Kd.foot_lt HR1.out (by omega) (by decide))
              have hne221_3 := (show (⟨(ad215.add ((x6_2).toNat * 6)).block, (ad215.add ((x6_2).toNat * 6)).off + 3, none⟩ : Addr).block ≠ g from by first | (rw [add_block]; exact Kd.foot_ne HR1.out (by omega) (by decide)) | (show (Addr.add _ _).block ≠ _; rw [add_block]; exact Kd.foot_ne HR1.out (by omega) (by decide)) | exact Kd.foot_ne HR1.out (by omega) (by decide) | (dsimp only; exact Kd.foot_ne HR1.out (by omega) (by decide)))
              have hlt221_3 := (Kd.foot_lt HR1.out (by omega) (by decide))
              have hne221_2 := (show (⟨(ad215.add ((x6_2).toNat * 6)).block, (ad215.add ((x6_2).toNat * 6)).off + 2, none⟩ : Addr).block ≠ g from by first | (rw [add_block]; exact Kd.foot_ne HR1.out (by omega) (by decide)) | (show (Addr.add _ _).block ≠ _; rw [add_block]; exact Kd.foot_ne HR1.out (by omega) (by decide)) | exact Kd.foot_ne HR1.out (by omega) (by decide) | (dsimp only; exact Kd.foot_ne HR1.out (by omega) (by decide)))
              have hlt221_2 := (Kd.foot_lt HR1.out (by omega) (by decide))
              have hne221_1 := (show (⟨(ad215.add ((x6_2).toNat * 6)).block, (ad215.add ((x6_2).toNat * 6)).off + 1, none⟩ : Addr).block ≠ g from by first | (rw [add_block]; exact Kd.foot_ne HR1.out (by omega) (by decide)) | (show (Addr.add _ _).block ≠ _; rw [add_block]; exact Kd.foot_ne HR1.out (by omega) (by decide)) | exact Kd.foot_ne HR1.out (by omega) (by decide) | (dsimp only; exact Kd.foot_ne HR1.out (by omega) (by decide)))
              have hlt221_1 := (Kd.foot_lt HR1.out (by omega) (by decide))
              have hne221_0 := (show ((ad215.add ((x6_2).toNat * 6)) : Addr).block ≠ g from by first | (rw [add_block]; exact Kd.foot_ne HR1.out (by omega) (by decide)) | (show (Addr.add _ _).block ≠ _; rw [add_block]; exact Kd.foot_ne HR1.out (by omega) (by decide)) | exact Kd.foot_ne HR1.out (by omega) (by decide) | (dsimp only; exact Kd.foot_ne HR1.out (by omega) (by decide)))
              have hlt221_0 := (Kd.foot_lt HR1.out (by omega) (by decide))
              replace p221 := eq_true p221
              replace q221 := eq_true q221
              refine start_ (n := 10) (S := fun w' => w'.cell? (ad215.add ((x5_1).toNat * 6)) = some (.int .i8 ((rd_T38 l1 x5_1).f0.f0)) ∧ w'.cell? ⟨(ad215.add ((x5_1).toNat * 6)).block, (ad215.add ((x5_1).toNat * 6)).off + 1, none⟩ = some (.int .i8 ((rd_T38 l1 x5_1).f0.f1)) ∧ w'.cell? ⟨(ad215.add ((x5_1).toNat * 6)).block, (ad215.add ((x5_1).toNat * 6)).off + 2, none⟩ = some (.int .i8 ((rd_T38 l1 x5_1).f1)) ∧ w'.cell? ⟨(ad215.add ((x5_1).toNat * 6)).block, (ad215.add ((x5_1).toNat * 6)).off + 3, none⟩ = some (.int .i8 ((rd_T38 l1 x5_1).f2)) ∧ w'.cell? ⟨(ad215.add ((x5_1).toNat * 6)).block, (ad215.add ((x5_1).toNat * 6)).off + 4, none⟩ = some (.int .i8 ((rd_T38 l1 x5_1).f3)) ∧ w'.cell? ⟨(ad215.add ((x5_1).toNat * 6)).block, (ad215.add ((x5_1).toNat * 6)).off + 5, none⟩ = some (.int .i8 ((rd_T38 l1 x5_1).f4)) ∧ w'.cell? (ad215.add ((x6_2).toNat * 6)) = some (.int .i8 ((rd_T38 l1 x6_2).f0.f0)) ∧ w'.cell? ⟨(ad215.add ((x6_2).toNat * 6)).block, (ad215.add ((x6_2).toNat * 6)).off + 1, none⟩ = some (.int .i8 ((rd_T38 l1 x6_2).f0.f1)) ∧ w'.cell? ⟨(ad215.add ((x6_2).toNat * 6)).block, (ad215.add ((x6_2).toNat * 6)).off + 2, none⟩ = some (.int .i8 ((rd_T38 l1 x6_2).f1)) ∧ w'.cell? ⟨(ad215.add ((x6_2).toNat * 6)).block, (ad215.add ((x6_2).toNat * 6)).off + 3, none⟩ = some (.int .i8 ((rd_T38 l1 x6_2).f2)) ∧ w'.cell? ⟨(ad215.add ((x6_2).toNat * 6)).block, (ad215.add ((x6_2).toNat * 6)).off + 4, none⟩ = some (.int .i8 ((rd_T38 l1 x6_2).f3)) ∧ w'.cell? ⟨(ad215.add ((x6_2).toNat * 6)).block, (ad215.add ((x6_2).toNat * 6)).off + 5, none⟩ = some (.int .i8 ((rd_T38 l1 x6_2).f4))) (ds := []) #[false, false, false, false, false, false, false, false, false, false] (by kernel_rfl) rfl rfl ⟨hx220_0, hx220_1, hx220_2, hx220_3, hx220_4, hx220_5, hx221_0, hx221_1, hx221_2, hx221_3, hx221_4, hx221_5⟩ (fun hHeld => ?_); refine with_tabW spec_l01Right.tab9 spec_l01Right.bits9 (fun HT_ HW_ => ?_)
              generalize wr.drew = w17 at HI0 HK HB hx220_0 hx220_1 hx220_2 hx220_3 hx220_4 hx220_5 hx221_0 hx221_1 hx221_2 hx221_3 hx221_4 hx221_5 hHeld ⊢
              refine pS (i := 0) (some 25) #[true, false, false, false, false, false, false, false, false, false] (any_of HT_.out (by kernel_rfl)) ?_
              refine pS (i := 1) (some 26) #[true, true, false, false, false, false, false, false, false, false] (any_of HT_.out (by kernel_rfl)) ?_
              refine pS (i := 2) (some 27) #[true, true, true, false, false, false, false, false, false, false] (any_of HT_.out (by kernel_rfl)) ?_
              refine pS (i := 3) (some 28) #[true, true, true, true, false, false, false, false, false, false] (any_of HT_.out (by kernel_rfl)) ?_
              refine pS (i := 5) (some 30) #[true, true, true, true, false, true, false, false, false, false] (any_of HT_.out (by kernel_rfl)) ?_
              refine pS (i := 6) (some 31) #[true, true, true, true, false, true, true, false, false, false] (any_of HT_.out (by kernel_rfl)) ?_
              refine pS (i := 7) (some 32) #[true, true, true, true, false, true, true, true, false, false] (any_of HT_.out (by kernel_rfl)) ?_
              refine tS (i := 4) (some 29) #[true, true, true, true, true, true, true, true, false, false] (take_ofW HT_.out HW_.out (by kernel_rfl)) hHeld ?_
              refine tS (i := 8) (some 33) #[true, true, true, true, true, true, true, true, true, false] (take_ofW HT_.out HW_.out (by kernel_rfl)) hHeld ?_
              refine one_ (i := 9) (N := some 34) #[true, true, true, true, true, true, true, true, true, true] rfl rfl (one_of HT_.out (by kernel_rfl)) (by decide) (fun K hK => ?_)
              refine goes_ Try.func118 (by kernel_rfl) rfl #[.pointer (some ⟨g, 0, none⟩), .agg #[.int .i8 ((rd_T38 l1 x5_1).f0.f0), .int .i8 ((rd_T38 l1 x5_1).f0.f1), .int .i8 ((rd_T38 l1 x5_1).f1), .int .i8 ((rd_T38 l1 x5_1).f2), .int .i8 ((rd_T38 l1 x5_1).f3), .int .i8 ((rd_T38 l1 x5_1).f4)], .agg #[.int .i8 ((rd_T38 l1 x6_2).f0.f0), .int .i8 ((rd_T38 l1 x6_2).f0.f1), .int .i8 ((rd_T38 l1 x6_2).f1), .int .i8 ((rd_T38 l1 x6_2).f2), .int .i8 ((rd_T38 l1 x6_2).f3), .int .i8 ((rd_T38 l1 x6_2).f4)]] (by rfl) rfl rfl (by (try simp only [List.map_toArray, List.map_cons, List.map_nil]); first | done | rfl | (simp only [List.length_drop, List.length_take]; rfl)) ?_
              with_reducible refine (spec_l01Touch.calls k2 g x1000_2 x1001_2 x1002_2 ((rd_T38 l1 x5_1).f0.f0) ((rd_T38 l1 x5_1).f0.f1) ((rd_T38 l1 x5_1).f1) ((rd_T38 l1 x5_1).f2) ((rd_T38 l1 x5_1).f3) ((rd_T38 l1 x5_1).f4) ((rd_T38 l1 x6_2).f0.f0) ((rd_T38 l1 x6_2).f0.f1) ((rd_T38 l1 x6_2).f1) ((rd_T38 l1 x6_2).f2) ((rd_T38 l1 x6_2).f3) ((rd_T38 l1 x6_2).f4) false t223 t224 t225 w0 _ ?side1 ?side2 A13.out).mono ?_
              (case side1 => exact si28 HI0)
              (case side2 => exact be HB)
              rintro e w18 ⟨rfl, hi, hb, hk⟩
              have HS0_ := keep_cell hk (hHeld.1) (by first | (rw [add_block]; exact hne220_0) | (show (Addr.add _ _).block ≠ _; rw [add_block]; exact hne220_0) | exact hne220_0)
              have HS1_ := keep_cell hk (hHeld.2.1) (by first | (rw [add_block]; exact hne220_1) | (show (Addr.add _ _).block ≠ _; rw [add_block]; exact hne220_1) | exact hne220_1)
              have HS2_ := keep_cell hk (hHeld.2.2.1) (by first | (rw [add_block]; exact hne220_2) | (show (Addr.add _ _).block ≠ _; rw [add_block]; exact hne220_2) | exact hne220_2)
              have HS3_ := keep_cell hk (hHeld.2.2.2.1) (by first | (rw [add_block]; exact hne220_3) | (show (Addr.add _ _).block ≠ _; rw [add_block]; exact hne220_3) | exact hne220_3)
              have HS4_ := keep_cell hk (hHeld.2.2.2.2.1) (by first | (rw [add_block]; exact hne220_4) | (show (Addr.add _ _).block ≠ _; rw [add_block]; exact hne220_4) | exact hne220_4)
              have HS5_ := keep_cell hk (hHeld.2.2.2.2.2.1) (by first | (rw [add_block]; exact hne220_5) | (show (Addr.add _ _).block ≠ _; rw [add_block]; exact hne220_5) | exact hne220_5)
              have HS6_ := keep_cell hk (hHeld.2.2.2.2.2.2.1) (by first | (rw [add_block]; exact hne221_0) | (show (Addr.add _ _).block ≠ _; rw [add_block]; exact hne221_0) | exact hne221_0)
              have HS7_ := keep_cell hk (hHeld.2.2.2.2.2.2.2.1) (by first | (rw [add_block]; exact hne221_1) | (show (Addr.add _ _).block ≠ _; rw [add_block]; exact hne221_1) | exact hne221_1)
              have HS8_ := keep_cell hk (hHeld.2.2.2.2.2.2.2.2.1) (by first | (rw [add_block]; exact hne221_2) | (show (Addr.add _ _).block ≠ _; rw [add_block]; exact hne221_2) | exact hne221_2)
              have HS9_ := keep_cell hk (hHeld.2.2.2.2.2.2.2.2.2.1) (by first | (rw [add_block]; exact hne221_3) | (show (Addr.add _ _).block ≠ _; rw [add_block]; exact hne221_3) | exact hne221_3)
              have HS10_ := keep_cell hk (hHeld.2.2.2.2.2.2.2.2.2.2.1) (by first | (rw [add_block]; exact hne221_4) | (show (Addr.add _ _).block ≠ _; rw [add_block]; exact hne221_4) | exact hne221_4)
              have HS11_ := keep_cell hk (hHeld.2.2.2.2.2.2.2.2.2.2.2) (by first | (rw [add_block]; exact hne221_5) | (show (Addr.add _ _).block ≠ _; rw [add_block]; exact hne221_5) | exact hne221_5)
              refine ⟨_, rfl, ?_⟩
              have n0_ := am (KeepBut.trans (ke HK) hk (.inl rfl))
              have n1_ := am (hb)
              have n2_ := am (hi)
              clear HK
              clear HB
              clear HI0
              have HK := n0_
              have HB := n1_
              have HI0 := n2_
              clear n0_ n1_ n2_
              (try clear hb)
              (try clear hb2)
              (try clear hk)
              (try clear hi)
              refine hK.out _ _ ⟨HS0_, HS1_, HS2_, HS3_, HS4_, HS5_, HS6_, HS7_, HS8_, HS9_, HS10_, HS11_⟩ (fun hHeld => ?_)
              clear hK K
              refine norm_ (a' := ?_) ?_ ?_
              rotate_left
              ·show Act.put _ (some 34) _ = _
               simp only [Act.put, List.setIfInBounds_toArray, List.set_cons_zero, List.set_cons_succ, i64_w, i32_w]
               rfl
              refine done_ (done_of HT_.out (by kernel_rfl)) ?_
              try go_wp2
              go_roundg k2
              case measure => have := HK1.out; have := HK2.out; omega
              case rel => exact ⟨(wrap64 (x6_2 + 1)), (t223), (t224), (t225), vv, H', ⟨by have := HK1.out; have := HK2.out; omega⟩, ⟨si28 HI0⟩, ⟨ke HK⟩, ⟨be HB⟩⟩
            ·rw [if_neg c12] at H
             exact absurd H (by simp)
           ·rw [if_neg c11] at H
            exact absurd H (by simp)
          ·rw [if_neg c10] at H
           exact absurd H (by simp)
         ·rw [if_neg c9] at H
          exact absurd H (by simp)
        ·rw [if_neg c8] at H
         have c8b0 : decide (x6_2 < x5_1) = false := decide_eq_false c8
         clear c8
         have H' := am H
         clear H
         go_wp2
         go_roundg k2
         case measure => have := HK1.out; have := HK2.out; omega
         case rel => exact ⟨(wrap64 (x5_1 + 1)), (x1000_2), (x1001_2), (x1002_2), vv, H', ⟨by have := HK1.out; have := HK2.out; omega⟩, ⟨si28 HI0⟩, ⟨ke HK⟩, ⟨be HB⟩⟩
     ·replace c6 := Bool.eq_false_iff.mpr c6
      subst c6
      have H1 : (some (false, t217, t218, t219)) = some (r1, r2, r3, r4) := by rw [if_neg (show ¬ (false = true) by decide)] at H; exact H
      clear H
      have H := H1
      clear H1
      simp only [Option.some.injEq, Prod.mk.injEq] at H
      obtain ⟨rfl, rfl, rfl, rfl⟩ := H
      have p215 : 0 ≤ (x5_1 : Int) := of_decide_eq_true (by first | (with_reducible assumption) | assumption)
      have q215 : x5_1 < (l1.length : Int) := of_decide_eq_true (by first | (with_reducible assumption) | assumption)
      obtain ⟨ad215, e215, hx215_0, hx215_1, hx215_2, hx215_3, hx215_4, hx215_5⟩ := at_T38 (Kd.C_foot_now HR1.out HK.out) x5_1 p215 q215
      cases e215
      replace p215 := eq_true p215
      replace q215 := eq_true q215
      go_wp2_with (first | ((with_reducible refine gate_callee (f := 120) rfl ?_); refine gL (some 18) Try.func120 #[.pointer (some ⟨g, 0, none⟩), .agg #[.int .i8 ((rd_T38 l1 x5_1).f0.f0), .int .i8 ((rd_T38 l1 x5_1).f0.f1), .int .i8 ((rd_T38 l1 x5_1).f1), .int .i8 ((rd_T38 l1 x5_1).f2), .int .i8 ((rd_T38 l1 x5_1).f3), .int .i8 ((rd_T38 l1 x5_1).f4)]] ?_; (with_reducible refine (spec_l01Safe.calls k1 g x1000_1 x1001_1 x1002_1 ((rd_T38 l1 x5_1).f0.f0) ((rd_T38 l1 x5_1).f0.f1) ((rd_T38 l1 x5_1).f1) ((rd_T38 l1 x5_1).f2) ((rd_T38 l1 x5_1).f3) ((rd_T38 l1 x5_1).f4) false t217 t218 t219 w0 _ ?side1 ?side2 A5.out).mono ?_); (case side1 => exact si28 HI0); (case side2 => exact be HB); rintro e w19 ⟨rfl, hi, hb, hk⟩; refine ⟨_, rfl, ?_⟩; replace HK := am (KeepBut.trans (ke HK) hk (.inl rfl)); replace HB := am (hb); replace HI0 := am (hi); (try clear hb); (try clear hb2); (try clear hk); (try clear hi)))
      go_ret
      exact ⟨by first | rfl | (simp [errW_none, errW_some] <;> rfl) | (simp [*, errW_none, errW_some] <;> rfl), si28 HI0, be HB, ke HK⟩
    ·rw [if_neg c4] at H
     exact absurd H (by simp)
   ·rw [if_neg c3] at H
    have c3b0 : decide (x5_1 < (l1.length : Int)) = false := decide_eq_false c3
    clear c3
    simp only [Option.some.injEq, Prod.mk.injEq] at H
    obtain ⟨rfl, rfl, rfl, rfl⟩ := H
    go_wp2
    go_ret
    exact ⟨by first | rfl | (simp [errW_none, errW_some] <;> rfl) | (simp [*, errW_none, errW_some] <;> rfl), si28 HI0, be HB, ke HK⟩

end Go.Proofs.Ytcollbifdfhfoaa.PFnExactPlacesFor
