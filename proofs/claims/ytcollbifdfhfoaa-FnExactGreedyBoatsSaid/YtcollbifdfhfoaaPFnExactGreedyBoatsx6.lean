-- Written by a program out of this seat's translation (functions, and that the code comes to them).
import Derived.Test.YtcollbifdfhfoaaPFnExactGreedyBoatsx0
import Derived.Test.YtcollbifdfhfoaaPFnExactGreedyBoatsx3
import Derived.Test.YtcollbifdfhfoaaPFnExactGreedyBoatsx4
import Derived.Test.YtcollbifdfhfoaaPFnExactGreedyBoatsx5
namespace Go.Proofs.Ytcollbifdfhfoaa.PFnExactGreedyBoats
open Go.RowKit Go.Proofs.YtcollbifdfhfoaaW.PrintWords Go.Proofs.YtcollbifdfhfoaaW.PrintLast Go.Proofs.YtcollbifdfhfoaaW.PrintMore
attribute [local go_sem] max2_int min2_int max_two min_two max_three min_three max_four min_four   -- for this text's walks alone
open Go.Proofs.Ytcollbifdfhfoaa.Bay Go.Proofs.Ytcollbifdfhfoaa.Short
attribute [local go_sem ↓] lv26_eq lv28_eq
attribute [local go_sem] lvv_set lvv_drewN lvv_drew lv26_run BayAt26_set BayAt26_drewN BayAt26_drew lv28_run BayAt28_set BayAt28_drewN BayAt28_drew
set_option linter.unusedVariables false
set_option linter.unusedSimpArgs false

/-! ### spec_l01Safe: function 120 -/
def spec_l01Safe.f (k : Nat) (s0_0 : Int) (s0_1 : Int) (s0_2 : (Nat → Int)) (a1_0 : Int) (a1_1 : Int) (a1_2 : Int) (a1_3 : Int) (a1_4 : Int) (a1_5 : Int) : Option (Bool × Int × Int × (Nat → Int)) := (spec_l01Reach.f k s0_0 s0_1 s0_2 a1_0 a1_1 a1_2 a1_3 a1_4 a1_5).bind fun bt214 => (if bt214.1 < 0 then (some (false, bt214.2.1, bt214.2.2.1, bt214.2.2.2)) else (if (wrap64 (a1_0)) < (wrap64 (bt214.1 + (wrap64 (a1_3)))) then (some (false, bt214.2.1, bt214.2.2.1, bt214.2.2.2)) else (if (wrap64 (a1_1)) < (wrap64 (bt214.1 + (wrap64 (a1_3)))) then (some (false, bt214.2.1, bt214.2.2.1, bt214.2.2.2)) else (if (wrap64 ((wrap64 (a1_0)) + (wrap64 (bt214.1 + (wrap64 (a1_3)))))) ≥ (wrap64 (bt214.2.1)) then (some (false, bt214.2.1, bt214.2.2.1, bt214.2.2.2)) else (if (wrap64 ((wrap64 (a1_1)) + (wrap64 (bt214.1 + (wrap64 (a1_3)))))) ≥ (wrap64 (bt214.2.2.1)) then (some (false, bt214.2.1, bt214.2.2.1, bt214.2.2.2)) else ((spec_l01Over.f k bt214.2.1 bt214.2.2.1 bt214.2.2.2 a1_0 a1_1 (wrap64 (bt214.1 + (wrap64 (a1_3)))) (wrap64 (a1_4))).bind fun bt218 => (some (((bt218.1.length : Int) == 0), bt218.2.1, bt218.2.2.1, bt218.2.2.2))))))))
set_option maxHeartbeats 8000000 in
set_option maxRecDepth 100000 in
theorem spec_l01Safe.calls (k : Nat) (g : Nat) (s0_0 : Int) (s0_1 : Int) (s0_2 : (Nat → Int)) (a1_0 : Int) (a1_1 : Int) (a1_2 : Int) (a1_3 : Int) (a1_4 : Int) (a1_5 : Int) (r1 : Bool) (r2 : Int) (r3 : Int) (r4 : (Nat → Int)) (w0 w : World) (hI : IsS28 w0 w g s0_0 s0_1 s0_2) (hB : Below w0.heap.size w0 w) (h : spec_l01Safe.f k s0_0 s0_1 s0_2 a1_0 a1_1 a1_2 a1_3 a1_4 a1_5 = some (r1, r2, r3, r4)) :
  Calls Try.prog 120 #[.pointer (some ⟨g, 0, none⟩), .agg #[.int .i8 a1_0, .int .i8 a1_1, .int .i8 a1_2, .int .i8 a1_3, .int .i8 a1_4, .int .i8 a1_5]] w fun e w' => e = .returned (.bool r1) ∧ IsS28 w0 w' g r2 r3 r4 ∧ Below w0.heap.size w0 w' ∧ KeepBut w w' g none := by
 have hu38 := Try.underlying38
 have hu36 := Try.underlying36
 have HI0 := am hI
 have HK := am (KeepBut.refl w g none)
 have HL := am hB.size
 clear hI
 have HW0 := am hB.size
 have HB := am hB
 clear hB
 have H : ((spec_l01Reach.f k s0_0 s0_1 s0_2 a1_0 a1_1 a1_2 a1_3 a1_4 a1_5).bind fun bt214 => (if bt214.1 < 0 then (some (false, bt214.2.1, bt214.2.2.1, bt214.2.2.2)) else (if (wrap64 (a1_0)) < (wrap64 (bt214.1 + (wrap64 (a1_3)))) then (some (false, bt214.2.1, bt214.2.2.1, bt214.2.2.2)) else (if (wrap64 (a1_1)) < (wrap64 (bt214.1 + (wrap64 (a1_3)))) then (some (false, bt214.2.1, bt214.2.2.1, bt214.2.2.2)) else (if (wrap64 ((wrap64 (a1_0)) + (wrap64 (bt214.1 + (wrap64 (a1_3)))))) ≥ (wrap64 (bt214.2.1)) then (some (false, bt214.2.1, bt214.2.2.1, bt214.2.2.2)) else (if (wrap64 ((wrap64 (a1_1)) + (wrap64 (bt214.1 + (wrap64 (a1_3)))))) ≥ (wrap64 (bt214.2.2.1)) then (some (false, bt214.2.1, bt214.2.2.1, bt214.2.2.2)) else ((spec_l01Over.f k bt214.2.1 bt214.2.2.1 bt214.2.2.2 a1_0 a1_1 (wrap64 (bt214.1 + (wrap64 (a1_3)))) (wrap64 (a1_4))).bind fun bt218 => (some (((bt218.1.length : Int) == 0), bt218.2.1, bt218.2.2.1, bt218.2.2.2))))))))) = some (r1, r2, r3, r4) := h
 clear h
 replace H := Option.bind_eq_some_iff.mp H
 obtain ⟨⟨t214, t215, t216, t217⟩, A30, H⟩ := H
 try dsimp only at H
 have A3 := am A30
 clear A30
 by_cases c4 : t214 < 0
 ·rw [if_pos c4] at H
  have c4b0 : decide (t214 < 0) = true := decide_eq_true c4
  clear c4
  simp only [Option.some.injEq, Prod.mk.injEq] at H
  obtain ⟨rfl, rfl, rfl, rfl⟩ := H
  go_enter Try.func120, Try.ntmps120
  go_wp2_with (first | ((with_reducible refine gate_dst (N := 3) rfl ?_); refine bxe (N := 3) (cs := #[.int .i8 a1_0, .int .i8 a1_1, .int .i8 a1_2, .int .i8 a1_3, .int .i8 a1_4, .int .i8 a1_5]) (t := 38) ?_; intro gb213 hg w5 hbox hb; have BK213 := am (hbox); have GW213 := am (gN hg (keep_size (w := w) (g := g) (row := none) (ke HK))); have GE213 := am (Nat.le_trans HW0.out (gN hg (keep_size (w := w) (g := g) (row := none) (ke HK)))); have NB0_213 := am (nLi hg (IsS28.lt (show IsS28 w0 _ g s0_0 s0_1 s0_2 from si28 HI0))); have NB213_0 := am (nRi hg (IsS28.lt (show IsS28 w0 _ g s0_0 s0_1 s0_2 from si28 HI0))); replace HI0 := am (IsS28.below (si28 HI0) hb); replace HK := am (KeepBut.trans (ke HK) (KeepBut.of_below hb g none) (.inl rfl)); replace HB := am (below_step (be HB) hb); clear hb hbox hg; have hnb6 := NB213_0.out; have hnc6 := NB0_213.out; obtain ⟨hcz7_0, hcz7_1, hcz7_2, hcz7_3, hcz7_4, hcz7_5, hfz7_0, hfz7_1, hfz7_2, hfz7_3, hfz7_4, hfz7_5⟩ := bx6 BK213) | ((with_reducible refine gate_callee (f := 168) rfl ?_); refine gL (some 11) Try.func168 #[.pointer (some ⟨g, 0, none⟩), .agg #[.int .i8 a1_0, .int .i8 a1_1, .int .i8 a1_2, .int .i8 a1_3, .int .i8 a1_4, .int .i8 a1_5]] ?_; (with_reducible refine (spec_l01Reach.calls k g s0_0 s0_1 s0_2 a1_0 a1_1 a1_2 a1_3 a1_4 a1_5 t214 t215 t216 t217 w0 _ ?side1 ?side2 A3.out).mono ?_); (case side1 => exact si28 HI0); (case side2 => exact be HB); rintro e w8 ⟨rfl, hi, hb, hk⟩; refine ⟨_, rfl, ?_⟩; replace BK213 := am (KeepBut.blk hk (g' := gb213) (o := .cells #[.int .i8 a1_0, .int .i8 a1_1, .int .i8 a1_2, .int .i8 a1_3, .int .i8 a1_4, .int .i8 a1_5] 38 (0, 0)) (kb BK213) NB213_0.out (by simp)); replace HK := am (KeepBut.trans (ke HK) hk (.inl rfl)); replace HB := am (hb); replace HI0 := am (hi); (try clear hb); (try clear hb2); (try clear hk); (try clear hi)))
  go_ret
  exact ⟨by first | rfl | (simp [errW_none, errW_some] <;> rfl) | (simp [*, errW_none, errW_some] <;> rfl), si28 HI0, be HB, ke HK⟩
 ·rw [if_neg c4] at H
  have c4b0 : decide (t214 < 0) = false := decide_eq_false c4
  clear c4
  by_cases c9 : (wrap64 (a1_0)) < (wrap64 (t214 + (wrap64 (a1_3))))
  ·rw [if_pos c9] at H
   have c9b0 : decide ((wrap64 (a1_0)) < (wrap64 (t214 + (wrap64 (a1_3))))) = true := decide_eq_true c9
   clear c9
   simp only [Option.some.injEq, Prod.mk.injEq] at H
   obtain ⟨rfl, rfl, rfl, rfl⟩ := H
   go_enter Try.func120, Try.ntmps120
   go_wp2_with (first | ((with_reducible refine gate_dst (N := 3) rfl ?_); refine bxe (N := 3) (cs := #[.int .i8 a1_0, .int .i8 a1_1, .int .i8 a1_2, .int .i8 a1_3, .int .i8 a1_4, .int .i8 a1_5]) (t := 38) ?_; intro gb213 hg w10 hbox hb; have BK213 := am (hbox); have GW213 := am (gN hg (keep_size (w := w) (g := g) (row := none) (ke HK))); have GE213 := am (Nat.le_trans HW0.out (gN hg (keep_size (w := w) (g := g) (row := none) (ke HK)))); have NB0_213 := am (nLi hg (IsS28.lt (show IsS28 w0 _ g s0_0 s0_1 s0_2 from si28 HI0))); have NB213_0 := am (nRi hg (IsS28.lt (show IsS28 w0 _ g s0_0 s0_1 s0_2 from si28 HI0))); replace HI0 := am (IsS28.below (si28 HI0) hb); replace HK := am (KeepBut.trans (ke HK) (KeepBut.of_below hb g none) (.inl rfl)); replace HB := am (below_step (be HB) hb); clear hb hbox hg; have hnb11 := NB213_0.out; have hnc11 := NB0_213.out; obtain ⟨hcz12_0, hcz12_1, hcz12_2, hcz12_3, hcz12_4, hcz12_5, hfz12_0, hfz12_1, hfz12_2, hfz12_3, hfz12_4, hfz12_5⟩ := bx6 BK213) | ((with_reducible refine gate_callee (f := 168) rfl ?_); refine gL (some 11) Try.func168 #[.pointer (some ⟨g, 0, none⟩), .agg #[.int .i8 a1_0, .int .i8 a1_1, .int .i8 a1_2, .int .i8 a1_3, .int .i8 a1_4, .int .i8 a1_5]] ?_; (with_reducible refine (spec_l01Reach.calls k g s0_0 s0_1 s0_2 a1_0 a1_1 a1_2 a1_3 a1_4 a1_5 t214 t215 t216 t217 w0 _ ?side1 ?side2 A3.out).mono ?_); (case side1 => exact si28 HI0); (case side2 => exact be HB); rintro e w13 ⟨rfl, hi, hb, hk⟩; refine ⟨_, rfl, ?_⟩; replace BK213 := am (KeepBut.blk hk (g' := gb213) (o := .cells #[.int .i8 a1_0, .int .i8 a1_1, .int .i8 a1_2, .int .i8 a1_3, .int .i8 a1_4, .int .i8 a1_5] 38 (0, 0)) (kb BK213) NB213_0.out (by simp)); replace HK := am (KeepBut.trans (ke HK) hk (.inl rfl)); replace HB := am (hb); replace HI0 := am (hi); (try clear hb); (try clear hb2); (try clear hk); (try clear hi); obtain ⟨hcz14_0, hcz14_1, hcz14_2, hcz14_3, hcz14_4, hcz14_5, hfz14_0, hfz14_1, hfz14_2, hfz14_3, hfz14_4, hfz14_5⟩ := bx6 BK213))
   go_ret
   exact ⟨by first | rfl | (simp [errW_none, errW_some] <;> rfl) | (simp [*, errW_none, errW_some] <;> rfl), si28 HI0, be HB, ke HK⟩
  ·rw [if_neg c9] at H
   have c9b0 : decide ((wrap64 (a1_0)) < (wrap64 (t214 + (wrap64 (a1_3))))) = false := decide_eq_false c9
   clear c9
   by_cases c15 : (wrap64 (a1_1)) < (wrap64 (t214 + (wrap64 (a1_3))))
   ·rw [if_pos c15] at H
    have c15b0 : decide ((wrap64 (a1_1)) < (wrap64 (t214 + (wrap64 (a1_3))))) = true := decide_eq_true c15
    clear c15
    simp only [Option.some.injEq, Prod.mk.injEq] at H
    obtain ⟨rfl, rfl, rfl, rfl⟩ := H
    go_enter Try.func120, Try.ntmps120
    go_wp2_with (first | ((with_reducible refine gate_dst (N := 3) rfl ?_); refine bxe (N := 3) (cs := #[.int .i8 a1_0, .int .i8 a1_1, .int .i8 a1_2, .int .i8 a1_3, .int .i8 a1_4, .int .i8 a1_5]) (t := 38) ?_; intro gb213 hg w16 hbox hb; have BK213 := am (hbox); have GW213 := am (gN hg (keep_size (w := w) (g := g) (row := none) (ke HK))); have GE213 := am (Nat.le_trans HW0.out (gN hg (keep_size (w := w) (g := g) (row := none) (ke HK)))); have NB0_213 := am (nLi hg (IsS28.lt (show IsS28 w0 _ g s0_0 s0_1 s0_2 from si28 HI0))); have NB213_0 := am (nRi hg (IsS28.lt (show IsS28 w0 _ g s0_0 s0_1 s0_2 from si28 HI0))); replace HI0 := am (IsS28.below (si28 HI0) hb); replace HK := am (KeepBut.trans (ke HK) (KeepBut.of_below hb g none) (.inl rfl)); replace HB := am (below_step (be HB) hb); clear hb hbox hg; have hnb17 := NB213_0.out; have hnc17 := NB0_213.out; obtain ⟨hcz18_0, hcz18_1, hcz18_2, hcz18_3, hcz18_4, hcz18_5, hfz18_0, hfz18_1, hfz18_2, hfz18_3, hfz18_4, hfz18_5⟩ := bx6 BK213) | ((with_reducible refine gate_callee (f := 168) rfl ?_); refine gL (some 11) Try.func168 #[.pointer (some ⟨g, 0, none⟩), .agg #[.int .i8 a1_0, .int .i8 a1_1, .int .i8 a1_2, .int .i8 a1_3, .int .i8 a1_4, .int .i8 a1_5]] ?_; (with_reducible refine (spec_l01Reach.calls k g s0_0 s0_1 s0_2 a1_0 a1_1 a1_2 a1_3 a1_4 a1_5 t214 t215 t216 t217 w0 _ ?side1 ?side2 A3.out).mono ?_); (case side1 => exact si28 HI0); (case side2 => exact be HB); rintro e w19 ⟨rfl, hi, hb, hk⟩; refine ⟨_, rfl, ?_⟩; replace BK213 := am (KeepBut.blk hk (g' := gb213) (o := .cells #[.int .i8 a1_0, .int .i8 a1_1, .int .i8 a1_2, .int .i8 a1_3, .int .i8 a1_4, .int .i8 a1_5] 38 (0, 0)) (kb BK213) NB213_0.out (by simp)); replace HK := am (KeepBut.trans (ke HK) hk (.inl rfl)); replace HB := am (hb); replace HI0 := am (hi); (try clear hb); (try clear hb2); (try clear hk); (try clear hi); obtain ⟨hcz20_0, hcz20_1, hcz20_2, hcz20_3, hcz20_4, hcz20_5, hfz20_0, hfz20_1, hfz20_2, hfz20_3, hfz20_4, hfz20_5⟩ := bx6 BK213))
    go_ret
    exact ⟨by first | rfl | (simp [errW_none, errW_some] <;> rfl) | (simp [*, errW_none, errW_some] <;> rfl), si28 HI0, be HB, ke HK⟩
   ·rw [if_neg c15] at H
    have c15b0 : decide ((wrap64 (a1_1)) < (wrap64 (t214 + (wrap64 (a1_3))))) = false := decide_eq_false c15
    clear c15
    by_cases c21 : (wrap64 ((wrap64 (a1_0)) + (wrap64 (t214 + (wrap64 (a1_3)))))) ≥ (wrap64 (t215))
    ·rw [if_pos c21] at H
     have c21b0 : decide ((wrap64 (t215)) ≤ (wrap64 ((wrap64 (a1_0)) + (wrap64 (t214 + (wrap64 (a1_3))))))) = true := decide_eq_true c21
     clear c21
     simp only [Option.some.injEq, Prod.mk.injEq] at H
     obtain ⟨rfl, rfl, rfl, rfl⟩ := H
     go_enter Try.func120, Try.ntmps120
     go_wp2_with (first | ((with_reducible refine gate_dst (N := 3) rfl ?_); refine bxe (N := 3) (cs := #[.int .i8 a1_0, .int .i8 a1_1, .int .i8 a1_2, .int .i8 a1_3, .int .i8 a1_4, .int .i8 a1_5]) (t := 38) ?_; intro gb213 hg w22 hbox hb; have BK213 := am (hbox); have GW213 := am (gN hg (keep_size (w := w) (g := g) (row := none) (ke HK))); have GE213 := am (Nat.le_trans HW0.out (gN hg (keep_size (w := w) (g := g) (row := none) (ke HK)))); have NB0_213 := am (nLi hg (IsS28.lt (show IsS28 w0 _ g s0_0 s0_1 s0_2 from si28 HI0))); have NB213_0 := am (nRi hg (IsS28.lt (show IsS28 w0 _ g s0_0 s0_1 s0_2 from si28 HI0))); replace HI0 := am (IsS28.below (si28 HI0) hb); replace HK := am (KeepBut.trans (ke HK) (KeepBut.of_below hb g none) (.inl rfl)); replace HB := am (below_step (be HB) hb); clear hb hbox hg; have hnb23 := NB213_0.out; have hnc23 := NB0_213.out; obtain ⟨hcz24_0, hcz24_1, hcz24_2, hcz24_3, hcz24_4, hcz24_5, hfz24_0, hfz24_1, hfz24_2, hfz24_3, hfz24_4, hfz24_5⟩ := bx6 BK213) | ((with_reducible refine gate_callee (f := 168) rfl ?_); refine gL (some 11) Try.func168 #[.pointer (some ⟨g, 0, none⟩), .agg #[.int .i8 a1_0, .int .i8 a1_1, .int .i8 a1_2, .int .i8 a1_3, .int .i8 a1_4, .int .i8 a1_5]] ?_; (with_reducible refine (spec_l01Reach.calls k g s0_0 s0_1 s0_2 a1_0 a1_1 a1_2 a1_3 a1_4 a1_5 t214 t215 t216 t217 w0 _ ?side1 ?side2 A3.out).mono ?_); (case side1 => exact si28 HI0); (case side2 => exact be HB); rintro e w25 ⟨rfl, hi, hb, hk⟩; refine ⟨_, rfl, ?_⟩; replace BK213 := am (KeepBut.blk hk (g' := gb213) (o := .cells #[.int .i8 a1_0, .int .i8 a1_1, .int .i8 a1_2, .int .i8 a1_3, .int .i8 a1_4, .int .i8 a1_5] 38 (0, 0)) (kb BK213) NB213_0.out (by simp)); replace HK := am (KeepBut.trans (ke HK) hk (.inl rfl)); replace HB := am (hb); replace HI0 := am (hi); (try clear hb); (try clear hb2); (try clear hk); (try clear hi); obtain ⟨hcz26_0, hcz26_1, hcz26_2, hcz26_3, hcz26_4, hcz26_5, hfz26_0, hfz26_1, hfz26_2, hfz26_3, hfz26_4, hfz26_5⟩ := bx6 BK213; obtain ⟨HGz27, hgz27⟩ := HI0.out; have hcz27_0 := cellS28_0 HGz27; have hcz27_1 := cellS28_1 HGz27; have hwz27 := lv28_at HGz27; have haz27 := at_cells HGz27; have hyz27 := BayAt28_of HGz27; have hvz27 := lvv_of HGz27; have hfz27_0 := blk_frozen HGz27 0; have hfz27_1 := blk_frozen HGz27 1; have hfz27_2 := blk_frozen HGz27 2; clear HGz27 hgz27))
     go_ret
     exact ⟨by first | rfl | (simp [errW_none, errW_some] <;> rfl) | (simp [*, errW_none, errW_some] <;> rfl), si28 HI0, be HB, ke HK⟩
    ·rw [if_neg c21] at H
     have c21b0 : decide ((wrap64 (t215)) ≤ (wrap64 ((wrap64 (a1_0)) + (wrap64 (t214 + (wrap64 (a1_3))))))) = false := decide_eq_false c21
     clear c21
     by_cases c28 : (wrap64 ((wrap64 (a1_1)) + (wrap64 (t214 + (wrap64 (a1_3)))))) ≥ (wrap64 (t216))
     ·rw [if_pos c28] at H
      have c28b0 : decide ((wrap64 (t216)) ≤ (wrap64 ((wrap64 (a1_1)) + (wrap64 (t214 + (wrap64 (a1_3))))))) = true := decide_eq_true c28
      clear c28
      simp only [Option.some.injEq, Prod.mk.injEq] at H
      obtain ⟨rfl, rfl, rfl, rfl⟩ := H
      go_enter Try.func120, Try.ntmps120
      go_wp2_with (first | ((with_reducible refine gate_dst (N := 3) rfl ?_); refine bxe (N := 3) (cs := #[.int .i8 a1_0, .int .i8 a1_1, .int .i8 a1_2, .int .i8 a1_3, .int .i8 a1_4, .int .i8 a1_5]) (t := 38) ?_; intro gb213 hg w29 hbox hb; have BK213 := am (hbox); have GW213 := am (gN hg (keep_size (w := w) (g := g) (row := none) (ke HK))); have GE213 := am (Nat.le_trans HW0.out (gN hg (keep_size (w := w) (g := g) (row := none) (ke HK)))); have NB0_213 := am (nLi hg (IsS28.lt (show IsS28 w0 _ g s0_0 s0_1 s0_2 from si28 HI0))); have NB213_0 := am (nRi hg (IsS28.lt (show IsS28 w0 _ g s0_0 s0_1 s0_2 from si28 HI0))); replace HI0 := am (IsS28.below (si28 HI0) hb); replace HK := am (KeepBut.trans (ke HK) (KeepBut.of_below hb g none) (.inl rfl)); replace HB := am (below_step (be HB) hb); clear hb hbox hg; have hnb30 := NB213_0.out; have hnc30 := NB0_213.out; obtain ⟨hcz31_0, hcz31_1, hcz31_2, hcz31_3, hcz31_4, hcz31_5, hfz31_0, hfz31_1, hfz31_2, hfz31_3, hfz31_4, hfz31_5⟩ := bx6 BK213) | ((with_reducible refine gate_callee (f := 168) rfl ?_); refine gL (some 11) Try.func168 #[.pointer (some ⟨g, 0, none⟩), .agg #[.int .i8 a1_0, .int .i8 a1_1, .int .i8 a1_2, .int .i8 a1_3, .int .i8 a1_4, .int .i8 a1_5]] ?_; (with_reducible refine (spec_l01Reach.calls k g s0_0 s0_1 s0_2 a1_0 a1_1 a1_2 a1_3 a1_4 a1_5 t214 t215 t216 t217 w0 _ ?side1 ?side2 A3.out).mono ?_); (case side1 => exact si28 HI0); (case side2 => exact be HB); rintro e w32 ⟨rfl, hi, hb, hk⟩; refine ⟨_, rfl, ?_⟩; replace BK213 := am (KeepBut.blk hk (g' := gb213) (o := .cells #[.int .i8 a1_0, .int .i8 a1_1, .int .i8 a1_2, .int .i8 a1_3, .int .i8 a1_4, .int .i8 a1_5] 38 (0, 0)) (kb BK213) NB213_0.out (by simp)); replace HK := am (KeepBut.trans (ke HK) hk (.inl rfl)); replace HB := am (hb); replace HI0 := am (hi); (try clear hb); (try clear hb2); (try clear hk); (try clear hi); obtain ⟨hcz33_0, hcz33_1, hcz33_2, hcz33_3, hcz33_4, hcz33_5, hfz33_0, hfz33_1, hfz33_2, hfz33_3, hfz33_4, hfz33_5⟩ := bx6 BK213; obtain ⟨HGz34, hgz34⟩ := HI0.out; have hcz34_0 := cellS28_0 HGz34; have hcz34_1 := cellS28_1 HGz34; have hwz34 := lv28_at HGz34; have haz34 := at_cells HGz34; have hyz34 := BayAt28_of HGz34; have hvz34 := lvv_of HGz34; have hfz34_0 := blk_frozen HGz34 0; have hfz34_1 := blk_frozen HGz34 1; have hfz34_2 := blk_frozen HGz34 2; clear HGz34 hgz34))
      go_ret
      exact ⟨by first | rfl | (simp [errW_none, errW_some] <;> rfl) | (simp [*, errW_none, errW_some] <;> rfl), si28 HI0, be HB, ke HK⟩
     ·rw [if_neg c28] at H
      have c28b0 : decide ((wrap64 (t216)) ≤ (wrap64 ((wrap64 (a1_1)) + (wrap64 (t214 + (wrap64 (a1_3))))))) = false := decide_eq_false c28
      clear c28
      replace H := Option.bind_eq_some_iff.mp H
      obtain ⟨⟨t218, t221, t222, t223⟩, A350, H⟩ := H
      try dsimp only at H
      have A35 := am A350
      clear A350
      simp only [Option.some.injEq, Prod.mk.injEq] at H
      obtain ⟨rfl, rfl, rfl, rfl⟩ := H
      go_enter Try.func120, Try.ntmps120
      go_wp2_with (first | ((with_reducible refine gate_dst (N := 3) rfl ?_); refine bxe (N := 3) (cs := #[.int .i8 a1_0, .int .i8 a1_1, .int .i8 a1_2, .int .i8 a1_3, .int .i8 a1_4, .int .i8 a1_5]) (t := 38) ?_; intro gb213 hg w36 hbox hb; have BK213 := am (hbox); have GW213 := am (gN hg (keep_size (w := w) (g := g) (row := none) (ke HK))); have GE213 := am (Nat.le_trans HW0.out (gN hg (keep_size (w := w) (g := g) (row := none) (ke HK)))); have NB0_213 := am (nLi hg (IsS28.lt (show IsS28 w0 _ g s0_0 s0_1 s0_2 from si28 HI0))); have NB213_0 := am (nRi hg (IsS28.lt (show IsS28 w0 _ g s0_0 s0_1 s0_2 from si28 HI0))); replace HI0 := am (IsS28.below (si28 HI0) hb); replace HK := am (KeepBut.trans (ke HK) (KeepBut.of_below hb g none) (.inl rfl)); replace HB := am (below_step (be HB) hb); clear hb hbox hg; have hnb37 := NB213_0.out; have hnc37 := NB0_213.out; obtain ⟨hcz38_0, hcz38_1, hcz38_2, hcz38_3, hcz38_4, hcz38_5, hfz38_0, hfz38_1, hfz38_2, hfz38_3, hfz38_4, hfz38_5⟩ := bx6 BK213) | ((with_reducible refine gate_callee (f := 168) rfl ?_); refine gL (some 11) Try.func168 #[.pointer (some ⟨g, 0, none⟩), .agg #[.int .i8 a1_0, .int .i8 a1_1, .int .i8 a1_2, .int .i8 a1_3, .int .i8 a1_4, .int .i8 a1_5]] ?_; (with_reducible refine (spec_l01Reach.calls k g s0_0 s0_1 s0_2 a1_0 a1_1 a1_2 a1_3 a1_4 a1_5 t214 t215 t216 t217 w0 _ ?side1 ?side2 A3.out).mono ?_); (case side1 => exact si28 HI0); (case side2 => exact be HB); rintro e w39 ⟨rfl, hi, hb, hk⟩; refine ⟨_, rfl, ?_⟩; replace BK213 := am (KeepBut.blk hk (g' := gb213) (o := .cells #[.int .i8 a1_0, .int .i8 a1_1, .int .i8 a1_2, .int .i8 a1_3, .int .i8 a1_4, .int .i8 a1_5] 38 (0, 0)) (kb BK213) NB213_0.out (by simp)); replace HK := am (KeepBut.trans (ke HK) hk (.inl rfl)); replace HB := am (hb); replace HI0 := am (hi); (try clear hb); (try clear hb2); (try clear hk); (try clear hi); obtain ⟨hcz40_0, hcz40_1, hcz40_2, hcz40_3, hcz40_4, hcz40_5, hfz40_0, hfz40_1, hfz40_2, hfz40_3, hfz40_4, hfz40_5⟩ := bx6 BK213; obtain ⟨HGz41, hgz41⟩ := HI0.out; have hcz41_0 := cellS28_0 HGz41; have hcz41_1 := cellS28_1 HGz41; have hwz41 := lv28_at HGz41; have haz41 := at_cells HGz41; have hyz41 := BayAt28_of HGz41; have hvz41 := lvv_of HGz41; have hfz41_0 := blk_frozen HGz41 0; have hfz41_1 := blk_frozen HGz41 1; have hfz41_2 := blk_frozen HGz41 2; clear HGz41 hgz41) | ((with_reducible refine gate_callee (f := 122) rfl ?_); refine gL (some 64) Try.func122 #[.pointer (some ⟨g, 0, none⟩), .agg #[.int .i8 a1_0, .int .i8 a1_1], .int .i64 (wrap64 (t214 + (wrap64 (a1_3)))), .int .i64 (wrap64 (a1_4))] ?_; (with_reducible refine (spec_l01Over.calls k g t215 t216 t217 a1_0 a1_1 (wrap64 (t214 + (wrap64 (a1_3)))) (wrap64 (a1_4)) t218 t221 t222 t223 w0 _ ?side1 ?side2 A35.out).mono ?_); (case side1 => exact si28 HI0); (case side2 => exact be HB); rintro e w42 ⟨v219, rfl, ho0, hi, hb, hk⟩; refine ⟨_, rfl, ?_⟩; have HO220 := am (Kd.R_lower ho0 (keep_size (w := w) (g := g) (row := none) (ke HK))); replace BK213 := am (KeepBut.blk hk (g' := gb213) (o := .cells #[.int .i8 a1_0, .int .i8 a1_1, .int .i8 a1_2, .int .i8 a1_3, .int .i8 a1_4, .int .i8 a1_5] 38 (0, 0)) (kb BK213) NB213_0.out (by simp)); replace HK := am (KeepBut.trans (ke HK) hk (.inl rfl)); replace HB := am (hb); replace HI0 := am (hi); (try clear hb); (try clear hb2); (try clear hk); (try clear hi); (try clear ho0); obtain ⟨Ao43, co43, eo43⟩ := Kd.R_slice HO220.out; subst eo43))
      go_ret
      exact ⟨by first | rfl | (simp [errW_none, errW_some] <;> rfl) | (simp [*, errW_none, errW_some] <;> rfl), si28 HI0, be HB, ke HK⟩

/-! ### spec_l01Right: function 128 -/
mutual
def spec_l01Right.l0 : Nat → List (S38) → Int → Int → Int → (Nat → Int) → Option (Bool × Int × Int × (Nat → Int))
 | 0, _, _, _, _, _ => none
 | k + 1, x1, x5, x1000, x1001, x1002 => if x5 < (x1.length : Int) then (if 0 ≤ x5 then ((spec_l01Safe.f k x1000 x1001 x1002 ((rd_T38 x1 x5).f0.f0) ((rd_T38 x1 x5).f0.f1) ((rd_T38 x1 x5).f1) ((rd_T38 x1 x5).f2) ((rd_T38 x1 x5).f3) ((rd_T38 x1 x5).f4)).bind fun bt225 => (if bt225.1 = true then (spec_l01Right.l1 k x1 x5 0 bt225.2.1 bt225.2.2.1 bt225.2.2.2) else (some (false, bt225.2.1, bt225.2.2.1, bt225.2.2.2)))) else (none)) else (some (true, x1000, x1001, x1002))
def spec_l01Right.l1 : Nat → List (S38) → Int → Int → Int → Int → (Nat → Int) → Option (Bool × Int × Int × (Nat → Int))
 | 0, _, _, _, _, _, _ => none
 | k + 1, x1, x5, x6, x1000, x1001, x1002 => if x6 < x5 then (if 0 ≤ x5 then (if x5 < (x1.length : Int) then (if 0 ≤ x6 then (if x6 < (x1.length : Int) then ((spec_l01Touch.f k x1000 x1001 x1002 ((rd_T38 x1 x5).f0.f0) ((rd_T38 x1 x5).f0.f1) ((rd_T38 x1 x5).f1) ((rd_T38 x1 x5).f2) ((rd_T38 x1 x5).f3) ((rd_T38 x1 x5).f4) ((rd_T38 x1 x6).f0.f0) ((rd_T38 x1 x6).f0.f1) ((rd_T38 x1 x6).f1) ((rd_T38 x1 x6).f2) ((rd_T38 x1 x6).f3) ((rd_T38 x1 x6).f4)).bind fun bt231 => (if bt231.1 = true then (some (false, bt231.2.1, bt231.2.2.1, bt231.2.2.2)) else (spec_l01Right.l1 k x1 x5 (wrap64 (x6 + 1)) bt231.2.1 bt231.2.2.1 bt231.2.2.2))) else (none)) else (none)) else (none)) else (none)) else (spec_l01Right.l0 k x1 (wrap64 (x5 + 1)) x1000 x1001 x1002)
end
def spec_l01Right.f (k : Nat) (s0_0 : Int) (s0_1 : Int) (s0_2 : (Nat → Int)) (l1 : List (S38)) : Option (Bool × Int × Int × (Nat → Int)) := spec_l01Right.l0 k l1 0 s0_0 s0_1 s0_2
def spec_l01Right.T9 : Bool × List (List Nat × List Nat) := (true, [([], []), ([], []), ([], []), ([1, 2], [1, 2]), ([3], [3]), ([], []), ([], []), ([5, 6], [5, 6]), ([7], [7]), ([0, 4, 8], [0, 4, 8])])
def spec_l01Right.B9 : List Nat := [0, 0, 0, 6, 14, 0, 0, 96, 224, 511]
theorem spec_l01Right.tab9 : rtab .any (opsOf Try.f128 9) = spec_l01Right.T9 := by kernel_rfl
theorem spec_l01Right.bits9 : waitsOk spec_l01Right.T9.2 spec_l01Right.B9 = true := by kernel_rfl
set_option maxHeartbeats 8000000 in
set_option maxRecDepth 100000 in
theorem spec_l01Right.calls (k : Nat) (g : Nat) (s0_0 : Int) (s0_1 : Int) (s0_2 : (Nat → Int)) (A1 : Option Addr) (c1 : Nat) (l1 : List (S38)) (r1 : Bool) (r2 : Int) (r3 : Int) (r4 : (Nat → Int)) (w0 w : World) (hI : IsS28 w0 w g s0_0 s0_1 s0_2) (hB : Below w0.heap.size w0 w) (hr1 : ∀ W_, KeepBut w W_ g none → Kd.C k38 W_ A1 l1.length l1) (hc1 : l1.length ≤ c1) (h : spec_l01Right.f k s0_0 s0_1 s0_2 l1 = some (r1, r2, r3, r4)) :
  Calls Try.prog 128 #[.pointer (some ⟨g, 0, none⟩), .slice A1 l1.length c1] w fun e w' => e = .returned (.bool r1) ∧ IsS28 w0 w' g r2 r3 r4 ∧ Below w0.heap.size w0 w' ∧ KeepBut w w' g none := by
 have hu38 := Try.underlying38
 have HR1 := am hr1
 have HC1 := am hc1
 clear hr1 hc1
 have HI0 := am hI
 have HK := am (KeepBut.refl w g none)
 have HL := am hB.size
 clear hI
 have HW0 := am hB.size
 have HB := am hB
 clear hB
 have H : (spec_l01Right.l0 k l1 0 s0_0 s0_1 s0_2) = some (r1, r2, r3, r4) := h
 clear h
 have H' := am H
 clear H
 go_enter Try.func128, Try.ntmps128
 go_wp2
 go_loopg [5] k (fun kq v5 w' => ∃ (x5_1 : Int) (x1000_1 : Int) (x1001_1 : Int) (x1002_1 : (Nat → Int)), v5 = .int .i64 x5_1 ∧ Aside0 (spec_l01Right.l0 kq l1 x5_1 x1000_1 x1001_1 x1002_1 = some (r1, r2, r3, r4)) ∧ Aside0 (kq ≤ k) ∧ Aside0 (IsS28 w0 w' g x1000_1 x1001_1 x1002_1) ∧ Aside0 (KeepBut w w' g none) ∧ Aside0 (Below w0.heap.size w0 w'))
 case atStart => exact ⟨(0), (s0_0), (s0_1), (s0_2), vv, H', ⟨Nat.le_refl _⟩, ⟨si28 HI0⟩, ⟨ke HK⟩, ⟨be HB⟩⟩
 case round =>
  clear H'
  try clear c1
  try clear p2
  obtain ⟨x5_1, x1000_1, x1001_1, x1002_1, rfl, HA, HK1, HI0, HK, HB⟩ := hrel
  cases gk with
  | zero => exact absurd HA.out (by simp [spec_l01Right.l0])
  | succ k1 =>
   have H := HA.out
   clear HA
   simp only [spec_l01Right.l0] at H
   by_cases c3 : x5_1 < (l1.length : Int)
   ·rw [if_pos c3] at H
    have c3b0 : decide (x5_1 < (l1.length : Int)) = true := decide_eq_true c3
    clear c3
    by_cases c4 : 0 ≤ x5_1
    ·rw [if_pos c4] at H
     have c4b0 : decide (0 ≤ x5_1) = true := decide_eq_true c4
     have c4b1 : 0 ≤ x5_1 := c4
     clear c4
     replace H := Option.bind_eq_some_iff.mp H
     obtain ⟨⟨t225, t226, t227, t228⟩, A50, H⟩ := H
     try dsimp only at H
     have A5 := am A50
     clear A50
     by_cases c6 : t225 = true
     ·subst c6
      rw [if_pos rfl] at H
      have H' := am H
      clear H
      have p224 : 0 ≤ (x5_1 : Int) := of_decide_eq_true (by first | (with_reducible assumption) | assumption)
      have q224 : x5_1 < (l1.length : Int) := of_decide_eq_true (by first | (with_reducible assumption) | assumption)
      obtain ⟨ad224, e224, hx224_0, hx224_1, hx224_2, hx224_3, hx224_4, hx224_5⟩ := at_T38 (Kd.C_foot_now HR1.out HK.out) x5_1 p224 q224
      cases e224
      replace p224 := eq_true p224
      replace q224 := eq_true q224
      go_wp2_with (first | ((with_reducible refine gate_callee (f := 120) rfl ?_); refine gL (some 18) Try.func120 #[.pointer (some ⟨g, 0, none⟩), .agg #[.int .i8 ((rd_T38 l1 x5_1).f0.f0), .int .i8 ((rd_T38 l1 x5_1).f0.f1), .int .i8 ((rd_T38 l1 x5_1).f1), .int .i8 ((rd_T38 l1 x5_1).f2), .int .i8 ((rd_T38 l1 x5_1).f3), .int .i8 ((rd_T38 l1 x5_1).f4)]] ?_; (with_reducible refine (spec_l01Safe.calls k1 g x1000_1 x1001_1 x1002_1 ((rd_T38 l1 x5_1).f0.f0) ((rd_T38 l1 x5_1).f0.f1) ((rd_T38 l1 x5_1).f1) ((rd_T38 l1 x5_1).f2) ((rd_T38 l1 x5_1).f3) ((rd_T38 l1 x5_1).f4) true t226 t227 t228 w0 _ ?side1 ?side2 A5.out).mono ?_); (case side1 => exact si28 HI0); (case side2 => exact be HB); rintro e w7 ⟨rfl, hi, hb, hk⟩; refine ⟨_, rfl, ?_⟩; replace HK := am (KeepBut.trans (ke HK) hk (.inl rfl)); replace HB := am (hb); replace HI0 := am (hi); (try clear hb); (try clear hb2); (try clear hk); (try clear hi)))
      go_loopg [6] k1 (fun kq v6 w' => ∃ (x6_2 : Int) (x1000_2 : Int) (x1001_2 : Int) (x1002_2 : (Nat → Int)), v6 = .int .i64 x6_2 ∧ Aside0 (spec_l01Right.l1 kq l1 x5_1 x6_2 x1000_2 x1001_2 x1002_2 = some (r1, r2, r3, r4)) ∧ Aside0 (kq ≤ k1) ∧ Aside0 (IsS28 w0 w' g x1000_2 x1001_2 x1002_2) ∧ Aside0 (KeepBut w w' g none) ∧ Aside0 (Below w0.heap.size w0 w'))
      case atStart => exact ⟨(0), (t226), (t227), (t228), vv, H', ⟨Nat.le_refl _⟩, ⟨si28 HI0⟩, ⟨ke HK⟩, ⟨be HB⟩⟩
      case round =>
       clear H'
       try clear c1
       try clear p2
       try clear q2
       try clear hx2
       try clear c3
       try clear c3b0
       try clear c4
       try clear c4b0
       try clear c4b1
       try clear c6
       try clear hx224_0
       try clear hx224_1
       try clear hx224_2
       try clear hx224_3
       try clear hx224_4
       try clear hx224_5
       try clear p2
       try clear p224
       try clear q224
       obtain ⟨x6_2, x1000_2, x1001_2, x1002_2, rfl, HA, HK2, HI0, HK, HB⟩ := hrel
       cases gk with
       | zero => exact absurd HA.out (by simp [spec_l01Right.l1])
       | succ k2 =>
        have H := HA.out
        clear HA
        simp only [spec_l01Right.l1] at H
        by_cases c8 : x6_2 < x5_1
        ·rw [if_pos c8] at H
         have c8b0 : decide (x6_2 < x5_1) = true := decide_eq_true c8
         clear c8
         by_cases c9 : 0 ≤ x5_1
         ·rw [if_pos c9] at H
          have c9b0 : decide (0 ≤ x5_1) = true := decide_eq_true c9
          have c9b1 : 0 ≤ x5_1 := c9
          clear c9
          by_cases c10 : x5_1 < (l1.length : Int)
          ·rw [if_pos c10] at H
           have c10b0 : decide (x5_1 < (l1.length : Int)) = true := decide_eq_true c10
           clear c10
           by_cases c11 : 0 ≤ x6_2
           ·rw [if_pos c11] at H
            have c11b0 : decide (0 ≤ x6_2) = true := decide_eq_true c11
            have c11b1 : 0 ≤ x6_2 := c11
            clear c11
            by_cases c12 : x6_2 < (l1.length : Int)
            ·rw [if_pos c12] at H
             have c12b0 : decide (x6_2 < (l1.length : Int)) = true := decide_eq_true c12
             clear c12
             replace H := Option.bind_eq_some_iff.mp H
             obtain ⟨⟨t231, t232, t233, t234⟩, A130, H⟩ := H
             try dsimp only at H
             have A13 := am A130
             clear A130
             by_cases c14 : t231 = true
             ·subst c14
              rw [if_pos rfl] at H
              simp only [Option.some.injEq, Prod.mk.injEq] at H
              obtain ⟨rfl, rfl, rfl, rfl⟩ := H
              try go_wp2
              have n0_ := am (IsS28.drew HI0.out)
              have n1_ := am (keep_drew HK.out)
              have n2_ := am (below_drew1 HB.out)
              clear HI0
              clear HK
              clear HB
              have HI0 := n0_
              have HK := n1_
              have HB := n2_
              clear n0_ n1_ n2_
              have p229 : 0 ≤ (x5_1 : Int) := of_decide_eq_true (by first | (with_reducible assumption) | assumption)
              have q229 : x5_1 < (l1.length : Int) := of_decide_eq_true (by first | (with_reducible assumption) | assumption)
              obtain ⟨ad229, e229, hx229_0, hx229_1, hx229_2, hx229_3, hx229_4, hx229_5⟩ := at_T38 (Kd.C_foot_now HR1.out HK.out) x5_1 p229 q229
              have hw229_5 := hx229_5
              have hw229_4 := hx229_4
              have hw229_3 := hx229_3
              have hw229_2 := hx229_2
              have hw229_1 := hx229_1
              have hw229_0 := hx229_0
              obtain rfl : ad224 = ad229 := (by injection e229)
              have hne229_5 := (show (⟨(ad224.add ((x5_1).toNat * 6)).block, (ad224.add ((x5_1).toNat * 6)).off + 5, none⟩ : Addr).block ≠ g from by first | (rw [add_block]; exact Kd.foot_ne HR1.out (by omega) (by decide)) | (show (Addr.add _ _).block ≠ _; rw [add_block]; exact Kd.foot_ne HR1.out (by omega) (by decide)) | exact Kd.foot_ne HR1.out (by omega) (by decide) | (dsimp only; exact Kd.foot_ne HR1.out (by omega) (by decide)))
              have hlt229_5 := (Kd.foot_lt HR1.out (by omega) (by decide))
              have hne229_4 := (show (⟨(ad224.add ((x5_1).toNat * 6)).block, (ad224.add ((x5_1).toNat * 6)).off + 4, none⟩ : Addr).block ≠ g from by first | (rw [add_block]; exact Kd.foot_ne HR1.out (by omega) (by decide)) | (show (Addr.add _ _).block ≠ _; rw [add_block]; exact Kd.foot_ne HR1.out (by omega) (by decide)) | exact Kd.foot_ne HR1.out (by omega) (by decide) | (dsimp only; exact Kd.foot_ne HR1.out (by omega) (by decide)))
              have hlt229_4 := (Kd.foot_lt HR1.out (by omega) (by decide))
              have hne229_3 := (show (⟨(ad224.add ((x5_1).toNat * 6)).block, (ad224.add ((x5_1).toNat * 6)).off + 3, none⟩ : Addr).block ≠ g from by first | (rw [add_block]; exact Kd.foot_ne HR1.out (by omega) (by decide)) | (show (Addr.add _ _).block ≠ _; rw [add_block]; exact Kd.foot_ne HR1.out (by omega) (by decide)) | exact Kd.foot_ne HR1.out (by omega) (by decide) | (dsimp only; exact Kd.foot_ne HR1.out (by omega) (by decide)))
              have hlt229_3 := (Kd.foot_lt HR1.out (by omega) (by decide))
              have hne229_2 := (show (⟨(ad224.add ((x5_1).toNat * 6)).block, (ad224.add ((x5_1).toNat * 6)).off + 2, none⟩ : Addr).block ≠ g from by first | (rw [add_block]; exact Kd.foot_ne HR1.out (by omega) (by decide)) | (show (Addr.add _ _).block ≠ _; rw [add_block]; exact Kd.foot_ne HR1.out (by omega) (by decide)) | exact Kd.foot_ne HR1.out (by omega) (by decide) | (dsimp only; exact Kd.foot_ne HR1.out (by omega) (by decide)))
              have hlt229_2 := (Kd.foot_lt HR1.out (by omega) (by decide))
              have hne229_1 := (show (⟨(ad224.add ((x5_1).toNat * 6)).block, (ad224.add ((x5_1).toNat * 6)).off + 1, none⟩ : Addr).block ≠ g from by first | (rw [add_block]; exact Kd.foot_ne HR1.out (by omega) (by decide)) | (show (Addr.add _ _).block ≠ _; rw [add_block]; exact Kd.foot_ne HR1.out (by omega) (by decide)) | exact Kd.foot_ne HR1.out (by omega) (by decide) | (dsimp only; exact Kd.foot_ne HR1.out (by omega) (by decide)))
              have hlt229_1 := (Kd.foot_lt HR1.out (by omega) (by decide))
              have hne229_0 := (show ((ad224.add ((x5_1).toNat * 6)) : Addr).block ≠ g from by first | (rw [add_block]; exact Kd.foot_ne HR1.out (by omega) (by decide)) | (show (Addr.add _ _).block ≠ _; rw [add_block]; exact Kd.foot_ne HR1.out (by omega) (by decide)) | exact Kd.foot_ne HR1.out (by omega) (by decide) | (dsimp only; exact Kd.foot_ne HR1.out (by omega) (by decide)))
              have hlt229_0 := (Kd.foot_lt HR1.out (by omega) (by decide))
              replace p229 := eq_true p229
              replace q229 := eq_true q229
              have p230 : 0 ≤ (x6_2 : Int) := of_decide_eq_true (by first | (with_reducible assumption) | assumption)
              have q230 : x6_2 < (l1.length : Int) := of_decide_eq_true (by first | (with_reducible assumption) | assumption)
              obtain ⟨ad230, e230, hx230_0, hx230_1, hx230_2, hx230_3, hx230_4, hx230_5⟩ := at_T38 (Kd.C_foot_now HR1.out HK.out) x6_2 p230 q230
              have hw230_5 := hx230_5
              have hw230_4 := hx230_4
              have hw230_3 := hx230_3
              have hw230_2 := hx230_2
              have hw230_1 := hx230_1
              have hw230_0 := hx230_0
              obtain rfl : ad224 = ad230 := (by injection e230)
              have hne230_5 := (show (⟨(ad224.add ((x6_2).toNat * 6)).block, (ad224.add ((x6_2).toNat * 6)).off + 5, none⟩ : Addr).block ≠ g from by first | (rw [add_block]; exact Kd.foot_ne HR1.out (by omega) (by decide)) | (show (Addr.add _ _).block ≠ _; rw [add_block]; exact Kd.foot_ne HR1.out (by omega) (by decide)) | exact Kd.foot_ne HR1.out (by omega) (by decide) | (dsimp only; exact Kd.foot_ne HR1.out (by omega) (by decide)))
              have hlt230_5 := (Kd.foot_lt HR1.out (by omega) (by decide))
              have hne230_4 := (show (⟨(ad224.add ((x6_2).toNat * 6)).block, (ad224.add ((x6_2).toNat * 6)).off + 4, none⟩ : Addr).block ≠ g from by first | (rw [add_block]; exact Kd.foot_ne HR1.out (by omega) (by decide)) | (show (Addr.add _ _).block ≠ _; rw [add_block]; exact Kd.foot_ne HR1.out (by omega) (by decide)) | exact Kd.foot_ne HR1.out (by omega) (by decide) | (dsimp only; exact Kd.foot_ne HR1.out (by omega) (by decide)))
              have hlt230_4 := (Kd.foot_lt HR1.out (by omega) (by decide))
              have hne230_3 := (show (⟨(ad224.add ((x6_2).toNat * 6)).block, (ad224.add ((x6_2).toNat * 6)).off + 3, none⟩ : Addr).block ≠ g from by first | (rw [add_block]; exact Kd.foot_ne HR1.out (by omega) (by decide)) | (show (Addr.add _ _).block ≠ _; rw [add_block]; exact Kd.foot_ne HR1.out (by omega) (by decide)) | exact Kd.foot_ne HR1.out (by omega) (by decide) | (dsimp only; exact Kd.foot_ne HR1.out (by omega) (by decide)))
              have hlt230_3 := (Kd.foot_lt HR1.out (by omega) (by decide))
              have hne230_2 := (show (⟨(ad224.add ((x6_2).toNat * 6)).block, (ad224.add ((x6_2).toNat * 6)).off + 2, none⟩ : Addr).block ≠ g from by first | (rw [add_block]; exact Kd.foot_ne HR1.out (by omega) (by decide)) | (show (Addr.add _ _).block ≠ _; rw [add_block]; exact Kd.foot_ne HR1.out (by omega) (by decide)) | exact Kd.foot_ne HR1.out (by omega) (by decide) | (dsimp only; exact Kd.foot_ne HR1.out (by omega) (by decide)))
              have hlt230_2 := (Kd.foot_lt HR1.out (by omega) (by decide))
              have hne230_1 := (show (⟨(ad224.add ((x6_2).toNat * 6)).block, (ad224.add ((x6_2).toNat * 6)).off + 1, none⟩ : Addr).block ≠ g from by first | (rw [add_block]; exact Kd.foot_ne HR1.out (by omega) (by decide)) | (show (Addr.add _ _).block ≠ _; rw [add_block]; exact Kd.foot_ne HR1.out (by omega) (by decide)) | exact Kd.foot_ne HR1.out (by omega) (by decide) | (dsimp only; exact Kd.foot_ne HR1.out (by omega) (by decide)))
              have hlt230_1 := (Kd.foot_lt HR1.out (by omega) (by decide))
              have hne230_0 := (show ((ad224.add ((x6_2).toNat * 6)) : Addr).block ≠ g from by first | (rw [add_block]; exact Kd.foot_ne HR1.out (by omega) (by decide)) | (show (Addr.add _ _).block ≠ _; rw [add_block]; exact Kd.foot_ne HR1.out (by omega) (by decide)) | exact Kd.foot_ne HR1.out (by omega) (by decide) | (dsimp only; exact Kd.foot_ne HR1.out (by omega) (by decide)))
              have hlt230_0 := (Kd.foot_lt HR1.out (by omega) (by decide))
              replace p230 := eq_true p230
              replace q230 := eq_true q230
              refine start_ (n := 10) (S := fun w' => w'.cell? (ad224.add ((x5_1).toNat * 6)) = some (.int .i8 ((rd_T38 l1 x5_1).f0.f0)) ∧ w'.cell? ⟨(ad224.add ((x5_1).toNat * 6)).block, (ad224.add ((x5_1).toNat * 6)).off + 1, none⟩ = some (.int .i8 ((rd_T38 l1 x5_1).f0.f1)) ∧ w'.cell? ⟨(ad224.add ((x5_1).toNat * 6)).block, (ad224.add ((x5_1).toNat * 6)).off + 2, none⟩ = some (.int .i8 ((rd_T38 l1 x5_1).f1)) ∧ w'.cell? ⟨(ad224.add ((x5_1).toNat * 6)).block, (ad224.add ((x5_1).toNat * 6)).off + 3, none⟩ = some (.int .i8 ((rd_T38 l1 x5_1).f2)) ∧ w'.cell? ⟨(ad224.add ((x5_1).toNat * 6)).block, (ad224.add ((x5_1).toNat * 6)).off + 4, none⟩ = some (.int .i8 ((rd_T38 l1 x5_1).f3)) ∧ w'.cell? ⟨(ad224.add ((x5_1).toNat * 6)).block, (ad224.add ((x5_1).toNat * 6)).off + 5, none⟩ = some (.int .i8 ((rd_T38 l1 x5_1).f4)) ∧ w'.cell? (ad224.add ((x6_2).toNat * 6)) = some (.int .i8 ((rd_T38 l1 x6_2).f0.f0)) ∧ w'.cell? ⟨(ad224.add ((x6_2).toNat * 6)).block, (ad224.add ((x6_2).toNat * 6)).off + 1, none⟩ = some (.int .i8 ((rd_T38 l1 x6_2).f0.f1)) ∧ w'.cell? ⟨(ad224.add ((x6_2).toNat * 6)).block, (ad224.add ((x6_2).toNat * 6)).off + 2, none⟩ = some (.int .i8 ((rd_T38 l1 x6_2).f1)) ∧ w'.cell? ⟨(ad224.add ((x6_2).toNat * 6)).block, (ad224.add ((x6_2).toNat * 6)).off + 3, none⟩ = some (.int .i8 ((rd_T38 l1 x6_2).f2)) ∧ w'.cell? ⟨(ad224.add ((x6_2).toNat * 6)).block, (ad224.add ((x6_2).toNat * 6)).off + 4, none⟩ = some (.int .i8 ((rd_T38 l1 x6_2).f3)) ∧ w'.cell? ⟨(ad224.add ((x6_2).toNat * 6)).block, (ad224.add ((x6_2).toNat * 6)).off + 5, none⟩ = some (.int .i8 ((rd_T38 l1 x6_2).f4))) (ds := []) #[false, false, false, false, false, false, false, false, false, false] (by kernel_rfl) rfl rfl ⟨hx229_0, hx229_1, hx229_2, hx229_3, hx229_4, hx229_5, hx230_0, hx230_1, hx230_2, hx230_3, hx230_4, hx230_5⟩ (fun hHeld => ?_); refine with_tabW spec_l01Right.tab9 spec_l01Right.bits9 (fun HT_ HW_ => ?_)
              generalize wr.drew = w15 at HI0 HK HB hx229_0 hx229_1 hx229_2 hx229_3 hx229_4 hx229_5 hx230_0 hx230_1 hx230_2 hx230_3 hx230_4 hx230_5 hHeld ⊢
              refine pS (i := 0) (some 25) #[true, false, false, false, false, false, false, false, false, false] (any_of HT_.out (by kernel_rfl)) ?_
              refine pS (i := 1) (some 26) #[true, true, false, false, false, false, false, false, false, false] (any_of HT_.out (by kernel_rfl)) ?_
              refine pS (i := 2) (some 27) #[true, true, true, false, false, false, false, false, false, false] (any_of HT_.out (by kernel_rfl)) ?_
              refine pS (i := 3) (some 28) #[true, true, true, true, false, false, false, false, false, false] (any_of HT_.out (by kernel_rfl)) ?_
              refine pS (i := 5) (some 30) #[true, true, true, true, false, true, false, false, false, false] (any_of HT_.out (by kernel_rfl)) ?_
              refine pS (i := 6) (some 31) #[true, true, true, true, false, true, true, false, false, false] (any_of HT_.out (by kernel_rfl)) ?_
              refine pS (i := 7) (some 32) #[true, true, true, true, false, true, true, true, false, false] (any_of HT_.out (by kernel_rfl)) ?_
              refine tS (i := 4) (some 29) #[true, true, true, true, true, true, true, true, false, false] (take_ofW HT_.out HW_.out (by kernel_rfl)) hHeld ?_
              refine tS (i := 8) (some 33) #[true, true, true, true, true, true, true, true, true, false] (take_ofW HT_.out HW_.out (by kernel_rfl)) hHeld ?_
              refine one_ (i := 9) (N := some 34) #[true, true, true, true, true, true, true, true, true, true] rfl rfl (one_of HT_.out (by kernel_rfl)) (by decide) (fun K hK => ?_)
              refine goes_ Try.func118 (by kernel_rfl) rfl #[.pointer (some ⟨g, 0, none⟩), .agg #[.int .i8 ((rd_T38 l1 x5_1).f0.f0), .int .i8 ((rd_T38 l1 x5_1).f0.f1), .int .i8 ((rd_T38 l1 x5_1).f1), .int .i8 ((rd_T38 l1 x5_1).f2), .int .i8 ((rd_T38 l1 x5_1).f3), .int .i8 ((rd_T38 l1 x5_1).f4)], .agg #[.int .i8 ((rd_T38 l1 x6_2).f0.f0), .int .i8 ((rd_T38 l1 x6_2).f0.f1), .int .i8 ((rd_T38 l1 x6_2).f1), .int .i8 ((rd_T38 l1 x6_2).f2), .int .i8 ((rd_T38 l1 x6_2).f3), .int .i8 ((rd_T38 l1 x6_2).f4)]] (by rfl) rfl rfl (by (try simp only [List.map_toArray, List.map_cons, List.map_nil]); first | done | rfl | (simp only [List.length_drop, List.length_take]; rfl)) ?_
              with_reducible refine (spec_l01Touch.calls k2 g x1000_2 x1001_2 x1002_2 ((rd_T38 l1 x5_1).f0.f0) ((rd_T38 l1 x5_1).f0.f1) ((rd_T38 l1 x5_1).f1) ((rd_T38 l1 x5_1).f2) ((rd_T38 l1 x5_1).f3) ((rd_T38 l1 x5_1).f4) ((rd_T38 l1 x6_2).f0.f0) ((rd_T38 l1 x6_2).f0.f1) ((rd_T38 l1 x6_2).f1) ((rd_T38 l1 x6_2).f2) ((rd_T38 l1 x6_2).f3) ((rd_T38 l1 x6_2).f4) true t232 t233 t234 w0 _ ?side1 ?side2 A13.out).mono ?_
              (case side1 => exact si28 HI0)
              (case side2 => exact be HB)
              rintro e w16 ⟨rfl, hi, hb, hk⟩
              have HS0_ := keep_cell hk (hHeld.1) (by first | (rw [add_block]; exact hne229_0) | (show (Addr.add _ _).block ≠ _; rw [add_block]; exact hne229_0) | exact hne229_0)
              have HS1_ := keep_cell hk (hHeld.2.1) (by first | (rw [add_block]; exact hne229_1) | (show (Addr.add _ _).block ≠ _; rw [add_block]; exact hne229_1) | exact hne229_1)
              have HS2_ := keep_cell hk (hHeld.2.2.1) (by first | (rw [add_block]; exact hne229_2) | (show (Addr.add _ _).block ≠ _; rw [add_block]; exact hne229_2) | exact hne229_2)
              have HS3_ := keep_cell hk (hHeld.2.2.2.1) (by first | (rw [add_block]; exact hne229_3) | (show (Addr.add _ _).block ≠ _; rw [add_block]; exact hne229_3) | exact hne229_3)
              have HS4_ := keep_cell hk (hHeld.2.2.2.2.1) (by first | (rw [add_block]; exact hne229_4) | (show (Addr.add _ _).block ≠ _; rw [add_block]; exact hne229_4) | exact hne229_4)
              have HS5_ := keep_cell hk (hHeld.2.2.2.2.2.1) (by first | (rw [add_block]; exact hne229_5) | (show (Addr.add _ _).block ≠ _; rw [add_block]; exact hne229_5) | exact hne229_5)
              have HS6_ := keep_cell hk (hHeld.2.2.2.2.2.2.1) (by first | (rw [add_block]; exact hne230_0) | (show (Addr.add _ _).block ≠ _; rw [add_block]; exact hne230_0) | exact hne230_0)
              have HS7_ := keep_cell hk (hHeld.2.2.2.2.2.2.2.1) (by first | (rw [add_block]; exact hne230_1) | (show (Addr.add _ _).block ≠ _; rw [add_block]; exact hne230_1) | exact hne230_1)
              have HS8_ := keep_cell hk (hHeld.2.2.2.2.2.2.2.2.1) (by first | (rw [add_block]; exact hne230_2) | (show (Addr.add _ _).block ≠ _; rw [add_block]; exact hne230_2) | exact hne230_2)
              have HS9_ := keep_cell hk (hHeld.2.2.2.2.2.2.2.2.2.1) (by first | (rw [add_block]; exact hne230_3) | (show (Addr.add _ _).block ≠ _; rw [add_block]; exact hne230_3) | exact hne230_3)
              have HS10_ := keep_cell hk (hHeld.2.2.2.2.2.2.2.2.2.2.1) (by first | (rw [add_block]; exact hne230_4) | (show (Addr.add _ _).block ≠ _; rw [add_block]; exact hne230_4) | exact hne230_4)
              have HS11_ := keep_cell hk (hHeld.2.2.2.2.2.2.2.2.2.2.2) (by first | (rw [add_block]; exact hne230_5) | (show (Addr.add _ _).block ≠ _; rw [add_block]; exact hne230_5) | exact hne230_5)
              refine ⟨_, rfl, ?_⟩
              have n0_ := am (KeepBut.trans (ke HK) hk (.inl rfl))
              have n1_ := am (hb)
              have n2_ := am (hi)
              clear HK
              clear HB
              clear HI0
              have HK := n0_
              have HB := n1_
              have HI0 := n2_
              clear n0_ n1_ n2_
              (try clear hb)
              (try clear hb2)
              (try clear hk)
              (try clear hi)
              refine hK.out _ _ ⟨HS0_, HS1_, HS2_, HS3_, HS4_, HS5_, HS6_, HS7_, HS8_, HS9_, HS10_, HS11_⟩ (fun hHeld => ?_)
              clear hK K
              refine norm_ (a' := ?_) ?_ ?_
              rotate_left
              ·show Act.put _ (some 34) _ = _
               simp only [Act.put, List.setIfInBounds_toArray, List.set_cons_zero, List.set_cons_succ, i64_w, i32_w]
               rfl
              refine done_ (done_of HT_.out (by kernel_rfl)) ?_
              try go_wp2
              go_ret
              exact ⟨by first | rfl | (simp [errW_none, errW_some] <;> rfl) | (simp [*, errW_none, errW_some] <;> rfl), si28 HI0, be HB, ke HK⟩
             ·replace c14 := Bool.eq_false_iff.mpr c14
              subst c14
              have H1 : (spec_l01Right.l1 k2 l1 x5_1 (wrap64 (x6_2 + 1)) t232 t233 t234) = some (r1, r2, r3, r4) := by rw [if_neg (show ¬ (false = true) by decide)] at H; exact H
              clear H
              have H := H1
              clear H1
              have H' := am H
              clear H
              try go_wp2
              have n0_ := am (IsS28.drew HI0.out)
              have n1_ := am (keep_drew HK.out)
              have n2_ := am (below_drew1 HB.out)
              clear HI0
              clear HK
              clear HB
              have HI0 := n0_
              have HK := n1_
              have HB := n2_
              clear n0_ n1_ n2_
              have p229 : 0 ≤ (x5_1 : Int) := of_decide_eq_true (by first | (with_reducible assumption) | assumption)
              have q229 : x5_1 < (l1.length : Int) := of_decide_eq_true (by first | (with_reducible assumption) | assumption)
              obtain ⟨ad229, e229, hx229_0, hx229_1, hx229_2, hx229_3, hx229_4, hx229_5⟩ := at_T38 (Kd.C_foot_now HR1.out HK.out) x5_1 p229 q229
              have hw229_5 := hx229_5
              have hw229_4 := hx229_4
              have hw229_3 := hx229_3
              have hw229_2 := hx229_2
              have hw229_1 := hx229_1
              have hw229_0 := hx229_0
              obtain rfl : ad224 = ad229 := (by injection e229)
              have hne229_5 := (show (⟨(ad224.add ((x5_1).toNat * 6)).block, (ad224.add ((x5_1).toNat * 6)).off + 5, none⟩ : Addr).block ≠ g from by first | (rw [add_block]; exact Kd.foot_ne HR1.out (by omega) (by decide)) | (show (Addr.add _ _).block ≠ _; rw [add_block]; exact Kd.foot_ne HR1.out (by omega) (by decide)) | exact Kd.foot_ne HR1.out (by omega) (by decide) | (dsimp only; exact Kd.foot_ne HR1.out (by omega) (by decide)))
              have hlt229_5 := (Kd.foot_lt HR1.out (by omega) (by decide))
              have hne229_4 := (show (⟨(ad224.add ((x5_1).toNat * 6)).block, (ad224.add ((x5_1).toNat * 6)).off + 4, none⟩ : Addr).block ≠ g from by first | (rw [add_block]; exact Kd.foot_ne HR1.out (by omega) (by decide)) | (show (Addr.add _ _).block ≠ _; rw [add_block]; exact Kd.foot_ne HR1.out (by omega) (by decide)) | exact Kd.foot_ne HR1.out (by omega) (by decide) | (dsimp only; exact Kd.foot_ne HR1.out (by omega) (by decide)))
              have hlt229_4 := (Kd.foot_lt HR1.out (by omega) (by decide))
              have hne229_3 := (show (⟨(ad224.add ((x5_1).toNat * 6)).block, (ad224.add ((x5_1).toNat * 6)).off + 3, none⟩ : Addr).block ≠ g from by first | (rw [add_block]; exact Kd.foot_ne HR1.out (by omega) (by decide)) | (show (Addr.add _ _).block ≠ _; rw [add_block]; exact Kd.foot_ne HR1.out (by omega) (by decide)) | exact Kd.foot_ne HR1.out (by omega) (by decide) | (dsimp only; exact Kd.foot_ne HR1.out (by omega) (by decide)))
              have hlt229_3 := (Kd.foot_lt HR1.out (by omega) (by decide))
              have hne229_2 := (show (⟨(ad224.add ((x5_1).toNat * 6)).block, (ad224.add ((x5_1).toNat * 6)).off + 2, none⟩ : Addr).block ≠ g from by first | (rw [add_block]; exact Kd.foot_ne HR1.out (by omega) (by decide)) | (show (Addr.add _ _).block ≠ _; rw [add_block]; exact Kd.foot_ne HR1.out (by omega) (by decide)) | exact Kd.foot_ne HR1.out (by omega) (by decide) | (dsimp only; exact Kd.foot_ne HR1.out (by omega) (by decide)))
              have hlt229_2 := (Kd.foot_lt HR1.out (by omega) (by decide))
              have hne229_1 := (show (⟨(ad224.add ((x5_1).toNat * 6)).block, (ad224.add ((x5_1).toNat * 6)).off + 1, none⟩ : Addr).block ≠ g from by first | (rw [add_block]; exact Kd.foot_ne HR1.out (by omega) (by decide)) | (show (Addr.add _ _).block ≠ _; rw [add_block]; exact Kd.foot_ne HR1.out (by omega) (by decide)) | exact Kd.foot_ne HR1.out (by omega) (by decide) | (dsimp only; exact Kd.foot_ne HR1.out (by omega) (by decide)))
              have hlt229_1 := (Kd.foot_lt HR1.out (by omega) (by decide))
              have hne229_0 := (show ((ad224.add ((x5_1).toNat * 6)) : Addr).block ≠ g from by first | (rw [add_block]; exact Kd.foot_ne HR1.out (by omega) (by decide)) | (show (Addr.add _ _).block ≠ _; rw [add_block]; exact Kd.foot_ne HR1.out (by omega) (by decide)) | exact Kd.foot_ne HR1.out (by omega) (by decide) | (dsimp only; exact Kd.foot_ne HR1.out (by omega) (by decide)))
              have hlt229_0 := (Kd.foot_lt HR1.out (by omega) (by decide))
              replace p229 := eq_true p229
              replace q229 := eq_true q229
              have p230 : 0 ≤ (x6_2 : Int) := of_decide_eq_true (by first | (with_reducible assumption) | assumption)
              have q230 : x6_2 < (l1.length : Int) := of_decide_eq_true (by first | (with_reducible assumption) | assumption)
              obtain ⟨ad230, e230, hx230_0, hx230_1, hx230_2, hx230_3, hx230_4, hx230_5⟩ := at_T38 (Kd.C_foot_now HR1.out HK.out) x6_2 p230 q230
              have hw230_5 := hx230_5
              have hw230_4 := hx230_4
              have hw230_3 := hx230_3
              have hw230_2 := hx230_2
              have hw230_1 := hx230_1
              have hw230_0 := hx230_0
              obtain rfl : ad224 = ad230 := (by injection e230)
              have hne230_5 := (show (⟨(ad224.add ((x6_2).toNat * 6)).block, (ad224.add ((x6_2).toNat * 6)).off + 5, none⟩ : Addr).block ≠ g from by first | (rw [add_block]; exact Kd.foot_ne HR1.out (by omega) (by decide)) | (show (Addr.add _ _).block ≠ _; rw [add_block]; exact Kd.foot_ne HR1.out (by omega) (by decide)) | exact Kd.foot_ne HR1.out (by omega) (by decide) | (dsimp only; exact Kd.foot_ne HR1.out (by omega) (by decide)))
              have hlt230_5 := (Kd.foot_lt HR1.out (by omega) (by decide))
              have hne230_4 := (show (⟨(ad224.add ((x6_2).toNat * 6)).block, (ad224.add ((x6_2).toNat * 6)).off + 4, none⟩ : Addr).block ≠ g from by first | (rw [add_block]; exact Kd.foot_ne HR1.out (by omega) (by decide)) | (show (Addr.add _ _).block ≠ _; rw [add_block]; exact Kd.foot_ne HR1.out (by omega) (by decide)) | exact Kd.foot_ne HR1.out (by omega) (by decide) | (dsimp only; exact Kd.foot_ne HR1.out (by omega) (by decide)))
              have hlt230_4 := (Kd.foot_lt HR1.out (by omega) (by decide))
              have hne230_3 := (show (⟨(ad224.add ((x6_2).toNat * 6)).block, (ad224.add ((x6_2).toNat * 6)).off + 3, none⟩ : Addr).block ≠ g from by first | (rw [add_block]; exact Kd.foot_ne HR1.out (by omega) (by decide)) | (show (Addr.add _ _).block ≠ _; rw [add_block]; exact Kd.foot_ne HR1.out (by omega) (by decide)) | exact Kd.foot_ne HR1.out (by omega) (by decide) | (dsimp only; exact Kd.foot_ne HR1.out (by omega) (by decide)))
              have hlt230_3 := (Kd.foot_lt HR1.out (by omega) (by decide))
              have hne230_2 := (show (⟨(ad224.add ((x6_2).toNat * 6)).block, (ad224.add ((x6_2).toNat * 6)).off + 2, none⟩ : Addr).block ≠ g from by first | (rw [add_block]; exact Kd.foot_ne HR1.out (by omega) (by decide)) | (show (Addr.add _ _).block ≠ _; rw [add_block]; exact Kd.foot_ne HR1.out (by omega) (by decide)) | exact Kd.foot_ne HR1.out (by omega) (by decide) | (dsimp only; exact Kd.foot_ne HR1.out (by omega) (by decide)))
              have hlt230_2 := (Kd.foot_lt HR1.out (by omega) (by decide))
              have hne230_1 := (show (⟨(ad224.add ((x6_2).toNat * 6)).block, (ad224.add ((x6_2).toNat * 6)).off + 1, none⟩ : Addr).block ≠ g from by first | (rw [add_block]; exact Kd.foot_ne HR1.out (by omega) (by decide)) | (show (Addr.add _ _).block ≠ _; rw [add_block]; exact Kd.foot_ne HR1.out (by omega) (by decide)) | exact Kd.foot_ne HR1.out (by omega) (by decide) | (dsimp only; exact Kd.foot_ne HR1.out (by omega) (by decide)))
              have hlt230_1 := (Kd.foot_lt HR1.out (by omega) (by decide))
              have hne230_0 := (show ((ad224.add ((x6_2).toNat * 6)) : Addr).block ≠ g from by first | (rw [add_block]; exact Kd.foot_ne HR1.out (by omega) (by decide)) | (show (Addr.add _ _).block ≠ _; rw [add_block]; exact Kd.foot_ne HR1.out (by omega) (by decide)) | exact Kd.foot_ne HR1.out (by omega) (by decide) | (dsimp only; exact Kd.foot_ne HR1.out (by omega) (by decide)))
              have hlt230_0 := (Kd.foot_lt HR1.out (by omega) (by decide))
              replace p230 := eq_true p230
              replace q230 := eq_true q230
              refine start_ (n := 10) (S := fun w' => w'.cell? (ad224.add ((x5_1).toNat * 6)) = some (.int .i8 ((rd_T38 l1 x5_1).f0.f0)) ∧ w'.cell? ⟨(ad224.add ((x5_1).toNat * 6)).block, (ad224.add ((x5_1).toNat * 6)).off + 1, none⟩ = some (.int .i8 ((rd_T38 l1 x5_1).f0.f1)) ∧ w'.cell? ⟨(ad224.add ((x5_1).toNat * 6)).block, (ad224.add ((x5_1).toNat * 6)).off + 2, none⟩ = some (.int .i8 ((rd_T38 l1 x5_1).f1)) ∧ w'.cell? ⟨(ad224.add ((x5_1).toNat * 6)).block, (ad224.add ((x5_1).toNat * 6)).off + 3, none⟩ = some (.int .i8 ((rd_T38 l1 x5_1).f2)) ∧ w'.cell? ⟨(ad224.add ((x5_1).toNat * 6)).block, (ad224.add ((x5_1).toNat * 6)).off + 4, none⟩ = some (.int .i8 ((rd_T38 l1 x5_1).f3)) ∧ w'.cell? ⟨(ad224.add ((x5_1).toNat * 6)).block, (ad224.add ((x5_1).toNat * 6)).off + 5, none⟩ = some (.int .i8 ((rd_T38 l1 x5_1).f4)) ∧ w'.cell? (ad224.add ((x6_2).toNat * 6)) = some (.int .i8 ((rd_T38 l1 x6_2).f0.f0)) ∧ w'.cell? ⟨(ad224.add ((x6_2).toNat * 6)).block, (ad224.add ((x6_2).toNat * 6)).off + 1, none⟩ = some (.int .i8 ((rd_T38 l1 x6_2).f0.f1)) ∧ w'.cell? ⟨(ad224.add ((x6_2).toNat * 6)).block, (ad224.add ((x6_2).toNat * 6)).off + 2, none⟩ = some (.int .i8 ((rd_T38 l1 x6_2).f1)) ∧ w'.cell? ⟨(ad224.add ((x6_2).toNat * 6)).block, (ad224.add ((x6_2).toNat * 6)).off + 3, none⟩ = some (.int .i8 ((rd_T38 l1 x6_2).f2)) ∧ w'.cell? ⟨(ad224.add ((x6_2).toNat * 6)).block, (ad224.add ((x6_2).toNat * 6)).off + 4, none⟩ = some (.int .i8 ((rd_T38 l1 x6_2).f3)) ∧ w'.cell? ⟨(ad224.add ((x6_2).toNat * 6)).block, (ad224.add ((x6_2).toNat * 6)).off + 5, none⟩ = some (.int .i8 ((rd_T38 l1 x6_2).f4))) (ds := []) #[false, false, false, false, false, false, false, false, false, false] (by kernel_rfl) rfl rfl ⟨hx229_0, hx229_1, hx229_2, hx229_3, hx229_4, hx229_5, hx230_0, hx230_1, hx230_2, hx230_3, hx230_4, hx230_5⟩ (fun hHeld => ?_); refine with_tabW spec_l01Right.tab9 spec_l01Right.bits9 (fun HT_ HW_ => ?_)
              generalize wr.drew = w17 at HI0 HK HB hx229_0 hx229_1 hx229_2 hx229_3 hx229_4 hx229_5 hx230_0 hx230_1 hx230_2 hx230_3 hx230_4 hx230_5 hHeld ⊢
              refine pS (i := 0) (some 25) #[true, false, false, false, false, false, false, false, false, false] (any_of HT_.out (by kernel_rfl)) ?_
              refine pS (i := 1) (some 26) #[true, true, false, false, false, false, false, false, false, false] (any_of HT_.out (by kernel_rfl)) ?_
              refine pS (i := 2) (some 27) #[true, true, true, false, false, false, false, false, false, false] (any_of HT_.out (by kernel_rfl)) ?_
              refine pS (i := 3) (some 28) #[true, true, true, true, false, false, false, false, false, false] (any_of HT_.out (by kernel_rfl)) ?_
              refine pS (i := 5) (some 30) #[true, true, true, true, false, true, false, false, false, false] (any_of HT_.out (by kernel_rfl)) ?_
              refine pS (i := 6) (some 31) #[true, true, true, true, false, true, true, false, false, false] (any_of HT_.out (by kernel_rfl)) ?_
              refine pS (i := 7) (some 32) #[true, true, true, true, false, true, true, true, false, false] (any_of HT_.out (by kernel_rfl)) ?_
              refine tS (i := 4) (some 29) #[true, true, true, true, true, true, true, true, false, false] (take_ofW HT_.out HW_.out (by kernel_rfl)) hHeld ?_
              refine tS (i := 8) (some 33) #[true, true, true, true, true, true, true, true, true, false] (take_ofW HT_.out HW_.out (by kernel_rfl)) hHeld ?_
              refine one_ (i := 9) (N := some 34) #[true, true, true, true, true, true, true, true, true, true] rfl rfl (one_of HT_.out (by kernel_rfl)) (by decide) (fun K hK => ?_)
              refine goes_ Try.func118 (by kernel_rfl) rfl #[.pointer (some ⟨g, 0, none⟩), .agg #[.int .i8 ((rd_T38 l1 x5_1).f0.f0), .int .i8 ((rd_T38 l1 x5_1).f0.f1), .int .i8 ((rd_T38 l1 x5_1).f1), .int .i8 ((rd_T38 l1 x5_1).f2), .int .i8 ((rd_T38 l1 x5_1).f3), .int .i8 ((rd_T38 l1 x5_1).f4)], .agg #[.int .i8 ((rd_T38 l1 x6_2).f0.f0), .int .i8 ((rd_T38 l1 x6_2).f0.f1), .int .i8 ((rd_T38 l1 x6_2).f1), .int .i8 ((rd_T38 l1 x6_2).f2), .int .i8 ((rd_T38 l1 x6_2).f3), .int .i8 ((rd_T38 l1 x6_2).f4)]] (by rfl) rfl rfl (by (try simp only [List.map_toArray, List.map_cons, List.map_nil]); first | done | rfl | (simp only [List.length_drop, List.length_take]; rfl)) ?_
              with_reducible refine (spec_l01Touch.calls k2 g x1000_2 x1001_2 x1002_2 ((rd_T38 l1 x5_1).f0.f0) ((rd_T38 l1 x5_1).f0.f1) ((rd_T38 l1 x5_1).f1) ((rd_T38 l1 x5_1).f2) ((rd_T38 l1 x5_1).f3) ((rd_T38 l1 x5_1).f4) ((rd_T38 l1 x6_2).f0.f0) ((rd_T38 l1 x6_2).f0.f1) ((rd_T38 l1 x6_2).f1) ((rd_T38 l1 x6_2).f2) ((rd_T38 l1 x6_2).f3) ((rd_T38 l1 x6_2).f4) false t232 t233 t234 w0 _ ?side1 ?side2 A13.out).mono ?_
              (case side1 => exact si28 HI0)
              (case side2 => exact be HB)
              rintro e w18 ⟨rfl, hi, hb, hk⟩
              have HS0_ := keep_cell hk (hHeld.1) (by first | (rw [add_block]; exact hne229_0) | (show (Addr.add _ _).block ≠ _; rw [add_block]; exact hne229_0) | exact hne229_0)
              have HS1_ := keep_cell hk (hHeld.2.1) (by first | (rw [add_block]; exact hne229_1) | (show (Addr.add _ _).block ≠ _; rw [add_block]; exact hne229_1) | exact hne229_1)
              have HS2_ := keep_cell hk (hHeld.2.2.1) (by first | (rw [add_block]; exact hne229_2) | (show (Addr.add _ _).block ≠ _; rw [add_block]; exact hne229_2) | exact hne229_2)
              have HS3_ := keep_cell hk (hHeld.2.2.2.1) (by first | (rw [add_block]; exact hne229_3) | (show (Addr.add _ _).block ≠ _; rw [add_block]; exact hne229_3) | exact hne229_3)
              have HS4_ := keep_cell hk (hHeld.2.2.2.2.1) (by first | (rw [add_block]; exact hne229_4) | (show (Addr.add _ _).block ≠ _; rw [add_block]; exact hne229_4) | exact hne229_4)
              have HS5_ := keep_cell hk (hHeld.2.2.2.2.2.1) (by first | (rw [add_block]; exact hne229_5) | (show (Addr.add _ _).block ≠ _; rw [add_block]; exact hne229_5) | exact hne229_5)
              have HS6_ := keep_cell hk (hHeld.2.2.2.2.2.2.1) (by first | (rw [add_block]; exact hne230_0) | (show (Addr.add _ _).block ≠ _; rw [add_block]; exact hne230_0) | exact hne230_0)
              have HS7_ := keep_cell hk (hHeld.2.2.2.2.2.2.2.1) (by first | (rw [add_block]; exact hne230_1) | (show (Addr.add _ _).block ≠ _; rw [add_block]; exact hne230_1) | exact hne230_1)
              have HS8_ := keep_cell hk (hHeld.2.2.2.2.2.2.2.2.1) (by first | (rw [add_block]; exact hne230_2) | (show (Addr.add _ _).block ≠ _; rw [add_block]; exact hne230_2) | exact hne230_2)
              have HS9_ := keep_cell hk (hHeld.2.2.2.2.2.2.2.2.2.1) (by first | (rw [add_block]; exact hne230_3) | (show (Addr.add _ _).block ≠ _; rw [add_block]; exact hne230_3) | exact hne230_3)
              have HS10_ := keep_cell hk (hHeld.2.2.2.2.2.2.2.2.2.2.1) (by first | (rw [add_block]; exact hne230_4) | (show (Addr.add _ _).block ≠ _; rw [add_block]; exact hne230_4) | exact hne230_4)
              have HS11_ := keep_cell hk (hHeld.2.2.2.2.2.2.2.2.2.2.2) (by first | (rw [add_block]; exact hne230_5) | (show (Addr.add _ _).block ≠ _; rw [add_block]; exact hne230_5) | exact hne230_5)
              refine ⟨_, rfl, ?_⟩
              have n0_ := am (KeepBut.trans (ke HK) hk (.inl rfl))
              have n1_ := am (hb)
              have n2_ := am (hi)
              clear HK
              clear HB
              clear HI0
              have HK := n0_
              have HB := n1_
              have HI0 := n2_
              clear n0_ n1_ n2_
              (try clear hb)
              (try clear hb2)
              (try clear hk)
              (try clear hi)
              refine hK.out _ _ ⟨HS0_, HS1_, HS2_, HS3_, HS4_, HS5_, HS6_, HS7_, HS8_, HS9_, HS10_, HS11_⟩ (fun hHeld => ?_)
              clear hK K
              refine norm_ (a' := ?_) ?_ ?_
              rotate_left
              ·show Act.put _ (some 34) _ = _
               simp only [Act.put, List.setIfInBounds_toArray, List.set_cons_zero, List.set_cons_succ, i64_w, i32_w]
               rfl
              refine done_ (done_of HT_.out (by kernel_rfl)) ?_
              try go_wp2
              go_roundg k2
              case measure => have := HK1.out; have := HK2.out; omega
              case rel => exact ⟨(wrap64 (x6_2 + 1)), (t232), (t233), (t234), vv, H', ⟨by have := HK1.out; have := HK2.out; omega⟩, ⟨si28 HI0⟩, ⟨ke HK⟩, ⟨be HB⟩⟩
            ·rw [if_neg c12] at H
             exact absurd H (by simp)
           ·rw [if_neg c11] at H
            exact absurd H (by simp)
          ·rw [if_neg c10] at H
           exact absurd H (by simp)
         ·rw [if_neg c9] at H
          exact absurd H (by simp)
        ·rw [if_neg c8] at H
         have c8b0 : decide (x6_2 < x5_1) = false := decide_eq_false c8
         clear c8
         have H' := am H
         clear H
         go_wp2
         go_roundg k2
         case measure => have := HK1.out; have := HK2.out; omega
         case rel => exact ⟨(wrap64 (x5_1 + 1)), (x1000_2), (x1001_2), (x1002_2), vv, H', ⟨by have := HK1.out; have := HK2.out; omega⟩, ⟨si28 HI0⟩, ⟨ke HK⟩, ⟨be HB⟩⟩
     ·replace c6 := Bool.eq_false_iff.mpr c6
      subst c6
      have H1 : (some (false, t226, t227, t228)) = some (r1, r2, r3, r4) := by rw [if_neg (show ¬ (false = true) by decide)] at H; exact H
      clear H
      have H := H1
      clear H1
      simp only [Option.some.injEq, Prod.mk.injEq] at H
      obtain ⟨rfl, rfl, rfl, rfl⟩ := H
      have p224 : 0 ≤ (x5_1 : Int) := of_decide_eq_true (by first | (with_reducible assumption) | assumption)
      have q224 : x5_1 < (l1.length : Int) := of_decide_eq_true (by first | (with_reducible assumption) | assumption)
      obtain ⟨ad224, e224, hx224_0, hx224_1, hx224_2, hx224_3, hx224_4, hx224_5⟩ := at_T38 (Kd.C_foot_now HR1.out HK.out) x5_1 p224 q224
      cases e224
      replace p224 := eq_true p224
      replace q224 := eq_true q224
      go_wp2_with (first | ((with_reducible refine gate_callee (f := 120) rfl ?_); refine gL (some 18) Try.func120 #[.pointer (some ⟨g, 0, none⟩), .agg #[.int .i8 ((rd_T38 l1 x5_1).f0.f0), .int .i8 ((rd_T38 l1 x5_1).f0.f1), .int .i8 ((rd_T38 l1 x5_1).f1), .int .i8 ((rd_T38 l1 x5_1).f2), .int .i8 ((rd_T38 l1 x5_1).f3), .int .i8 ((rd_T38 l1 x5_1).f4)]] ?_; (with_reducible refine (spec_l01Safe.calls k1 g x1000_1 x1001_1 x1002_1 ((rd_T38 l1 x5_1).f0.f0) ((rd_T38 l1 x5_1).f0.f1) ((rd_T38 l1 x5_1).f1) ((rd_T38 l1 x5_1).f2) ((rd_T38 l1 x5_1).f3) ((rd_T38 l1 x5_1).f4) false t226 t227 t228 w0 _ ?side1 ?side2 A5.out).mono ?_); (case side1 => exact si28 HI0); (case side2 => exact be HB); rintro e w19 ⟨rfl, hi, hb, hk⟩; refine ⟨_, rfl, ?_⟩; replace HK := am (KeepBut.trans (ke HK) hk (.inl rfl)); replace HB := am (hb); replace HI0 := am (hi); (try clear hb); (try clear hb2); (try clear hk); (try clear hi)))
      go_ret
      exact ⟨by first | rfl | (simp [errW_none, errW_some] <;> rfl) | (simp [*, errW_none, errW_some] <;> rfl), si28 HI0, be HB, ke HK⟩
    ·rw [if_neg c4] at H
     exact absurd H (by simp)
   ·rw [if_neg c3] at H
    have c3b0 : decide (x5_1 < (l1.length : Int)) = false := decide_eq_false c3
    clear c3
    simp only [Option.some.injEq, Prod.mk.injEq] at H
    obtain ⟨rfl, rfl, rfl, rfl⟩ := H
    go_wp2
    go_ret
    exact ⟨by first | rfl | (simp [errW_none, errW_some] <;> rfl) | (simp [*, errW_none, errW_some] <;> rfl), si28 HI0, be HB, ke HK⟩

/-! ### spec_l01Chosen: function 133 -/
def spec_l01Chosen.l0 : Nat → List (S38) → List Int → List (S38) → Int → Option ((List (S38)))
 | 0, _, _, _, _ => none
 | k + 1, x0, x1, x5, x6 => if x6 < (x1.length : Int) then (if 0 ≤ x6 then (if 0 ≤ (rd x1 x6) then (if (rd x1 x6) < (x0.length : Int) then (if x5.length < 23456248059221 then (spec_l01Chosen.l0 k x0 x1 (x5 ++ [(⟨(⟨(rd_T38 x0 (rd x1 x6)).f0.f0, (rd_T38 x0 (rd x1 x6)).f0.f1⟩ : S36), (rd_T38 x0 (rd x1 x6)).f1, (rd_T38 x0 (rd x1 x6)).f2, (rd_T38 x0 (rd x1 x6)).f3, (rd_T38 x0 (rd x1 x6)).f4⟩ : S38)]) (wrap64 (x6 + 1))) else (none)) else (none)) else (none)) else (none)) else (some x5)
def spec_l01Chosen.f (k : Nat) (l0 : List (S38)) (l1 : List Int) : Option ((List (S38))) := spec_l01Chosen.l0 k l0 l1 (([] : List (S38))) 0
set_option maxHeartbeats 8000000 in
set_option maxRecDepth 100000 in
theorem spec_l01Chosen.calls (k : Nat) (A0 : Option Addr) (c0 : Nat) (l0 : List (S38)) (A1 : Option Addr) (c1 : Nat) (l1 : List Int) (r : List (S38)) (w : World) (hr0 : Kd.C k38 w A0 l0.length l0) (hc0 : l0.length ≤ c0) (hr1 : Kd.C (Kd.int .i64) w A1 l1.length l1) (hc1 : l1.length ≤ c1) (h : spec_l01Chosen.f k l0 l1 = some r) :
  Calls Try.prog 133 #[.slice A0 l0.length c0, .slice A1 l1.length c1] w fun e w' => ∃ v0_ : Value, e = .returned (v0_) ∧ Kd.R k38 38 w' w.heap.size (fun _ => True) v0_ r ∧ Below w.heap.size w w' := by
 have hu38 := Try.underlying38
 have HR0 := am hr0
 have HC0 := am hc0
 clear hr0 hc0
 have HR1 := am hr1
 have HC1 := am hc1
 clear hr1 hc1
 have HB := am (Below.refl w.heap.size w)
 have H : (spec_l01Chosen.l0 k l0 l1 (([] : List (S38))) 0) = some r := h
 clear h
 obtain ⟨y235, hy235⟩ : ∃ y_ : List (S38), y_ = (([] : List (S38))) := ⟨_, rfl⟩
 replace H : (spec_l01Chosen.l0 k l0 l1 y235 0) = some r := by first | (rw [hy235]; with_reducible exact H) | (have H2_ := (Option.bind_some _ _).symm.trans H; rw [hy235]; with_reducible exact H2_) | (have H2_ := (Option.bind_some _ _).symm.trans H; with_reducible exact H2_) | with_reducible exact H | (rw [hy235]; exact H) | exact H
 have Ny235 := am hy235
 clear hy235
 have H' := am H
 clear H
 go_enter Try.func133, Try.ntmps133
 go_wp2_with (first | ((with_reducible refine gate_dst (N := 7) rfl ?_); refine Kd.R_lit k38 _ 38 ?hg (N := 7) ?hd (xs := ([] : List (S38))) (inner := []) (ok := fun _ => True) (okp := fun _ => True) ?hr ?hp (fun _ hk => hk) trivial (Below.refl _ _) (Nat.le_refl _) (by simp) ?_; (case hd => rfl); (case hg => rfl); (case hr => first | (go_simp; done) | (go_simp; rfl)); (case hp => exact (Reps.none _ _)); intro v236 w3 ho4 hb hg_ hnew_; clear hg_ hnew_; (first | rw [← Ny235.out] at ho4 | (simp only [Int.reduceToNat] at ho4; rw [← Ny235.out] at ho4)); have HO237 := am (Kd.R_lower ho4 (below_size (be HB))); replace HB := am (below_step (be HB) hb); clear hb ho4))
 go_loopg [5, 6] k (fun kq v5 v6 w' => ∃ (x5_1 : List (S38)) (x6_1 : Int), v6 = .int .i64 x6_1 ∧ Aside0 (spec_l01Chosen.l0 kq l0 l1 x5_1 x6_1 = some r) ∧ Aside0 (kq ≤ k) ∧ Aside0 (Kd.R k38 38 w' w.heap.size (fun _ => True) v5 x5_1) ∧ Aside0 (Below w.heap.size w w'))
 case atStart => exact ⟨(y235), (0), vv, H', ⟨Nat.le_refl _⟩, ⟨kr HO237⟩, ⟨be HB⟩⟩
 case round =>
  clear H'
  try clear c1
  try clear p2
  obtain ⟨x5_1, x6_1, rfl, HA, HK1, HO_5, HB⟩ := hrel
  cases gk with
  | zero => exact absurd HA.out (by simp [spec_l01Chosen.l0])
  | succ k1 =>
   have H := HA.out
   clear HA
   simp only [spec_l01Chosen.l0] at H
   by_cases c5 : x6_1 < (l1.length : Int)
   ·rw [if_pos c5] at H
    have c5b0 : decide (x6_1 < (l1.length : Int)) = true := decide_eq_true c5
    clear c5
    by_cases c6 : 0 ≤ x6_1
    ·rw [if_pos c6] at H
     have c6b0 : decide (0 ≤ x6_1) = true := decide_eq_true c6
     have c6b1 : 0 ≤ x6_1 := c6
     clear c6
     by_cases c7 : 0 ≤ (rd l1 x6_1)
     ·rw [if_pos c7] at H
      have c7b0 : decide (0 ≤ (rd l1 x6_1)) = true := decide_eq_true c7
      have c7b1 : 0 ≤ (rd l1 x6_1) := c7
      clear c7
      by_cases c8 : (rd l1 x6_1) < (l0.length : Int)
      ·rw [if_pos c8] at H
       have c8b0 : decide ((rd l1 x6_1) < (l0.length : Int)) = true := decide_eq_true c8
       clear c8
       by_cases c9 : x5_1.length < 23456248059221
       ·rw [if_pos c9] at H
        have LMc9 := am c9
        clear c9
        obtain ⟨y240, hy240⟩ : ∃ y_ : List (S38), y_ = (x5_1 ++ [(⟨(⟨(rd_T38 l0 (rd l1 x6_1)).f0.f0, (rd_T38 l0 (rd l1 x6_1)).f0.f1⟩ : S36), (rd_T38 l0 (rd l1 x6_1)).f1, (rd_T38 l0 (rd l1 x6_1)).f2, (rd_T38 l0 (rd l1 x6_1)).f3, (rd_T38 l0 (rd l1 x6_1)).f4⟩ : S38)]) := ⟨_, rfl⟩
        replace H : (spec_l01Chosen.l0 k1 l0 l1 y240 (wrap64 (x6_1 + 1))) = some r := by first | (rw [hy240]; with_reducible exact H) | (have H2_ := (Option.bind_some _ _).symm.trans H; rw [hy240]; with_reducible exact H2_) | (have H2_ := (Option.bind_some _ _).symm.trans H; with_reducible exact H2_) | with_reducible exact H | (rw [hy240]; exact H) | exact H
        have Ny240 := am hy240
        clear hy240
        have H' := am H
        clear H
        have p238 : 0 ≤ (x6_1 : Int) := of_decide_eq_true (by first | (with_reducible assumption) | assumption)
        have q238 : x6_1 < (l1.length : Int) := of_decide_eq_true (by first | (with_reducible assumption) | assumption)
        obtain ⟨ad238, e238, hx238_0⟩ := Kd.at_int HR1.out x6_1 p238 q238
        cases e238
        replace hx238_0 := (HB.out.cell (World.block_lt_of_cell? w _ hx238_0)).trans hx238_0
        replace p238 := eq_true p238
        replace q238 := eq_true q238
        have p239 : 0 ≤ ((rd l1 x6_1) : Int) := of_decide_eq_true (by first | (with_reducible assumption) | assumption)
        have q239 : (rd l1 x6_1) < (l0.length : Int) := of_decide_eq_true (by first | (with_reducible assumption) | assumption)
        obtain ⟨ad239, e239, hx239_0, hx239_1, hx239_2, hx239_3, hx239_4, hx239_5⟩ := at_T38 HR0.out (rd l1 x6_1) p239 q239
        cases e239
        replace hx239_0 := (HB.out.cell (World.block_lt_of_cell? w _ hx239_0)).trans hx239_0
        replace hx239_1 := (HB.out.cell (World.block_lt_of_cell? w _ hx239_1)).trans hx239_1
        replace hx239_2 := (HB.out.cell (World.block_lt_of_cell? w _ hx239_2)).trans hx239_2
        replace hx239_3 := (HB.out.cell (World.block_lt_of_cell? w _ hx239_3)).trans hx239_3
        replace hx239_4 := (HB.out.cell (World.block_lt_of_cell? w _ hx239_4)).trans hx239_4
        replace hx239_5 := (HB.out.cell (World.block_lt_of_cell? w _ hx239_5)).trans hx239_5
        replace p239 := eq_true p239
        replace q239 := eq_true q239
        go_wp2_with (first | ((with_reducible refine gate_builtin (b := .append) (xs := #[.tmp 14, .tmp 22]) rfl ?_); at_builtin; refine Kd.R_append k38 (w0 := w) w.heap.size rfl (.tmp 14) (.tmp 22) 44 38 (.agg #[(.int .i8 0), (.int .i8 0), (.int .i8 0), (.int .i8 0), (.int .i8 0), (.int .i8 0)]) 6 rfl Try.underlying44 info38 rfl (by decide) (by omega) u5 x5_1 (⟨(⟨(rd_T38 l0 (rd l1 x6_1)).f0.f0, (rd_T38 l0 (rd l1 x6_1)).f0.f1⟩ : S36), (rd_T38 l0 (rd l1 x6_1)).f1, (rd_T38 l0 (rd l1 x6_1)).f2, (rd_T38 l0 (rd l1 x6_1)).f3, (rd_T38 l0 (rd l1 x6_1)).f4⟩ : S38) [.int .i8 ((rd_T38 l0 (rd l1 x6_1)).f0.f0), .int .i8 ((rd_T38 l0 (rd l1 x6_1)).f0.f1), .int .i8 ((rd_T38 l0 (rd l1 x6_1)).f1), .int .i8 ((rd_T38 l0 (rd l1 x6_1)).f2), .int .i8 ((rd_T38 l0 (rd l1 x6_1)).f3), .int .i8 ((rd_T38 l0 (rd l1 x6_1)).f4)] (fun _ => True) (fun _ => False) rfl rfl ?aP (fun _ hk => hk.elim) ?aF ?aO ?aB ?aS ?aL ?_; (case aP => exact k38_mkM _ _ _ (⟨(⟨(rd_T38 l0 (rd l1 x6_1)).f0.f0, (rd_T38 l0 (rd l1 x6_1)).f0.f1⟩ : S36), (rd_T38 l0 (rd l1 x6_1)).f1, (rd_T38 l0 (rd l1 x6_1)).f2, (rd_T38 l0 (rd l1 x6_1)).f3, (rd_T38 l0 (rd l1 x6_1)).f4⟩ : S38)); (case aB => exact (be HB)); (case aF => exact (fun _ _ => trivial)); (case aO => exact (kr HO_5)); (case aS => exact (below_size (be HB))); (case aL => have := LMc9.out; omega); intro v241 w10 ho hb hg hat; rw [← Ny240.out] at ho; have HO242 := am (ho); replace HB := am (hb); clear HO_5; clear ho hb hg hat))
        go_roundg k1
        case measure => have := HK1.out; omega
        case rel => exact ⟨(y240), (wrap64 (x6_1 + 1)), vv, H', ⟨by have := HK1.out; omega⟩, ⟨kr HO242⟩, ⟨be HB⟩⟩
       ·rw [if_neg c9] at H
        exact absurd H (by simp)
      ·rw [if_neg c8] at H
       exact absurd H (by simp)
     ·rw [if_neg c7] at H
      exact absurd H (by simp)
    ·rw [if_neg c6] at H
     exact absurd H (by simp)
   ·rw [if_neg c5] at H
    have c5b0 : decide (x6_1 < (l1.length : Int)) = false := decide_eq_false c5
    clear c5
    obtain rfl := Option.some.inj H
    go_wp2
    go_ret
    exact ⟨_, by first | rfl | (simp [errW_none, errW_some] <;> rfl) | (simp [*, errW_none, errW_some] <;> rfl), by (with_reducible repeat (first | apply Kd.R_alloc | apply Kd.R_drewN | apply Kd.R_drew)); exact HO_5.out, be HB⟩

end Go.Proofs.Ytcollbifdfhfoaa.PFnExactGreedyBoats
