-- Written by a program out of this seat's translation (functions, and that the code comes to them).
import Derived.Test.YtigafbmdedjgdaaPFnExactMostBoatsx0
import Derived.Test.YtigafbmdedjgdaaPFnExactMostBoatsx1
import Derived.Test.YtigafbmdedjgdaaPFnExactMostBoatsx2
import Derived.Test.YtigafbmdedjgdaaPFnExactMostBoatsx3
import Derived.Test.YtigafbmdedjgdaaPFnExactMostBoatsx4
namespace Go.Proofs.Ytigafbmdedjgdaa.PFnExactMostBoats
open Go.RowKit Go.Proofs.YtigafbmdedjgdaaW.PrintWords Go.Proofs.YtigafbmdedjgdaaW.PrintLast Go.Proofs.YtigafbmdedjgdaaW.PrintMore
attribute [local go_sem] max2_int min2_int max_two min_two max_three min_three max_four min_four   -- for this text's walks alone
open Go.Proofs.Ytigafbmdedjgdaa.Bay Go.Proofs.Ytigafbmdedjgdaa.Short
attribute [local go_sem ↓] lv26_eq lv32_eq
attribute [local go_sem] lvv_set lvv_drewN lvv_drew lv26_run BayAt26_set BayAt26_drewN BayAt26_drew lv32_run BayAt32_set BayAt32_drewN BayAt32_drew
set_option linter.unusedVariables false
set_option linter.unusedSimpArgs false

attribute [local go_sem high] eqA46
/-! ### spec_l01Safe: function 36 -/
def spec_l01Safe.f (k : Nat) (s0_0 : Int) (s0_1 : Int) (s0_2 : (Nat → Int)) (a1_0 : Int) (a1_1 : Int) (a1_2 : Int) (a1_3 : Int) (a1_4 : Int) (a1_5 : Int) : Option (Bool × Int × Int × (Nat → Int)) := (spec_l01Reach.f k s0_0 s0_1 s0_2 a1_0 a1_1 a1_2 a1_3 a1_4 a1_5).bind fun bt169 => (if bt169.1 < 0 then (some (false, bt169.2.1, bt169.2.2.1, bt169.2.2.2)) else (if (wrap64 (a1_0)) < (wrap64 (bt169.1 + (wrap64 (a1_3)))) then (some (false, bt169.2.1, bt169.2.2.1, bt169.2.2.2)) else (if (wrap64 (a1_1)) < (wrap64 (bt169.1 + (wrap64 (a1_3)))) then (some (false, bt169.2.1, bt169.2.2.1, bt169.2.2.2)) else (if (wrap64 ((wrap64 (a1_0)) + (wrap64 (bt169.1 + (wrap64 (a1_3)))))) ≥ (wrap64 (bt169.2.1)) then (some (false, bt169.2.1, bt169.2.2.1, bt169.2.2.2)) else (if (wrap64 ((wrap64 (a1_1)) + (wrap64 (bt169.1 + (wrap64 (a1_3)))))) ≥ (wrap64 (bt169.2.2.1)) then (some (false, bt169.2.1, bt169.2.2.1, bt169.2.2.2)) else ((spec_l01Over.f k bt169.2.1 bt169.2.2.1 bt169.2.2.2 a1_0 a1_1 (wrap64 (bt169.1 + (wrap64 (a1_3)))) (wrap64 (a1_4))).bind fun bt173 => (some (((bt173.1.length : Int) == 0), bt173.2.1, bt173.2.2.1, bt173.2.2.2))))))))
set_option maxHeartbeats 8000000 in
set_option maxRecDepth 100000 in
theorem spec_l01Safe.calls (k : Nat) (g : Nat) (s0_0 : Int) (s0_1 : Int) (s0_2 : (Nat → Int)) (a1_0 : Int) (a1_1 : Int) (a1_2 : Int) (a1_3 : Int) (a1_4 : Int) (a1_5 : Int) (r1 : Bool) (r2 : Int) (r3 : Int) (r4 : (Nat → Int)) (w0 w : World) (hI : IsS32 w0 w g s0_0 s0_1 s0_2) (hB : Below w0.heap.size w0 w) (h : spec_l01Safe.f k s0_0 s0_1 s0_2 a1_0 a1_1 a1_2 a1_3 a1_4 a1_5 = some (r1, r2, r3, r4)) :
  Calls Try.prog 36 #[.pointer (some ⟨g, 0, none⟩), .agg #[.int .i8 a1_0, .int .i8 a1_1, .int .i8 a1_2, .int .i8 a1_3, .int .i8 a1_4, .int .i8 a1_5]] w fun e w' => e = .returned (.bool r1) ∧ IsS32 w0 w' g r2 r3 r4 ∧ Below w0.heap.size w0 w' ∧ KeepBut w w' g none := by
 have hu48 := Try.underlying48
 have hu46 := Try.underlying46
 have HI0 := am hI
 have HK := am (KeepBut.refl w g none)
 have HL := am hB.size
 clear hI
 have HW0 := am hB.size
 have HB := am hB
 clear hB
 have H : ((spec_l01Reach.f k s0_0 s0_1 s0_2 a1_0 a1_1 a1_2 a1_3 a1_4 a1_5).bind fun bt169 => (if bt169.1 < 0 then (some (false, bt169.2.1, bt169.2.2.1, bt169.2.2.2)) else (if (wrap64 (a1_0)) < (wrap64 (bt169.1 + (wrap64 (a1_3)))) then (some (false, bt169.2.1, bt169.2.2.1, bt169.2.2.2)) else (if (wrap64 (a1_1)) < (wrap64 (bt169.1 + (wrap64 (a1_3)))) then (some (false, bt169.2.1, bt169.2.2.1, bt169.2.2.2)) else (if (wrap64 ((wrap64 (a1_0)) + (wrap64 (bt169.1 + (wrap64 (a1_3)))))) ≥ (wrap64 (bt169.2.1)) then (some (false, bt169.2.1, bt169.2.2.1, bt169.2.2.2)) else (if (wrap64 ((wrap64 (a1_1)) + (wrap64 (bt169.1 + (wrap64 (a1_3)))))) ≥ (wrap64 (bt169.2.2.1)) then (some (false, bt169.2.1, bt169.2.2.1, bt169.2.2.2)) else ((spec_l01Over.f k bt169.2.1 bt169.2.2.1 bt169.2.2.2 a1_0 a1_1 (wrap64 (bt169.1 + (wrap64 (a1_3)))) (wrap64 (a1_4))).bind fun bt173 => (some (((bt173.1.length : Int) == 0), bt173.2.1, bt173.2.2.1, bt173.2.2.2))))))))) = some (r1, r2, r3, r4) := h
 clear h
 replace H := Option.bind_eq_some_iff.mp H
 obtain ⟨⟨t169, t170, t171, t172⟩, A30, H⟩ := H
 try dsimp only at H
 have A3 := am A30
 clear A30
 by_cases c4 : t169 < 0
 ·rw [if_pos c4] at H
  have c4b0 : decide (t169 < 0) = true := decide_eq_true c4
  clear c4
  simp only [Option.some.injEq, Prod.mk.injEq] at H
  obtain ⟨rfl, rfl, rfl, rfl⟩ := H
  go_enter Try.func36, Try.ntmps36
  go_wp2_with (first | ((with_reducible refine gate_dst (N := 3) rfl ?_); refine bxe (N := 3) (cs := #[.int .i8 a1_0, .int .i8 a1_1, .int .i8 a1_2, .int .i8 a1_3, .int .i8 a1_4, .int .i8 a1_5]) (t := 48) ?_; intro gb168 hg w5 hbox hb; have BK168 := am (hbox); have GW168 := am (gN hg (keep_size (w := w) (g := g) (row := none) (ke HK))); have GE168 := am (Nat.le_trans HW0.out (gN hg (keep_size (w := w) (g := g) (row := none) (ke HK)))); have NB0_168 := am (nLi hg (IsS32.lt (show IsS32 w0 _ g s0_0 s0_1 s0_2 from si32 HI0))); have NB168_0 := am (nRi hg (IsS32.lt (show IsS32 w0 _ g s0_0 s0_1 s0_2 from si32 HI0))); replace HI0 := am (IsS32.below (si32 HI0) hb); replace HK := am (KeepBut.trans (ke HK) (KeepBut.of_below hb g none) (.inl rfl)); replace HB := am (below_step (be HB) hb); clear hb hbox hg; have hnb6 := NB168_0.out; have hnc6 := NB0_168.out; obtain ⟨hcz7_0, hcz7_1, hcz7_2, hcz7_3, hcz7_4, hcz7_5, hfz7_0, hfz7_1, hfz7_2, hfz7_3, hfz7_4, hfz7_5⟩ := bx6 BK168) | ((with_reducible refine gate_callee (f := 43) rfl ?_); refine gL (some 11) Try.func43 #[.pointer (some ⟨g, 0, none⟩), .agg #[.int .i8 a1_0, .int .i8 a1_1, .int .i8 a1_2, .int .i8 a1_3, .int .i8 a1_4, .int .i8 a1_5]] ?_; (with_reducible refine (spec_l01Reach.calls k g s0_0 s0_1 s0_2 a1_0 a1_1 a1_2 a1_3 a1_4 a1_5 t169 t170 t171 t172 w0 _ ?side1 ?side2 A3.out).mono ?_); (case side1 => exact si32 HI0); (case side2 => exact be HB); rintro e w8 ⟨rfl, hi, hb, hk⟩; refine ⟨_, rfl, ?_⟩; replace BK168 := am (KeepBut.blk hk (g' := gb168) (o := .cells #[.int .i8 a1_0, .int .i8 a1_1, .int .i8 a1_2, .int .i8 a1_3, .int .i8 a1_4, .int .i8 a1_5] 48 (0, 0)) (kb BK168) NB168_0.out (by simp)); replace HK := am (KeepBut.trans (ke HK) hk (.inl rfl)); replace HB := am (hb); replace HI0 := am (hi); (try clear hb); (try clear hb2); (try clear hk); (try clear hi)))
  go_ret
  exact ⟨by first | rfl | (simp [errW_none, errW_some] <;> rfl) | (simp [*, errW_none, errW_some] <;> rfl), si32 HI0, be HB, ke HK⟩
 ·rw [if_neg c4] at H
  have c4b0 : decide (t169 < 0) = false := decide_eq_false c4
  clear c4
  by_cases c9 : (wrap64 (a1_0)) < (wrap64 (t169 + (wrap64 (a1_3))))
  ·rw [if_pos c9] at H
   have c9b0 : decide ((wrap64 (a1_0)) < (wrap64 (t169 + (wrap64 (a1_3))))) = true := decide_eq_true c9
   clear c9
   simp only [Option.some.injEq, Prod.mk.injEq] at H
   obtain ⟨rfl, rfl, rfl, rfl⟩ := H
   go_enter Try.func36, Try.ntmps36
   go_wp2_with (first | ((with_reducible refine gate_dst (N := 3) rfl ?_); refine bxe (N := 3) (cs := #[.int .i8 a1_0, .int .i8 a1_1, .int .i8 a1_2, .int .i8 a1_3, .int .i8 a1_4, .int .i8 a1_5]) (t := 48) ?_; intro gb168 hg w10 hbox hb; have BK168 := am (hbox); have GW168 := am (gN hg (keep_size (w := w) (g := g) (row := none) (ke HK))); have GE168 := am (Nat.le_trans HW0.out (gN hg (keep_size (w := w) (g := g) (row := none) (ke HK)))); have NB0_168 := am (nLi hg (IsS32.lt (show IsS32 w0 _ g s0_0 s0_1 s0_2 from si32 HI0))); have NB168_0 := am (nRi hg (IsS32.lt (show IsS32 w0 _ g s0_0 s0_1 s0_2 from si32 HI0))); replace HI0 := am (IsS32.below (si32 HI0) hb); replace HK := am (KeepBut.trans (ke HK) (KeepBut.of_below hb g none) (.inl rfl)); replace HB := am (below_step (be HB) hb); clear hb hbox hg; have hnb11 := NB168_0.out; have hnc11 := NB0_168.out; obtain ⟨hcz12_0, hcz12_1, hcz12_2, hcz12_3, hcz12_4, hcz12_5, hfz12_0, hfz12_1, hfz12_2, hfz12_3, hfz12_4, hfz12_5⟩ := bx6 BK168) | ((with_reducible refine gate_callee (f := 43) rfl ?_); refine gL (some 11) Try.func43 #[.pointer (some ⟨g, 0, none⟩), .agg #[.int .i8 a1_0, .int .i8 a1_1, .int .i8 a1_2, .int .i8 a1_3, .int .i8 a1_4, .int .i8 a1_5]] ?_; (with_reducible refine (spec_l01Reach.calls k g s0_0 s0_1 s0_2 a1_0 a1_1 a1_2 a1_3 a1_4 a1_5 t169 t170 t171 t172 w0 _ ?side1 ?side2 A3.out).mono ?_); (case side1 => exact si32 HI0); (case side2 => exact be HB); rintro e w13 ⟨rfl, hi, hb, hk⟩; refine ⟨_, rfl, ?_⟩; replace BK168 := am (KeepBut.blk hk (g' := gb168) (o := .cells #[.int .i8 a1_0, .int .i8 a1_1, .int .i8 a1_2, .int .i8 a1_3, .int .i8 a1_4, .int .i8 a1_5] 48 (0, 0)) (kb BK168) NB168_0.out (by simp)); replace HK := am (KeepBut.trans (ke HK) hk (.inl rfl)); replace HB := am (hb); replace HI0 := am (hi); (try clear hb); (try clear hb2); (try clear hk); (try clear hi); obtain ⟨hcz14_0, hcz14_1, hcz14_2, hcz14_3, hcz14_4, hcz14_5, hfz14_0, hfz14_1, hfz14_2, hfz14_3, hfz14_4, hfz14_5⟩ := bx6 BK168))
   go_ret
   exact ⟨by first | rfl | (simp [errW_none, errW_some] <;> rfl) | (simp [*, errW_none, errW_some] <;> rfl), si32 HI0, be HB, ke HK⟩
  ·rw [if_neg c9] at H
   have c9b0 : decide ((wrap64 (a1_0)) < (wrap64 (t169 + (wrap64 (a1_3))))) = false := decide_eq_false c9
   clear c9
   by_cases c15 : (wrap64 (a1_1)) < (wrap64 (t169 + (wrap64 (a1_3))))
   ·rw [if_pos c15] at H
    have c15b0 : decide ((wrap64 (a1_1)) < (wrap64 (t169 + (wrap64 (a1_3))))) = true := decide_eq_true c15
    clear c15
    simp only [Option.some.injEq, Prod.mk.injEq] at H
    obtain ⟨rfl, rfl, rfl, rfl⟩ := H
    go_enter Try.func36, Try.ntmps36
    go_wp2_with (first | ((with_reducible refine gate_dst (N := 3) rfl ?_); refine bxe (N := 3) (cs := #[.int .i8 a1_0, .int .i8 a1_1, .int .i8 a1_2, .int .i8 a1_3, .int .i8 a1_4, .int .i8 a1_5]) (t := 48) ?_; intro gb168 hg w16 hbox hb; have BK168 := am (hbox); have GW168 := am (gN hg (keep_size (w := w) (g := g) (row := none) (ke HK))); have GE168 := am (Nat.le_trans HW0.out (gN hg (keep_size (w := w) (g := g) (row := none) (ke HK)))); have NB0_168 := am (nLi hg (IsS32.lt (show IsS32 w0 _ g s0_0 s0_1 s0_2 from si32 HI0))); have NB168_0 := am (nRi hg (IsS32.lt (show IsS32 w0 _ g s0_0 s0_1 s0_2 from si32 HI0))); replace HI0 := am (IsS32.below (si32 HI0) hb); replace HK := am (KeepBut.trans (ke HK) (KeepBut.of_below hb g none) (.inl rfl)); replace HB := am (below_step (be HB) hb); clear hb hbox hg; have hnb17 := NB168_0.out; have hnc17 := NB0_168.out; obtain ⟨hcz18_0, hcz18_1, hcz18_2, hcz18_3, hcz18_4, hcz18_5, hfz18_0, hfz18_1, hfz18_2, hfz18_3, hfz18_4, hfz18_5⟩ := bx6 BK168) | ((with_reducible refine gate_callee (f := 43) rfl ?_); refine gL (some 11) Try.func43 #[.pointer (some ⟨g, 0, none⟩), .agg #[.int .i8 a1_0, .int .i8 a1_1, .int .i8 a1_2, .int .i8 a1_3, .int .i8 a1_4, .int .i8 a1_5]] ?_; (with_reducible refine (spec_l01Reach.calls k g s0_0 s0_1 s0_2 a1_0 a1_1 a1_2 a1_3 a1_4 a1_5 t169 t170 t171 t172 w0 _ ?side1 ?side2 A3.out).mono ?_); (case side1 => exact si32 HI0); (case side2 => exact be HB); rintro e w19 ⟨rfl, hi, hb, hk⟩; refine ⟨_, rfl, ?_⟩; replace BK168 := am (KeepBut.blk hk (g' := gb168) (o := .cells #[.int .i8 a1_0, .int .i8 a1_1, .int .i8 a1_2, .int .i8 a1_3, .int .i8 a1_4, .int .i8 a1_5] 48 (0, 0)) (kb BK168) NB168_0.out (by simp)); replace HK := am (KeepBut.trans (ke HK) hk (.inl rfl)); replace HB := am (hb); replace HI0 := am (hi); (try clear hb); (try clear hb2); (try clear hk); (try clear hi); obtain ⟨hcz20_0, hcz20_1, hcz20_2, hcz20_3, hcz20_4, hcz20_5, hfz20_0, hfz20_1, hfz20_2, hfz20_3, hfz20_4, hfz20_5⟩ := bx6 BK168))
    go_ret
    exact ⟨by first | rfl | (simp [errW_none, errW_some] <;> rfl) | (simp [*, errW_none, errW_some] <;> rfl), si32 HI0, be HB, ke HK⟩
   ·rw [if_neg c15] at H
    have c15b0 : decide ((wrap64 (a1_1)) < (wrap64 (t169 + (wrap64 (a1_3))))) = false := decide_eq_false c15
    clear c15
    by_cases c21 : (wrap64 ((wrap64 (a1_0)) + (wrap64 (t169 + (wrap64 (a1_3)))))) ≥ (wrap64 (t170))
    ·rw [if_pos c21] at H
     have c21b0 : decide ((wrap64 (t170)) ≤ (wrap64 ((wrap64 (a1_0)) + (wrap64 (t169 + (wrap64 (a1_3))))))) = true := decide_eq_true c21
     clear c21
     simp only [Option.some.injEq, Prod.mk.injEq] at H
     obtain ⟨rfl, rfl, rfl, rfl⟩ := H
     go_enter Try.func36, Try.ntmps36
     go_wp2_with (first | ((with_reducible refine gate_dst (N := 3) rfl ?_); refine bxe (N := 3) (cs := #[.int .i8 a1_0, .int .i8 a1_1, .int .i8 a1_2, .int .i8 a1_3, .int .i8 a1_4, .int .i8 a1_5]) (t := 48) ?_; intro gb168 hg w22 hbox hb; have BK168 := am (hbox); have GW168 := am (gN hg (keep_size (w := w) (g := g) (row := none) (ke HK))); have GE168 := am (Nat.le_trans HW0.out (gN hg (keep_size (w := w) (g := g) (row := none) (ke HK)))); have NB0_168 := am (nLi hg (IsS32.lt (show IsS32 w0 _ g s0_0 s0_1 s0_2 from si32 HI0))); have NB168_0 := am (nRi hg (IsS32.lt (show IsS32 w0 _ g s0_0 s0_1 s0_2 from si32 HI0))); replace HI0 := am (IsS32.below (si32 HI0) hb); replace HK := am (KeepBut.trans (ke HK) (KeepBut.of_below hb g none) (.inl rfl)); replace HB := am (below_step (be HB) hb); clear hb hbox hg; have hnb23 := NB168_0.out; have hnc23 := NB0_168.out; obtain ⟨hcz24_0, hcz24_1, hcz24_2, hcz24_3, hcz24_4, hcz24_5, hfz24_0, hfz24_1, hfz24_2, hfz24_3, hfz24_4, hfz24_5⟩ := bx6 BK168) | ((with_reducible refine gate_callee (f := 43) rfl ?_); refine gL (some 11) Try.func43 #[.pointer (some ⟨g, 0, none⟩), .agg #[.int .i8 a1_0, .int .i8 a1_1, .int .i8 a1_2, .int .i8 a1_3, .int .i8 a1_4, .int .i8 a1_5]] ?_; (with_reducible refine (spec_l01Reach.calls k g s0_0 s0_1 s0_2 a1_0 a1_1 a1_2 a1_3 a1_4 a1_5 t169 t170 t171 t172 w0 _ ?side1 ?side2 A3.out).mono ?_); (case side1 => exact si32 HI0); (case side2 => exact be HB); rintro e w25 ⟨rfl, hi, hb, hk⟩; refine ⟨_, rfl, ?_⟩; replace BK168 := am (KeepBut.blk hk (g' := gb168) (o := .cells #[.int .i8 a1_0, .int .i8 a1_1, .int .i8 a1_2, .int .i8 a1_3, .int .i8 a1_4, .int .i8 a1_5] 48 (0, 0)) (kb BK168) NB168_0.out (by simp)); replace HK := am (KeepBut.trans (ke HK) hk (.inl rfl)); replace HB := am (hb); replace HI0 := am (hi); (try clear hb); (try clear hb2); (try clear hk); (try clear hi); obtain ⟨hcz26_0, hcz26_1, hcz26_2, hcz26_3, hcz26_4, hcz26_5, hfz26_0, hfz26_1, hfz26_2, hfz26_3, hfz26_4, hfz26_5⟩ := bx6 BK168; obtain ⟨HGz27, hgz27⟩ := HI0.out; have hcz27_0 := cellS32_0 HGz27; have hcz27_1 := cellS32_1 HGz27; have hwz27 := lv32_at HGz27; have haz27 := at_cells HGz27; have hyz27 := BayAt32_of HGz27; have hvz27 := lvv_of HGz27; have hfz27_0 := blk_frozen HGz27 0; have hfz27_1 := blk_frozen HGz27 1; have hfz27_2 := blk_frozen HGz27 2; clear HGz27 hgz27))
     go_ret
     exact ⟨by first | rfl | (simp [errW_none, errW_some] <;> rfl) | (simp [*, errW_none, errW_some] <;> rfl), si32 HI0, be HB, ke HK⟩
    ·rw [if_neg c21] at H
     have c21b0 : decide ((wrap64 (t170)) ≤ (wrap64 ((wrap64 (a1_0)) + (wrap64 (t169 + (wrap64 (a1_3))))))) = false := decide_eq_false c21
     clear c21
     by_cases c28 : (wrap64 ((wrap64 (a1_1)) + (wrap64 (t169 + (wrap64 (a1_3)))))) ≥ (wrap64 (t171))
     ·rw [if_pos c28] at H
      have c28b0 : decide ((wrap64 (t171)) ≤ (wrap64 ((wrap64 (a1_1)) + (wrap64 (t169 + (wrap64 (a1_3))))))) = true := decide_eq_true c28
      clear c28
      simp only [Option.some.injEq, Prod.mk.injEq] at H
      obtain ⟨rfl, rfl, rfl, rfl⟩ := H
      go_enter Try.func36, Try.ntmps36
      go_wp2_with (first | ((with_reducible refine gate_dst (N := 3) rfl ?_); refine bxe (N := 3) (cs := #[.int .i8 a1_0, .int .i8 a1_1, .int .i8 a1_2, .int .i8 a1_3, .int .i8 a1_4, .int .i8 a1_5]) (t := 48) ?_; intro gb168 hg w29 hbox hb; have BK168 := am (hbox); have GW168 := am (gN hg (keep_size (w := w) (g := g) (row := none) (ke HK))); have GE168 := am (Nat.le_trans HW0.out (gN hg (keep_size (w := w) (g := g) (row := none) (ke HK)))); have NB0_168 := am (nLi hg (IsS32.lt (show IsS32 w0 _ g s0_0 s0_1 s0_2 from si32 HI0))); have NB168_0 := am (nRi hg (IsS32.lt (show IsS32 w0 _ g s0_0 s0_1 s0_2 from si32 HI0))); replace HI0 := am (IsS32.below (si32 HI0) hb); replace HK := am (KeepBut.trans (ke HK) (KeepBut.of_below hb g none) (.inl rfl)); replace HB := am (below_step (be HB) hb); clear hb hbox hg; have hnb30 := NB168_0.out; have hnc30 := NB0_168.out; obtain ⟨hcz31_0, hcz31_1, hcz31_2, hcz31_3, hcz31_4, hcz31_5, hfz31_0, hfz31_1, hfz31_2, hfz31_3, hfz31_4, hfz31_5⟩ := bx6 BK168) | ((with_reducible refine gate_callee (f := 43) rfl ?_); refine gL (some 11) Try.func43 #[.pointer (some ⟨g, 0, none⟩), .agg #[.int .i8 a1_0, .int .i8 a1_1, .int .i8 a1_2, .int .i8 a1_3, .int .i8 a1_4, .int .i8 a1_5]] ?_; (with_reducible refine (spec_l01Reach.calls k g s0_0 s0_1 s0_2 a1_0 a1_1 a1_2 a1_3 a1_4 a1_5 t169 t170 t171 t172 w0 _ ?side1 ?side2 A3.out).mono ?_); (case side1 => exact si32 HI0); (case side2 => exact be HB); rintro e w32 ⟨rfl, hi, hb, hk⟩; refine ⟨_, rfl, ?_⟩; replace BK168 := am (KeepBut.blk hk (g' := gb168) (o := .cells #[.int .i8 a1_0, .int .i8 a1_1, .int .i8 a1_2, .int .i8 a1_3, .int .i8 a1_4, .int .i8 a1_5] 48 (0, 0)) (kb BK168) NB168_0.out (by simp)); replace HK := am (KeepBut.trans (ke HK) hk (.inl rfl)); replace HB := am (hb); replace HI0 := am (hi); (try clear hb); (try clear hb2); (try clear hk); (try clear hi); obtain ⟨hcz33_0, hcz33_1, hcz33_2, hcz33_3, hcz33_4, hcz33_5, hfz33_0, hfz33_1, hfz33_2, hfz33_3, hfz33_4, hfz33_5⟩ := bx6 BK168; obtain ⟨HGz34, hgz34⟩ := HI0.out; have hcz34_0 := cellS32_0 HGz34; have hcz34_1 := cellS32_1 HGz34; have hwz34 := lv32_at HGz34; have haz34 := at_cells HGz34; have hyz34 := BayAt32_of HGz34; have hvz34 := lvv_of HGz34; have hfz34_0 := blk_frozen HGz34 0; have hfz34_1 := blk_frozen HGz34 1; have hfz34_2 := blk_frozen HGz34 2; clear HGz34 hgz34))
      go_ret
      exact ⟨by first | rfl | (simp [errW_none, errW_some] <;> rfl) | (simp [*, errW_none, errW_some] <;> rfl), si32 HI0, be HB, ke HK⟩
     ·rw [if_neg c28] at H
      have c28b0 : decide ((wrap64 (t171)) ≤ (wrap64 ((wrap64 (a1_1)) + (wrap64 (t169 + (wrap64 (a1_3))))))) = false := decide_eq_false c28
      clear c28
      replace H := Option.bind_eq_some_iff.mp H
      obtain ⟨⟨t173, t176, t177, t178⟩, A350, H⟩ := H
      try dsimp only at H
      have A35 := am A350
      clear A350
      simp only [Option.some.injEq, Prod.mk.injEq] at H
      obtain ⟨rfl, rfl, rfl, rfl⟩ := H
      go_enter Try.func36, Try.ntmps36
      go_wp2_with (first | ((with_reducible refine gate_dst (N := 3) rfl ?_); refine bxe (N := 3) (cs := #[.int .i8 a1_0, .int .i8 a1_1, .int .i8 a1_2, .int .i8 a1_3, .int .i8 a1_4, .int .i8 a1_5]) (t := 48) ?_; intro gb168 hg w36 hbox hb; have BK168 := am (hbox); have GW168 := am (gN hg (keep_size (w := w) (g := g) (row := none) (ke HK))); have GE168 := am (Nat.le_trans HW0.out (gN hg (keep_size (w := w) (g := g) (row := none) (ke HK)))); have NB0_168 := am (nLi hg (IsS32.lt (show IsS32 w0 _ g s0_0 s0_1 s0_2 from si32 HI0))); have NB168_0 := am (nRi hg (IsS32.lt (show IsS32 w0 _ g s0_0 s0_1 s0_2 from si32 HI0))); replace HI0 := am (IsS32.below (si32 HI0) hb); replace HK := am (KeepBut.trans (ke HK) (KeepBut.of_below hb g none) (.inl rfl)); replace HB := am (below_step (be HB) hb); clear hb hbox hg; have hnb37 := NB168_0.out; have hnc37 := NB0_168.out; obtain ⟨hcz38_0, hcz38_1, hcz38_2, hcz38_3, hcz38_4, hcz38_5, hfz38_0, hfz38_1, hfz38_2, hfz38_3, hfz38_4, hfz38_5⟩ := bx6 BK168) | ((with_reducible refine gate_callee (f := 43) rfl ?_); refine gL (some 11) Try.func43 #[.pointer (some ⟨g, 0, none⟩), .agg #[.int .i8 a1_0, .int .i8 a1_1, .int .i8 a1_2, .int .i8 a1_3, .int .i8 a1_4, .int .i8 a1_5]] ?_; (with_reducible refine (spec_l01Reach.calls k g s0_0 s0_1 s0_2 a1_0 a1_1 a1_2 a1_3 a1_4 a1_5 t169 t170 t171 t172 w0 _ ?side1 ?side2 A3.out).mono ?_); (case side1 => exact si32 HI0); (case side2 => exact be HB); rintro e w39 ⟨rfl, hi, hb, hk⟩; refine ⟨_, rfl, ?_⟩; replace BK168 := am (KeepBut.blk hk (g' := gb168) (o := .cells #[.int .i8 a1_0, .int .i8 a1_1, .int .i8 a1_2, .int .i8 a1_3, .int .i8 a1_4, .int .i8 a1_5] 48 (0, 0)) (kb BK168) NB168_0.out (by simp)); replace HK := am (KeepBut.trans (ke HK) hk (.inl rfl)); replace HB := am (hb); replace HI0 := am (hi); (try clear hb); (try clear hb2); (try clear hk); (try clear hi); obtain ⟨hcz40_0, hcz40_1, hcz40_2, hcz40_3, hcz40_4, hcz40_5, hfz40_0, hfz40_1, hfz40_2, hfz40_3, hfz40_4, hfz40_5⟩ := bx6 BK168; obtain ⟨HGz41, hgz41⟩ := HI0.out; have hcz41_0 := cellS32_0 HGz41; have hcz41_1 := cellS32_1 HGz41; have hwz41 := lv32_at HGz41; have haz41 := at_cells HGz41; have hyz41 := BayAt32_of HGz41; have hvz41 := lvv_of HGz41; have hfz41_0 := blk_frozen HGz41 0; have hfz41_1 := blk_frozen HGz41 1; have hfz41_2 := blk_frozen HGz41 2; clear HGz41 hgz41) | ((with_reducible refine gate_callee (f := 44) rfl ?_); refine gL (some 64) Try.func44 #[.pointer (some ⟨g, 0, none⟩), .agg #[.int .i8 a1_0, .int .i8 a1_1], .int .i64 (wrap64 (t169 + (wrap64 (a1_3)))), .int .i64 (wrap64 (a1_4))] ?_; (with_reducible refine (spec_l01Over.calls k g t170 t171 t172 a1_0 a1_1 (wrap64 (t169 + (wrap64 (a1_3)))) (wrap64 (a1_4)) t173 t176 t177 t178 w0 _ ?side1 ?side2 A35.out).mono ?_); (case side1 => exact si32 HI0); (case side2 => exact be HB); rintro e w42 ⟨v174, rfl, ho0, hi, hb, hk⟩; refine ⟨_, rfl, ?_⟩; have HO175 := am (Kd.R_lower ho0 (keep_size (w := w) (g := g) (row := none) (ke HK))); replace BK168 := am (KeepBut.blk hk (g' := gb168) (o := .cells #[.int .i8 a1_0, .int .i8 a1_1, .int .i8 a1_2, .int .i8 a1_3, .int .i8 a1_4, .int .i8 a1_5] 48 (0, 0)) (kb BK168) NB168_0.out (by simp)); replace HK := am (KeepBut.trans (ke HK) hk (.inl rfl)); replace HB := am (hb); replace HI0 := am (hi); (try clear hb); (try clear hb2); (try clear hk); (try clear hi); (try clear ho0); obtain ⟨Ao43, co43, eo43⟩ := Kd.R_slice HO175.out; subst eo43))
      go_ret
      exact ⟨by first | rfl | (simp [errW_none, errW_some] <;> rfl) | (simp [*, errW_none, errW_some] <;> rfl), si32 HI0, be HB, ke HK⟩

/-! ### spec_l01Touch: function 37 -/
def spec_l01Touch.j0 : Nat → Int → Int → Bool → Int → Int → (Nat → Int) → Int → Int → Int → Int → Int → Int → Int → Int → Int → Int → Int → Int → Option (Bool × Int × Int × (Nat → Int))
 | 0, _, _, _, _, _, _, _, _, _, _, _, _, _, _, _, _, _, _ => none
 | k + 1, x7, x8, x26, x1000, x1001, x1002, x180000, x180001, x180002, x180003, x180004, x180005, x181000, x181001, x181002, x181003, x181004, x181005 => if x26 = true then (some (true, x1000, x1001, x1002)) else (if x180005 = x181005 then ((spec_l01Far.f x180000 x180001 x181000 x181001).bind fun t189 => (some (decide (t189 < (wrap64 ((wrap64 ((wrap64 (x180003)) + (wrap64 (x181003)))) * (wrap64 ((wrap64 (x180003)) + (wrap64 (x181003))))))), x1000, x1001, x1002))) else ((spec_l01Far.f x180000 x180001 x181000 x181001).bind fun t190 => (some (decide (t190 < (wrap64 ((wrap64 ((wrap64 ((wrap64 (x180003)) + (wrap64 (x181003)))) + (wrap64 (x7 + x8)))) * (wrap64 ((wrap64 ((wrap64 (x180003)) + (wrap64 (x181003)))) + (wrap64 (x7 + x8))))))), x1000, x1001, x1002))))
def spec_l01Touch.f (k : Nat) (s0_0 : Int) (s0_1 : Int) (s0_2 : (Nat → Int)) (a1_0 : Int) (a1_1 : Int) (a1_2 : Int) (a1_3 : Int) (a1_4 : Int) (a1_5 : Int) (a2_0 : Int) (a2_1 : Int) (a2_2 : Int) (a2_3 : Int) (a2_4 : Int) (a2_5 : Int) : Option (Bool × Int × Int × (Nat → Int)) := if (a1_0 == a2_0 && (a1_1 == a2_1)) = true then (some (true, s0_0, s0_1, s0_2)) else ((spec_l01Reach.f k s0_0 s0_1 s0_2 a1_0 a1_1 a1_2 a1_3 a1_4 a1_5).bind fun bt181 => ((spec_l01Reach.f k bt181.2.1 bt181.2.2.1 bt181.2.2.2 a2_0 a2_1 a2_2 a2_3 a2_4 a2_5).bind fun bt185 => (if bt181.1 < 0 then (spec_l01Touch.j0 k bt181.1 bt185.1 true bt185.2.1 bt185.2.2.1 bt185.2.2.2 a1_0 a1_1 a1_2 a1_3 a1_4 a1_5 a2_0 a2_1 a2_2 a2_3 a2_4 a2_5) else (spec_l01Touch.j0 k bt181.1 bt185.1 (decide (bt185.1 < 0)) bt185.2.1 bt185.2.2.1 bt185.2.2.2 a1_0 a1_1 a1_2 a1_3 a1_4 a1_5 a2_0 a2_1 a2_2 a2_3 a2_4 a2_5))))
set_option maxHeartbeats 8000000 in
set_option maxRecDepth 100000 in
theorem spec_l01Touch.calls (k : Nat) (g : Nat) (s0_0 : Int) (s0_1 : Int) (s0_2 : (Nat → Int)) (a1_0 : Int) (a1_1 : Int) (a1_2 : Int) (a1_3 : Int) (a1_4 : Int) (a1_5 : Int) (a2_0 : Int) (a2_1 : Int) (a2_2 : Int) (a2_3 : Int) (a2_4 : Int) (a2_5 : Int) (r1 : Bool) (r2 : Int) (r3 : Int) (r4 : (Nat → Int)) (w0 w : World) (hI : IsS32 w0 w g s0_0 s0_1 s0_2) (hB : Below w0.heap.size w0 w) (h : spec_l01Touch.f k s0_0 s0_1 s0_2 a1_0 a1_1 a1_2 a1_3 a1_4 a1_5 a2_0 a2_1 a2_2 a2_3 a2_4 a2_5 = some (r1, r2, r3, r4)) :
  Calls Try.prog 37 #[.pointer (some ⟨g, 0, none⟩), .agg #[.int .i8 a1_0, .int .i8 a1_1, .int .i8 a1_2, .int .i8 a1_3, .int .i8 a1_4, .int .i8 a1_5], .agg #[.int .i8 a2_0, .int .i8 a2_1, .int .i8 a2_2, .int .i8 a2_3, .int .i8 a2_4, .int .i8 a2_5]] w fun e w' => e = .returned (.bool r1) ∧ IsS32 w0 w' g r2 r3 r4 ∧ Below w0.heap.size w0 w' ∧ KeepBut w w' g none := by
 have hu48 := Try.underlying48
 have hu46 := Try.underlying46
 have HI0 := am hI
 have HK := am (KeepBut.refl w g none)
 have HL := am hB.size
 clear hI
 have HW0 := am hB.size
 have HB := am hB
 clear hB
 have H : (if (a1_0 == a2_0 && (a1_1 == a2_1)) = true then (some (true, s0_0, s0_1, s0_2)) else ((spec_l01Reach.f k s0_0 s0_1 s0_2 a1_0 a1_1 a1_2 a1_3 a1_4 a1_5).bind fun bt181 => ((spec_l01Reach.f k bt181.2.1 bt181.2.2.1 bt181.2.2.2 a2_0 a2_1 a2_2 a2_3 a2_4 a2_5).bind fun bt185 => (if bt181.1 < 0 then (spec_l01Touch.j0 k bt181.1 bt185.1 true bt185.2.1 bt185.2.2.1 bt185.2.2.2 a1_0 a1_1 a1_2 a1_3 a1_4 a1_5 a2_0 a2_1 a2_2 a2_3 a2_4 a2_5) else (spec_l01Touch.j0 k bt181.1 bt185.1 (decide (bt185.1 < 0)) bt185.2.1 bt185.2.2.1 bt185.2.2.2 a1_0 a1_1 a1_2 a1_3 a1_4 a1_5 a2_0 a2_1 a2_2 a2_3 a2_4 a2_5))))) = some (r1, r2, r3, r4) := h
 clear h
 by_cases c4 : (a1_0 == a2_0 && (a1_1 == a2_1)) = true
 ·rw [if_pos c4] at H
  have c4b0 : (a1_0 == a2_0 && (a1_1 == a2_1)) = true := c4
  (try (have c4b1 : decide (a1_0 = a2_0 && (a1_1 == a2_1)) = true := by simpa using c4))
  (try (have c4b2 : (a1_0 == a2_0 && (a1_1 == a2_1)) = true := by simpa using c4))
  clear c4
  simp only [Option.some.injEq, Prod.mk.injEq] at H
  obtain ⟨rfl, rfl, rfl, rfl⟩ := H
  go_enter Try.func37, Try.ntmps37
  go_wp2_with (first | ((with_reducible refine gate_dst (N := 4) rfl ?_); refine bxe (N := 4) (cs := #[.int .i8 a1_0, .int .i8 a1_1, .int .i8 a1_2, .int .i8 a1_3, .int .i8 a1_4, .int .i8 a1_5]) (t := 48) ?_; intro gb179 hg w5 hbox hb; have BK179 := am (hbox); have GW179 := am (gN hg (keep_size (w := w) (g := g) (row := none) (ke HK))); have GE179 := am (Nat.le_trans HW0.out (gN hg (keep_size (w := w) (g := g) (row := none) (ke HK)))); have NB0_179 := am (nLi hg (IsS32.lt (show IsS32 w0 _ g s0_0 s0_1 s0_2 from si32 HI0))); have NB179_0 := am (nRi hg (IsS32.lt (show IsS32 w0 _ g s0_0 s0_1 s0_2 from si32 HI0))); replace HI0 := am (IsS32.below (si32 HI0) hb); replace HK := am (KeepBut.trans (ke HK) (KeepBut.of_below hb g none) (.inl rfl)); replace HB := am (below_step (be HB) hb); clear hb hbox hg) | ((with_reducible refine gate_dst (N := 5) rfl ?_); refine bxe (N := 5) (cs := #[.int .i8 a2_0, .int .i8 a2_1, .int .i8 a2_2, .int .i8 a2_3, .int .i8 a2_4, .int .i8 a2_5]) (t := 48) ?_; intro gb180 hg w6 hbox hb; have BK180 := am (hbox); have GW180 := am (gN hg (keep_size (w := w) (g := g) (row := none) (ke HK))); have GE180 := am (Nat.le_trans HW0.out (gN hg (keep_size (w := w) (g := g) (row := none) (ke HK)))); have NB179_180 := nL BK179 hg; have NB180_179 := nR BK179 hg; have NB0_180 := am (nLi hg (IsS32.lt (show IsS32 w0 _ g s0_0 s0_1 s0_2 from si32 HI0))); have NB180_0 := am (nRi hg (IsS32.lt (show IsS32 w0 _ g s0_0 s0_1 s0_2 from si32 HI0))); replace HI0 := am (IsS32.below (si32 HI0) hb); replace BK179 := bB BK179 hb; replace HK := am (KeepBut.trans (ke HK) (KeepBut.of_below hb g none) (.inl rfl)); replace HB := am (below_step (be HB) hb); clear hb hbox hg; have hnb7 := NB179_180.out; have hnc7 := NB180_179.out; have hnb8 := NB179_0.out; have hnc8 := NB0_179.out; obtain ⟨hcz9_0, hcz9_1, hcz9_2, hcz9_3, hcz9_4, hcz9_5, hfz9_0, hfz9_1, hfz9_2, hfz9_3, hfz9_4, hfz9_5⟩ := bx6 BK179; have hnb10 := NB180_0.out; have hnc10 := NB0_180.out; obtain ⟨hcz11_0, hcz11_1, hcz11_2, hcz11_3, hcz11_4, hcz11_5, hfz11_0, hfz11_1, hfz11_2, hfz11_3, hfz11_4, hfz11_5⟩ := bx6 BK180))
  go_ret
  exact ⟨by first | rfl | (simp [errW_none, errW_some] <;> rfl) | (simp [*, errW_none, errW_some] <;> rfl), si32 HI0, be HB, ke HK⟩
 ·rw [if_neg c4] at H
  have c4b0 : (a1_0 == a2_0 && (a1_1 == a2_1)) = false := by simpa using c4
  (try (have c4b1 : decide (a1_0 = a2_0 && (a1_1 == a2_1)) = false := by simpa using c4))
  (try (have c4b2 : (a1_0 == a2_0 && (a1_1 == a2_1)) = false := by simpa using c4))
  (try (have c4b3 : ¬ (a1_0 = a2_0 && (a1_1 == a2_1)) := by simpa using c4))
  clear c4
  replace H := Option.bind_eq_some_iff.mp H
  obtain ⟨⟨t181, t182, t183, t184⟩, A120, H⟩ := H
  try dsimp only at H
  have A12 := am A120
  clear A120
  replace H := Option.bind_eq_some_iff.mp H
  obtain ⟨⟨t185, t186, t187, t188⟩, A130, H⟩ := H
  try dsimp only at H
  have A13 := am A130
  clear A130
  have HC14 := am H
  clear H
  go_enter Try.func37, Try.ntmps37
  go_upto_region 5 with (first | ((with_reducible refine gate_dst (N := 4) rfl ?_); refine bxe (N := 4) (cs := #[.int .i8 a1_0, .int .i8 a1_1, .int .i8 a1_2, .int .i8 a1_3, .int .i8 a1_4, .int .i8 a1_5]) (t := 48) ?_; intro gb179 hg w15 hbox hb; have BK179 := am (hbox); have GW179 := am (gN hg (keep_size (w := w) (g := g) (row := none) (ke HK))); have GE179 := am (Nat.le_trans HW0.out (gN hg (keep_size (w := w) (g := g) (row := none) (ke HK)))); have NB0_179 := am (nLi hg (IsS32.lt (show IsS32 w0 _ g s0_0 s0_1 s0_2 from si32 HI0))); have NB179_0 := am (nRi hg (IsS32.lt (show IsS32 w0 _ g s0_0 s0_1 s0_2 from si32 HI0))); replace HI0 := am (IsS32.below (si32 HI0) hb); replace HK := am (KeepBut.trans (ke HK) (KeepBut.of_below hb g none) (.inl rfl)); replace HB := am (below_step (be HB) hb); clear hb hbox hg) | ((with_reducible refine gate_dst (N := 5) rfl ?_); refine bxe (N := 5) (cs := #[.int .i8 a2_0, .int .i8 a2_1, .int .i8 a2_2, .int .i8 a2_3, .int .i8 a2_4, .int .i8 a2_5]) (t := 48) ?_; intro gb180 hg w16 hbox hb; have BK180 := am (hbox); have GW180 := am (gN hg (keep_size (w := w) (g := g) (row := none) (ke HK))); have GE180 := am (Nat.le_trans HW0.out (gN hg (keep_size (w := w) (g := g) (row := none) (ke HK)))); have NB179_180 := nL BK179 hg; have NB180_179 := nR BK179 hg; have NB0_180 := am (nLi hg (IsS32.lt (show IsS32 w0 _ g s0_0 s0_1 s0_2 from si32 HI0))); have NB180_0 := am (nRi hg (IsS32.lt (show IsS32 w0 _ g s0_0 s0_1 s0_2 from si32 HI0))); replace HI0 := am (IsS32.below (si32 HI0) hb); replace BK179 := bB BK179 hb; replace HK := am (KeepBut.trans (ke HK) (KeepBut.of_below hb g none) (.inl rfl)); replace HB := am (below_step (be HB) hb); clear hb hbox hg; have hnb17 := NB179_180.out; have hnc17 := NB180_179.out; have hnb18 := NB179_0.out; have hnc18 := NB0_179.out; obtain ⟨hcz19_0, hcz19_1, hcz19_2, hcz19_3, hcz19_4, hcz19_5, hfz19_0, hfz19_1, hfz19_2, hfz19_3, hfz19_4, hfz19_5⟩ := bx6 BK179; have hnb20 := NB180_0.out; have hnc20 := NB0_180.out; obtain ⟨hcz21_0, hcz21_1, hcz21_2, hcz21_3, hcz21_4, hcz21_5, hfz21_0, hfz21_1, hfz21_2, hfz21_3, hfz21_4, hfz21_5⟩ := bx6 BK180) | ((with_reducible refine gate_callee (f := 43) rfl ?_); refine gL (some 17) Try.func43 #[.pointer (some ⟨g, 0, none⟩), .agg #[.int .i8 a1_0, .int .i8 a1_1, .int .i8 a1_2, .int .i8 a1_3, .int .i8 a1_4, .int .i8 a1_5]] ?_; (with_reducible refine (spec_l01Reach.calls k g s0_0 s0_1 s0_2 a1_0 a1_1 a1_2 a1_3 a1_4 a1_5 t181 t182 t183 t184 w0 _ ?side1 ?side2 A12.out).mono ?_); (case side1 => exact si32 HI0); (case side2 => exact be HB); rintro e w22 ⟨rfl, hi, hb, hk⟩; refine ⟨_, rfl, ?_⟩; replace BK179 := am (KeepBut.blk hk (g' := gb179) (o := .cells #[.int .i8 a1_0, .int .i8 a1_1, .int .i8 a1_2, .int .i8 a1_3, .int .i8 a1_4, .int .i8 a1_5] 48 (0, 0)) (kb BK179) NB179_0.out (by simp)); replace BK180 := am (KeepBut.blk hk (g' := gb180) (o := .cells #[.int .i8 a2_0, .int .i8 a2_1, .int .i8 a2_2, .int .i8 a2_3, .int .i8 a2_4, .int .i8 a2_5] 48 (0, 0)) (kb BK180) NB180_0.out (by simp)); replace HK := am (KeepBut.trans (ke HK) hk (.inl rfl)); replace HB := am (hb); replace HI0 := am (hi); (try clear hb); (try clear hb2); (try clear hk); (try clear hi); obtain ⟨hcz23_0, hcz23_1, hcz23_2, hcz23_3, hcz23_4, hcz23_5, hfz23_0, hfz23_1, hfz23_2, hfz23_3, hfz23_4, hfz23_5⟩ := bx6 BK180) | ((with_reducible refine gate_callee (f := 43) rfl ?_); refine gL (some 20) Try.func43 #[.pointer (some ⟨g, 0, none⟩), .agg #[.int .i8 a2_0, .int .i8 a2_1, .int .i8 a2_2, .int .i8 a2_3, .int .i8 a2_4, .int .i8 a2_5]] ?_; (with_reducible refine (spec_l01Reach.calls k g t182 t183 t184 a2_0 a2_1 a2_2 a2_3 a2_4 a2_5 t185 t186 t187 t188 w0 _ ?side1 ?side2 A13.out).mono ?_); (case side1 => exact si32 HI0); (case side2 => exact be HB); rintro e w24 ⟨rfl, hi, hb, hk⟩; refine ⟨_, rfl, ?_⟩; replace BK179 := am (KeepBut.blk hk (g' := gb179) (o := .cells #[.int .i8 a1_0, .int .i8 a1_1, .int .i8 a1_2, .int .i8 a1_3, .int .i8 a1_4, .int .i8 a1_5] 48 (0, 0)) (kb BK179) NB179_0.out (by simp)); replace BK180 := am (KeepBut.blk hk (g' := gb180) (o := .cells #[.int .i8 a2_0, .int .i8 a2_1, .int .i8 a2_2, .int .i8 a2_3, .int .i8 a2_4, .int .i8 a2_5] 48 (0, 0)) (kb BK180) NB180_0.out (by simp)); replace HK := am (KeepBut.trans (ke HK) hk (.inl rfl)); replace HB := am (hb); replace HI0 := am (hi); (try clear hb); (try clear hb2); (try clear hk); (try clear hi)))
  (try simp only [Act.put, List.setIfInBounds_toArray, List.set_cons_zero, List.set_cons_succ])
  go_cut [26] (fun v26 wc => ∃ (kq : Nat) (x26_13 : Bool), v26 = .bool x26_13 ∧ Aside0 (spec_l01Touch.j0 kq t181 t185 x26_13 t186 t187 t188 a1_0 a1_1 a1_2 a1_3 a1_4 a1_5 a2_0 a2_1 a2_2 a2_3 a2_4 a2_5 = some (r1, r2, r3, r4)) ∧ Aside0 (kq ≤ k) ∧ Aside0 (wc.heap[gb179]? = some (.cells #[.int .i8 a1_0, .int .i8 a1_1, .int .i8 a1_2, .int .i8 a1_3, .int .i8 a1_4, .int .i8 a1_5] 48 (0, 0))) ∧ Aside0 (wc.heap[gb180]? = some (.cells #[.int .i8 a2_0, .int .i8 a2_1, .int .i8 a2_2, .int .i8 a2_3, .int .i8 a2_4, .int .i8 a2_5] 48 (0, 0))) ∧ Aside0 (IsS32 w0 wc g t186 t187 t188) ∧ Aside0 (KeepBut w wc g none) ∧ Aside0 (Below w0.heap.size w0 wc))
  case first =>
   have H := HC14.out
   clear HC14
   by_cases c25 : t181 < 0
   ·rw [if_pos c25] at H
    have c25b0 : decide (t181 < 0) = true := decide_eq_true c25
    clear c25
    (first | rw [c25b0] | (simp only [i64_w, i32_w]; rw [c25b0]) | skip)
    have H' := am H
    clear H
    go_wp2
    go_meet
    case rel => exact ⟨_, (true), vv, H', ⟨by first | omega | exact Nat.le_refl _⟩, ⟨kb BK179⟩, ⟨kb BK180⟩, ⟨si32 HI0⟩, ⟨ke HK⟩, ⟨be HB⟩⟩
   ·rw [if_neg c25] at H
    have c25b0 : decide (t181 < 0) = false := decide_eq_false c25
    clear c25
    (first | rw [c25b0] | (simp only [i64_w, i32_w]; rw [c25b0]) | skip)
    have H' := am H
    clear H
    go_wp2
    go_meet
    case rel => exact ⟨_, (decide (t185 < 0)), vv, H', ⟨by first | omega | exact Nat.le_refl _⟩, ⟨kb BK179⟩, ⟨kb BK180⟩, ⟨si32 HI0⟩, ⟨ke HK⟩, ⟨be HB⟩⟩
  case rest =>
   clear HC14
   try clear c1
   try clear c2
   try clear p2
   try clear c3
   try clear c4
   try clear c4b0
   try clear c4b1
   try clear c4b2
   try clear c7
   try clear c8
   try clear c10
   try clear c17
   try clear c18
   try clear c20
   try clear c25
   try clear c25b0
   try clear hcz11_0
   try clear hcz11_1
   try clear hcz11_2
   try clear hcz11_3
   try clear hcz11_4
   try clear hcz11_5
   try clear hcz19_0
   try clear hcz19_1
   try clear hcz19_2
   try clear hcz19_3
   try clear hcz19_4
   try clear hcz19_5
   try clear hcz21_0
   try clear hcz21_1
   try clear hcz21_2
   try clear hcz21_3
   try clear hcz21_4
   try clear hcz21_5
   try clear hcz23_0
   try clear hcz23_1
   try clear hcz23_2
   try clear hcz23_3
   try clear hcz23_4
   try clear hcz23_5
   try clear hcz9_0
   try clear hcz9_1
   try clear hcz9_2
   try clear hcz9_3
   try clear hcz9_4
   try clear hcz9_5
   try clear hfz11_0
   try clear hfz11_1
   try clear hfz11_2
   try clear hfz11_3
   try clear hfz11_4
   try clear hfz11_5
   try clear hfz19_0
   try clear hfz19_1
   try clear hfz19_2
   try clear hfz19_3
   try clear hfz19_4
   try clear hfz19_5
   try clear hfz21_0
   try clear hfz21_1
   try clear hfz21_2
   try clear hfz21_3
   try clear hfz21_4
   try clear hfz21_5
   try clear hfz23_0
   try clear hfz23_1
   try clear hfz23_2
   try clear hfz23_3
   try clear hfz23_4
   try clear hfz23_5
   try clear hfz9_0
   try clear hfz9_1
   try clear hfz9_2
   try clear hfz9_3
   try clear hfz9_4
   try clear hfz9_5
   obtain ⟨kq, x26_13, rfl, HA, HJ13, BK179, BK180, HI0, HK, HB⟩ := hcut
   cases kq with
   | zero => exact absurd HA.out (by simp [spec_l01Touch.j0])
   | succ kj13 =>
    have H := HA.out
    clear HA
    simp only [spec_l01Touch.j0] at H
    by_cases c26 : x26_13 = true
    ·subst c26
     rw [if_pos rfl] at H
     simp only [Option.some.injEq, Prod.mk.injEq] at H
     obtain ⟨rfl, rfl, rfl, rfl⟩ := H
     go_wp2
     go_ret
     exact ⟨by first | rfl | (simp [errW_none, errW_some] <;> rfl) | (simp [*, errW_none, errW_some] <;> rfl), si32 HI0, be HB, ke HK⟩
    ·replace c26 := Bool.eq_false_iff.mpr c26
     subst c26
     have H1 : (if a1_5 = a2_5 then ((spec_l01Far.f a1_0 a1_1 a2_0 a2_1).bind fun t189 => (some (decide (t189 < (wrap64 ((wrap64 ((wrap64 (a1_3)) + (wrap64 (a2_3)))) * (wrap64 ((wrap64 (a1_3)) + (wrap64 (a2_3))))))), t186, t187, t188))) else ((spec_l01Far.f a1_0 a1_1 a2_0 a2_1).bind fun t190 => (some (decide (t190 < (wrap64 ((wrap64 ((wrap64 ((wrap64 (a1_3)) + (wrap64 (a2_3)))) + (wrap64 (t181 + t185)))) * (wrap64 ((wrap64 ((wrap64 (a1_3)) + (wrap64 (a2_3)))) + (wrap64 (t181 + t185))))))), t186, t187, t188)))) = some (r1, r2, r3, r4) := by rw [if_neg (show ¬ (false = true) by decide)] at H; exact H
     clear H
     have H := H1
     clear H1
     by_cases c27 : a1_5 = a2_5
     ·rw [if_pos c27] at H
      have c27b0 : (a1_5 == a2_5) = true := beq_iff_eq.mpr c27
      have c27b1 : (a1_5 != a2_5) = false := bne_eq_false_iff_eq.mpr c27
      clear c27
      replace H := Option.bind_eq_some_iff.mp H
      obtain ⟨t189, A280, H⟩ := H
      try dsimp only at H
      have A28 := am A280
      clear A280
      simp only [Option.some.injEq, Prod.mk.injEq] at H
      obtain ⟨rfl, rfl, rfl, rfl⟩ := H
      have hnb29 := NB179_180.out
      have hnc29 := NB180_179.out
      have hnb30 := NB179_0.out
      have hnc30 := NB0_179.out
      obtain ⟨hcz31_0, hcz31_1, hcz31_2, hcz31_3, hcz31_4, hcz31_5, hfz31_0, hfz31_1, hfz31_2, hfz31_3, hfz31_4, hfz31_5⟩ := bx6 BK179
      have hnb32 := NB180_0.out
      have hnc32 := NB0_180.out
      obtain ⟨hcz33_0, hcz33_1, hcz33_2, hcz33_3, hcz33_4, hcz33_5, hfz33_0, hfz33_1, hfz33_2, hfz33_3, hfz33_4, hfz33_5⟩ := bx6 BK180
      go_wp2_with (first | ((with_reducible refine gate_callee (f := 45) rfl ?_); refine gL (some 48) Try.func45 #[.agg #[.int .i8 a1_0, .int .i8 a1_1], .agg #[.int .i8 a2_0, .int .i8 a2_1]] ?_; (with_reducible refine (spec_l01Far.calls a1_0 a1_1 a2_0 a2_1 t189 _ A28.out).mono ?_); rintro e w34 ⟨rfl, hb⟩; refine ⟨_, rfl, ?_⟩; replace BK179 := bB BK179 hb; replace BK180 := bB BK180 hb; replace HI0 := am (IsS32.below (si32 HI0) hb); replace HK := am (KeepBut.trans (ke HK) (KeepBut.of_below hb g none) (.inl rfl)); replace HB := am (below_step (be HB) hb); (try clear hb); (try clear hb2); (try clear hk); (try clear hi)))
      go_ret
      exact ⟨by first | rfl | (simp [errW_none, errW_some] <;> rfl) | (simp [*, errW_none, errW_some] <;> rfl), si32 HI0, be HB, ke HK⟩
     ·rw [if_neg c27] at H
      have c27b0 : (a1_5 == a2_5) = false := beq_eq_false_iff_ne.mpr c27
      have c27b1 : (a1_5 != a2_5) = true := bne_iff_ne.mpr c27
      replace H := Option.bind_eq_some_iff.mp H
      obtain ⟨t190, A350, H⟩ := H
      try dsimp only at H
      have A35 := am A350
      clear A350
      simp only [Option.some.injEq, Prod.mk.injEq] at H
      obtain ⟨rfl, rfl, rfl, rfl⟩ := H
      have hnb36 := NB179_180.out
      have hnc36 := NB180_179.out
      have hnb37 := NB179_0.out
      have hnc37 := NB0_179.out
      obtain ⟨hcz38_0, hcz38_1, hcz38_2, hcz38_3, hcz38_4, hcz38_5, hfz38_0, hfz38_1, hfz38_2, hfz38_3, hfz38_4, hfz38_5⟩ := bx6 BK179
      have hnb39 := NB180_0.out
      have hnc39 := NB0_180.out
      obtain ⟨hcz40_0, hcz40_1, hcz40_2, hcz40_3, hcz40_4, hcz40_5, hfz40_0, hfz40_1, hfz40_2, hfz40_3, hfz40_4, hfz40_5⟩ := bx6 BK180
      go_wp2_with (first | ((with_reducible refine gate_callee (f := 45) rfl ?_); refine gL (some 48) Try.func45 #[.agg #[.int .i8 a1_0, .int .i8 a1_1], .agg #[.int .i8 a2_0, .int .i8 a2_1]] ?_; (with_reducible refine (spec_l01Far.calls a1_0 a1_1 a2_0 a2_1 t190 _ A35.out).mono ?_); rintro e w41 ⟨rfl, hb⟩; refine ⟨_, rfl, ?_⟩; replace BK179 := bB BK179 hb; replace BK180 := bB BK180 hb; replace HI0 := am (IsS32.below (si32 HI0) hb); replace HK := am (KeepBut.trans (ke HK) (KeepBut.of_below hb g none) (.inl rfl)); replace HB := am (below_step (be HB) hb); (try clear hb); (try clear hb2); (try clear hk); (try clear hi)))
      go_ret
      exact ⟨by first | rfl | (simp [errW_none, errW_some] <;> rfl) | (simp [*, errW_none, errW_some] <;> rfl), si32 HI0, be HB, ke HK⟩

end Go.Proofs.Ytigafbmdedjgdaa.PFnExactMostBoats
