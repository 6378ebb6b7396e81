-- Written by a program out of this seat's translation (functions, and that the code comes to them).
import Derived.Test.YtcollbifdfhfoaaPFnExactPlacesForx0
import Derived.Test.YtcollbifdfhfoaaPFnExactPlacesForx1
import Derived.Test.YtcollbifdfhfoaaPFnExactPlacesForx3
namespace Go.Proofs.Ytcollbifdfhfoaa.PFnExactPlacesFor
open Go.RowKit Go.Proofs.YtcollbifdfhfoaaW.PrintWords Go.Proofs.YtcollbifdfhfoaaW.PrintLast Go.Proofs.YtcollbifdfhfoaaW.PrintMore
attribute [local go_sem] max2_int min2_int max_two min_two max_three min_three max_four min_four   -- for this text's walks alone
open Go.Proofs.Ytcollbifdfhfoaa.Bay Go.Proofs.Ytcollbifdfhfoaa.Short
attribute [local go_sem ↓] lv26_eq lv28_eq
attribute [local go_sem] lvv_set lvv_drewN lvv_drew lv26_run BayAt26_set BayAt26_drewN BayAt26_drew lv28_run BayAt28_set BayAt28_drewN BayAt28_drew
set_option linter.unusedVariables false
set_option linter.unusedSimpArgs false

attribute [local go_sem high] eqA36
/-! ### spec_l00In: function 164 -/
def spec_l00In.f (a0 : Int) (a1 : Int) (a2 : Int) : Option (Bool) := if a0 ≥ a1 then (some (decide (a0 ≤ a2))) else (some false)
set_option maxHeartbeats 8000000 in
set_option maxRecDepth 100000 in
theorem spec_l00In.calls (a0 : Int) (a1 : Int) (a2 : Int) (r : Bool) (w : World) (h : spec_l00In.f a0 a1 a2 = some r) :
  Calls Try.prog 164 #[.int .i64 a0, .int .i64 a1, .int .i64 a2] w fun e w' => e = .returned (.bool r) ∧ Drawn0 w w' := by
 have H : (if a0 ≥ a1 then (some (decide (a0 ≤ a2))) else (some false)) = some r := h
 clear h
 by_cases c4 : a0 ≥ a1
 ·rw [if_pos c4] at H
  have c4b0 : decide (a1 ≤ a0) = true := decide_eq_true c4
  clear c4
  obtain rfl := Option.some.inj H
  go_enter Try.func164, Try.ntmps164
  go_wp2
  go_ret
  exact ⟨by first | rfl | (simp; done) | (simp [*]; done), by repeat (first | exact Drawn0.refl _ | apply Drawn0.step)⟩
 ·rw [if_neg c4] at H
  have c4b0 : decide (a1 ≤ a0) = false := decide_eq_false c4
  clear c4
  obtain rfl := Option.some.inj H
  go_enter Try.func164, Try.ntmps164
  go_wp2
  go_ret
  exact ⟨by first | rfl | (simp; done) | (simp [*]; done), by repeat (first | exact Drawn0.refl _ | apply Drawn0.step)⟩

/-! ### spec_l01Is: function 165 -/
def spec_l01Is.f (s0_0 : Int) (s0_1 : Int) (s0_2 : (Nat → Int)) (a1_0 : Int) (a1_1 : Int) : Option (Bool × Int × Int × (Nat → Int)) := (spec_l00In.f (wrap64 (a1_0)) 0 (wrap64 ((wrap64 (s0_0)) - 1))).bind fun t143 => (if t143 = true then ((spec_l00In.f (wrap64 (a1_1)) 0 (wrap64 ((wrap64 (s0_1)) - 1))).bind fun t144 => (some (t144, s0_0, s0_1, s0_2))) else (some (false, s0_0, s0_1, s0_2)))
set_option maxHeartbeats 8000000 in
set_option maxRecDepth 100000 in
theorem spec_l01Is.calls (g : Nat) (s0_0 : Int) (s0_1 : Int) (s0_2 : (Nat → Int)) (a1_0 : Int) (a1_1 : Int) (r1 : Bool) (r2 : Int) (r3 : Int) (r4 : (Nat → Int)) (w0 w : World) (hI : IsS28 w0 w g s0_0 s0_1 s0_2) (hB : Below w0.heap.size w0 w) (h : spec_l01Is.f s0_0 s0_1 s0_2 a1_0 a1_1 = some (r1, r2, r3, r4)) :
  Calls Try.prog 165 #[.pointer (some ⟨g, 0, none⟩), .agg #[.int .i8 a1_0, .int .i8 a1_1]] w fun e w' => e = .returned (.bool r1) ∧ IsS28 w0 w' g r2 r3 r4 ∧ Below w0.heap.size w0 w' ∧ KeepBut w w' g none := by
 have hu36 := Try.underlying36
 have HI0 := am hI
 have HK := am (KeepBut.refl w g none)
 have HL := am hB.size
 clear hI
 have HW0 := am hB.size
 have HB := am hB
 clear hB
 have H : ((spec_l00In.f (wrap64 (a1_0)) 0 (wrap64 ((wrap64 (s0_0)) - 1))).bind fun t143 => (if t143 = true then ((spec_l00In.f (wrap64 (a1_1)) 0 (wrap64 ((wrap64 (s0_1)) - 1))).bind fun t144 => (some (t144, s0_0, s0_1, s0_2))) else (some (false, s0_0, s0_1, s0_2)))) = some (r1, r2, r3, r4) := h
 clear h
 replace H := Option.bind_eq_some_iff.mp H
 obtain ⟨t143, A30, H⟩ := H
 try dsimp only at H
 have A3 := am A30
 clear A30
 by_cases c4 : t143 = true
 ·subst c4
  rw [if_pos rfl] at H
  replace H := Option.bind_eq_some_iff.mp H
  obtain ⟨t144, A50, H⟩ := H
  try dsimp only at H
  have A5 := am A50
  clear A50
  simp only [Option.some.injEq, Prod.mk.injEq] at H
  obtain ⟨rfl, rfl, rfl, rfl⟩ := H
  go_enter Try.func165, Try.ntmps165
  go_wp2_with (first | ((with_reducible refine gate_dst (N := 3) rfl ?_); refine bxe (N := 3) (cs := #[.int .i8 a1_0, .int .i8 a1_1]) (t := 36) ?_; intro gb142 hg w6 hbox hb; have BK142 := am (hbox); have GW142 := am (gN hg (keep_size (w := w) (g := g) (row := none) (ke HK))); have GE142 := am (Nat.le_trans HW0.out (gN hg (keep_size (w := w) (g := g) (row := none) (ke HK)))); have NB0_142 := am (nLi hg (IsS28.lt (show IsS28 w0 _ g s0_0 s0_1 s0_2 from si28 HI0))); have NB142_0 := am (nRi hg (IsS28.lt (show IsS28 w0 _ g s0_0 s0_1 s0_2 from si28 HI0))); replace HI0 := am (IsS28.below (si28 HI0) hb); replace HK := am (KeepBut.trans (ke HK) (KeepBut.of_below hb g none) (.inl rfl)); replace HB := am (below_step (be HB) hb); clear hb hbox hg; have hnb7 := NB142_0.out; have hnc7 := NB0_142.out; obtain ⟨hcz8_0, hcz8_1, hfz8_0, hfz8_1⟩ := bx2 BK142; obtain ⟨HGz9, hgz9⟩ := HI0.out; have hcz9_0 := cellS28_0 HGz9; have hcz9_1 := cellS28_1 HGz9; have hwz9 := lv28_at HGz9; have haz9 := at_cells HGz9; have hyz9 := BayAt28_of HGz9; have hvz9 := lvv_of HGz9; have hfz9_0 := blk_frozen HGz9 0; have hfz9_1 := blk_frozen HGz9 1; have hfz9_2 := blk_frozen HGz9 2; clear HGz9 hgz9) | (go_at_call 164; (with_reducible refine (spec_l00In.calls (wrap64 (a1_0)) 0 (wrap64 ((wrap64 (s0_0)) - 1)) true _ A3.out).mono ?_); rintro e w' ⟨rfl, ⟨nd, rfl⟩⟩; (try first | exact ⟨rfl, _, World.drewN_drewN _ _ _⟩ | exact ⟨rfl, _, Eq.trans (World.drewN_drewN _ _ _) (congrArg (World.drewN _) (Nat.add_assoc _ _ _))⟩)) | (go_at_call 164; (with_reducible refine (spec_l00In.calls (wrap64 (a1_1)) 0 (wrap64 ((wrap64 (s0_1)) - 1)) t144 _ A5.out).mono ?_); rintro e w' ⟨rfl, ⟨nd, rfl⟩⟩; (try first | exact ⟨rfl, _, World.drewN_drewN _ _ _⟩ | exact ⟨rfl, _, Eq.trans (World.drewN_drewN _ _ _) (congrArg (World.drewN _) (Nat.add_assoc _ _ _))⟩)))
  repeat (go_quiet (first | ((with_reducible refine gate_dst (N := 3) rfl ?_); refine bxe (N := 3) (cs := #[.int .i8 a1_0, .int .i8 a1_1]) (t := 36) ?_; intro gb142 hg w6 hbox hb; have BK142 := am (hbox); have GW142 := am (gN hg (keep_size (w := w) (g := g) (row := none) (ke HK))); have GE142 := am (Nat.le_trans HW0.out (gN hg (keep_size (w := w) (g := g) (row := none) (ke HK)))); have NB0_142 := am (nLi hg (IsS28.lt (show IsS28 w0 _ g s0_0 s0_1 s0_2 from si28 HI0))); have NB142_0 := am (nRi hg (IsS28.lt (show IsS28 w0 _ g s0_0 s0_1 s0_2 from si28 HI0))); replace HI0 := am (IsS28.below (si28 HI0) hb); replace HK := am (KeepBut.trans (ke HK) (KeepBut.of_below hb g none) (.inl rfl)); replace HB := am (below_step (be HB) hb); clear hb hbox hg; have hnb7 := NB142_0.out; have hnc7 := NB0_142.out; obtain ⟨hcz8_0, hcz8_1, hfz8_0, hfz8_1⟩ := bx2 BK142; obtain ⟨HGz9, hgz9⟩ := HI0.out; have hcz9_0 := cellS28_0 HGz9; have hcz9_1 := cellS28_1 HGz9; have hwz9 := lv28_at HGz9; have haz9 := at_cells HGz9; have hyz9 := BayAt28_of HGz9; have hvz9 := lvv_of HGz9; have hfz9_0 := blk_frozen HGz9 0; have hfz9_1 := blk_frozen HGz9 1; have hfz9_2 := blk_frozen HGz9 2; clear HGz9 hgz9) | (go_at_call 164; (with_reducible refine (spec_l00In.calls (wrap64 (a1_0)) 0 (wrap64 ((wrap64 (s0_0)) - 1)) true _ A3.out).mono ?_); rintro e w' ⟨rfl, ⟨nd, rfl⟩⟩; (try first | exact ⟨rfl, _, World.drewN_drewN _ _ _⟩ | exact ⟨rfl, _, Eq.trans (World.drewN_drewN _ _ _) (congrArg (World.drewN _) (Nat.add_assoc _ _ _))⟩)) | (go_at_call 164; (with_reducible refine (spec_l00In.calls (wrap64 (a1_1)) 0 (wrap64 ((wrap64 (s0_1)) - 1)) t144 _ A5.out).mono ?_); rintro e w' ⟨rfl, ⟨nd, rfl⟩⟩; (try first | exact ⟨rfl, _, World.drewN_drewN _ _ _⟩ | exact ⟨rfl, _, Eq.trans (World.drewN_drewN _ _ _) (congrArg (World.drewN _) (Nat.add_assoc _ _ _))⟩))); try go_wp2_with (first | ((with_reducible refine gate_dst (N := 3) rfl ?_); refine bxe (N := 3) (cs := #[.int .i8 a1_0, .int .i8 a1_1]) (t := 36) ?_; intro gb142 hg w6 hbox hb; have BK142 := am (hbox); have GW142 := am (gN hg (keep_size (w := w) (g := g) (row := none) (ke HK))); have GE142 := am (Nat.le_trans HW0.out (gN hg (keep_size (w := w) (g := g) (row := none) (ke HK)))); have NB0_142 := am (nLi hg (IsS28.lt (show IsS28 w0 _ g s0_0 s0_1 s0_2 from si28 HI0))); have NB142_0 := am (nRi hg (IsS28.lt (show IsS28 w0 _ g s0_0 s0_1 s0_2 from si28 HI0))); replace HI0 := am (IsS28.below (si28 HI0) hb); replace HK := am (KeepBut.trans (ke HK) (KeepBut.of_below hb g none) (.inl rfl)); replace HB := am (below_step (be HB) hb); clear hb hbox hg; have hnb7 := NB142_0.out; have hnc7 := NB0_142.out; obtain ⟨hcz8_0, hcz8_1, hfz8_0, hfz8_1⟩ := bx2 BK142; obtain ⟨HGz9, hgz9⟩ := HI0.out; have hcz9_0 := cellS28_0 HGz9; have hcz9_1 := cellS28_1 HGz9; have hwz9 := lv28_at HGz9; have haz9 := at_cells HGz9; have hyz9 := BayAt28_of HGz9; have hvz9 := lvv_of HGz9; have hfz9_0 := blk_frozen HGz9 0; have hfz9_1 := blk_frozen HGz9 1; have hfz9_2 := blk_frozen HGz9 2; clear HGz9 hgz9) | (go_at_call 164; (with_reducible refine (spec_l00In.calls (wrap64 (a1_0)) 0 (wrap64 ((wrap64 (s0_0)) - 1)) true _ A3.out).mono ?_); rintro e w' ⟨rfl, ⟨nd, rfl⟩⟩; (try first | exact ⟨rfl, _, World.drewN_drewN _ _ _⟩ | exact ⟨rfl, _, Eq.trans (World.drewN_drewN _ _ _) (congrArg (World.drewN _) (Nat.add_assoc _ _ _))⟩)) | (go_at_call 164; (with_reducible refine (spec_l00In.calls (wrap64 (a1_1)) 0 (wrap64 ((wrap64 (s0_1)) - 1)) t144 _ A5.out).mono ?_); rintro e w' ⟨rfl, ⟨nd, rfl⟩⟩; (try first | exact ⟨rfl, _, World.drewN_drewN _ _ _⟩ | exact ⟨rfl, _, Eq.trans (World.drewN_drewN _ _ _) (congrArg (World.drewN _) (Nat.add_assoc _ _ _))⟩))))
  go_ret
  exact ⟨by first | rfl | (simp [errW_none, errW_some] <;> rfl) | (simp [*, errW_none, errW_some] <;> rfl), si28 HI0, be HB, ke HK⟩
 ·replace c4 := Bool.eq_false_iff.mpr c4
  subst c4
  have H1 : (some (false, s0_0, s0_1, s0_2)) = some (r1, r2, r3, r4) := by rw [if_neg (show ¬ (false = true) by decide)] at H; exact H
  clear H
  have H := H1
  clear H1
  simp only [Option.some.injEq, Prod.mk.injEq] at H
  obtain ⟨rfl, rfl, rfl, rfl⟩ := H
  go_enter Try.func165, Try.ntmps165
  go_wp2_with (first | ((with_reducible refine gate_dst (N := 3) rfl ?_); refine bxe (N := 3) (cs := #[.int .i8 a1_0, .int .i8 a1_1]) (t := 36) ?_; intro gb142 hg w10 hbox hb; have BK142 := am (hbox); have GW142 := am (gN hg (keep_size (w := w) (g := g) (row := none) (ke HK))); have GE142 := am (Nat.le_trans HW0.out (gN hg (keep_size (w := w) (g := g) (row := none) (ke HK)))); have NB0_142 := am (nLi hg (IsS28.lt (show IsS28 w0 _ g s0_0 s0_1 s0_2 from si28 HI0))); have NB142_0 := am (nRi hg (IsS28.lt (show IsS28 w0 _ g s0_0 s0_1 s0_2 from si28 HI0))); replace HI0 := am (IsS28.below (si28 HI0) hb); replace HK := am (KeepBut.trans (ke HK) (KeepBut.of_below hb g none) (.inl rfl)); replace HB := am (below_step (be HB) hb); clear hb hbox hg; have hnb11 := NB142_0.out; have hnc11 := NB0_142.out; obtain ⟨hcz12_0, hcz12_1, hfz12_0, hfz12_1⟩ := bx2 BK142; obtain ⟨HGz13, hgz13⟩ := HI0.out; have hcz13_0 := cellS28_0 HGz13; have hcz13_1 := cellS28_1 HGz13; have hwz13 := lv28_at HGz13; have haz13 := at_cells HGz13; have hyz13 := BayAt28_of HGz13; have hvz13 := lvv_of HGz13; have hfz13_0 := blk_frozen HGz13 0; have hfz13_1 := blk_frozen HGz13 1; have hfz13_2 := blk_frozen HGz13 2; clear HGz13 hgz13) | (go_at_call 164; (with_reducible refine (spec_l00In.calls (wrap64 (a1_0)) 0 (wrap64 ((wrap64 (s0_0)) - 1)) false _ A3.out).mono ?_); rintro e w' ⟨rfl, ⟨nd, rfl⟩⟩; (try first | exact ⟨rfl, _, World.drewN_drewN _ _ _⟩ | exact ⟨rfl, _, Eq.trans (World.drewN_drewN _ _ _) (congrArg (World.drewN _) (Nat.add_assoc _ _ _))⟩)))
  repeat (go_quiet (first | ((with_reducible refine gate_dst (N := 3) rfl ?_); refine bxe (N := 3) (cs := #[.int .i8 a1_0, .int .i8 a1_1]) (t := 36) ?_; intro gb142 hg w10 hbox hb; have BK142 := am (hbox); have GW142 := am (gN hg (keep_size (w := w) (g := g) (row := none) (ke HK))); have GE142 := am (Nat.le_trans HW0.out (gN hg (keep_size (w := w) (g := g) (row := none) (ke HK)))); have NB0_142 := am (nLi hg (IsS28.lt (show IsS28 w0 _ g s0_0 s0_1 s0_2 from si28 HI0))); have NB142_0 := am (nRi hg (IsS28.lt (show IsS28 w0 _ g s0_0 s0_1 s0_2 from si28 HI0))); replace HI0 := am (IsS28.below (si28 HI0) hb); replace HK := am (KeepBut.trans (ke HK) (KeepBut.of_below hb g none) (.inl rfl)); replace HB := am (below_step (be HB) hb); clear hb hbox hg; have hnb11 := NB142_0.out; have hnc11 := NB0_142.out; obtain ⟨hcz12_0, hcz12_1, hfz12_0, hfz12_1⟩ := bx2 BK142; obtain ⟨HGz13, hgz13⟩ := HI0.out; have hcz13_0 := cellS28_0 HGz13; have hcz13_1 := cellS28_1 HGz13; have hwz13 := lv28_at HGz13; have haz13 := at_cells HGz13; have hyz13 := BayAt28_of HGz13; have hvz13 := lvv_of HGz13; have hfz13_0 := blk_frozen HGz13 0; have hfz13_1 := blk_frozen HGz13 1; have hfz13_2 := blk_frozen HGz13 2; clear HGz13 hgz13) | (go_at_call 164; (with_reducible refine (spec_l00In.calls (wrap64 (a1_0)) 0 (wrap64 ((wrap64 (s0_0)) - 1)) false _ A3.out).mono ?_); rintro e w' ⟨rfl, ⟨nd, rfl⟩⟩; (try first | exact ⟨rfl, _, World.drewN_drewN _ _ _⟩ | exact ⟨rfl, _, Eq.trans (World.drewN_drewN _ _ _) (congrArg (World.drewN _) (Nat.add_assoc _ _ _))⟩))); try go_wp2_with (first | ((with_reducible refine gate_dst (N := 3) rfl ?_); refine bxe (N := 3) (cs := #[.int .i8 a1_0, .int .i8 a1_1]) (t := 36) ?_; intro gb142 hg w10 hbox hb; have BK142 := am (hbox); have GW142 := am (gN hg (keep_size (w := w) (g := g) (row := none) (ke HK))); have GE142 := am (Nat.le_trans HW0.out (gN hg (keep_size (w := w) (g := g) (row := none) (ke HK)))); have NB0_142 := am (nLi hg (IsS28.lt (show IsS28 w0 _ g s0_0 s0_1 s0_2 from si28 HI0))); have NB142_0 := am (nRi hg (IsS28.lt (show IsS28 w0 _ g s0_0 s0_1 s0_2 from si28 HI0))); replace HI0 := am (IsS28.below (si28 HI0) hb); replace HK := am (KeepBut.trans (ke HK) (KeepBut.of_below hb g none) (.inl rfl)); replace HB := am (below_step (be HB) hb); clear hb hbox hg; have hnb11 := NB142_0.out; have hnc11 := NB0_142.out; obtain ⟨hcz12_0, hcz12_1, hfz12_0, hfz12_1⟩ := bx2 BK142; obtain ⟨HGz13, hgz13⟩ := HI0.out; have hcz13_0 := cellS28_0 HGz13; have hcz13_1 := cellS28_1 HGz13; have hwz13 := lv28_at HGz13; have haz13 := at_cells HGz13; have hyz13 := BayAt28_of HGz13; have hvz13 := lvv_of HGz13; have hfz13_0 := blk_frozen HGz13 0; have hfz13_1 := blk_frozen HGz13 1; have hfz13_2 := blk_frozen HGz13 2; clear HGz13 hgz13) | (go_at_call 164; (with_reducible refine (spec_l00In.calls (wrap64 (a1_0)) 0 (wrap64 ((wrap64 (s0_0)) - 1)) false _ A3.out).mono ?_); rintro e w' ⟨rfl, ⟨nd, rfl⟩⟩; (try first | exact ⟨rfl, _, World.drewN_drewN _ _ _⟩ | exact ⟨rfl, _, Eq.trans (World.drewN_drewN _ _ _) (congrArg (World.drewN _) (Nat.add_assoc _ _ _))⟩))))
  go_ret
  exact ⟨by first | rfl | (simp [errW_none, errW_some] <;> rfl) | (simp [*, errW_none, errW_some] <;> rfl), si28 HI0, be HB, ke HK⟩

/-! ### spec_l01Boat: function 105 -/
def spec_l01Boat.f (s0_0 : Int) (s0_1 : Int) (s0_2 : (Nat → Int)) (a1_0 : Int) (a1_1 : Int) (a1_2 : Int) (a1_3 : Int) (a1_4 : Int) (a1_5 : Int) : Option (Bool × Int × Int × (Nat → Int)) := (spec_l01Is.f s0_0 s0_1 s0_2 a1_0 a1_1).bind fun bt146 => (if bt146.1 = true then ((spec_l01Depth.f bt146.2.1 bt146.2.2.1 bt146.2.2.2 a1_0 a1_1).bind fun bt150 => (if bt150.1 > 0 then ((spec_l00In.f (wrap64 (a1_2)) 1 60).bind fun t154 => (if t154 = true then ((spec_l00In.f (wrap64 (a1_3)) 0 5).bind fun t155 => (if t155 = true then ((spec_l00In.f (wrap64 (a1_4)) 1 30).bind fun t156 => (if t156 = true then ((spec_l00In.f (wrap64 (a1_5)) 0 9).bind fun t157 => (some (t157, bt150.2.1, bt150.2.2.1, bt150.2.2.2))) else (some (false, bt150.2.1, bt150.2.2.1, bt150.2.2.2)))) else (some (false, bt150.2.1, bt150.2.2.1, bt150.2.2.2)))) else (some (false, bt150.2.1, bt150.2.2.1, bt150.2.2.2)))) else (some (false, bt150.2.1, bt150.2.2.1, bt150.2.2.2)))) else (some (false, bt146.2.1, bt146.2.2.1, bt146.2.2.2)))
set_option maxHeartbeats 8000000 in
set_option maxRecDepth 100000 in
theorem spec_l01Boat.calls (g : Nat) (s0_0 : Int) (s0_1 : Int) (s0_2 : (Nat → Int)) (a1_0 : Int) (a1_1 : Int) (a1_2 : Int) (a1_3 : Int) (a1_4 : Int) (a1_5 : Int) (r1 : Bool) (r2 : Int) (r3 : Int) (r4 : (Nat → Int)) (w0 w : World) (hI : IsS28 w0 w g s0_0 s0_1 s0_2) (hB : Below w0.heap.size w0 w) (h : spec_l01Boat.f s0_0 s0_1 s0_2 a1_0 a1_1 a1_2 a1_3 a1_4 a1_5 = some (r1, r2, r3, r4)) :
  Calls Try.prog 105 #[.pointer (some ⟨g, 0, none⟩), .agg #[.int .i8 a1_0, .int .i8 a1_1, .int .i8 a1_2, .int .i8 a1_3, .int .i8 a1_4, .int .i8 a1_5]] w fun e w' => e = .returned (.bool r1) ∧ IsS28 w0 w' g r2 r3 r4 ∧ Below w0.heap.size w0 w' ∧ KeepBut w w' g none := by
 have hu38 := Try.underlying38
 have hu36 := Try.underlying36
 have HI0 := am hI
 have HK := am (KeepBut.refl w g none)
 have HL := am hB.size
 clear hI
 have HW0 := am hB.size
 have HB := am hB
 clear hB
 have H : ((spec_l01Is.f s0_0 s0_1 s0_2 a1_0 a1_1).bind fun bt146 => (if bt146.1 = true then ((spec_l01Depth.f bt146.2.1 bt146.2.2.1 bt146.2.2.2 a1_0 a1_1).bind fun bt150 => (if bt150.1 > 0 then ((spec_l00In.f (wrap64 (a1_2)) 1 60).bind fun t154 => (if t154 = true then ((spec_l00In.f (wrap64 (a1_3)) 0 5).bind fun t155 => (if t155 = true then ((spec_l00In.f (wrap64 (a1_4)) 1 30).bind fun t156 => (if t156 = true then ((spec_l00In.f (wrap64 (a1_5)) 0 9).bind fun t157 => (some (t157, bt150.2.1, bt150.2.2.1, bt150.2.2.2))) else (some (false, bt150.2.1, bt150.2.2.1, bt150.2.2.2)))) else (some (false, bt150.2.1, bt150.2.2.1, bt150.2.2.2)))) else (some (false, bt150.2.1, bt150.2.2.1, bt150.2.2.2)))) else (some (false, bt150.2.1, bt150.2.2.1, bt150.2.2.2)))) else (some (false, bt146.2.1, bt146.2.2.1, bt146.2.2.2)))) = some (r1, r2, r3, r4) := h
 clear h
 replace H := Option.bind_eq_some_iff.mp H
 obtain ⟨⟨t146, t147, t148, t149⟩, A30, H⟩ := H
 try dsimp only at H
 have A3 := am A30
 clear A30
 by_cases c4 : t146 = true
 ·subst c4
  rw [if_pos rfl] at H
  replace H := Option.bind_eq_some_iff.mp H
  obtain ⟨⟨t150, t151, t152, t153⟩, A50, H⟩ := H
  try dsimp only at H
  have A5 := am A50
  clear A50
  by_cases c6 : t150 > 0
  ·rw [if_pos c6] at H
   have c6b0 : decide (0 < t150) = true := decide_eq_true c6
   clear c6
   replace H := Option.bind_eq_some_iff.mp H
   obtain ⟨t154, A70, H⟩ := H
   try dsimp only at H
   have A7 := am A70
   clear A70
   by_cases c8 : t154 = true
   ·subst c8
    rw [if_pos rfl] at H
    replace H := Option.bind_eq_some_iff.mp H
    obtain ⟨t155, A90, H⟩ := H
    try dsimp only at H
    have A9 := am A90
    clear A90
    by_cases c10 : t155 = true
    ·subst c10
     rw [if_pos rfl] at H
     replace H := Option.bind_eq_some_iff.mp H
     obtain ⟨t156, A110, H⟩ := H
     try dsimp only at H
     have A11 := am A110
     clear A110
     by_cases c12 : t156 = true
     ·subst c12
      rw [if_pos rfl] at H
      replace H := Option.bind_eq_some_iff.mp H
      obtain ⟨t157, A130, H⟩ := H
      try dsimp only at H
      have A13 := am A130
      clear A130
      simp only [Option.some.injEq, Prod.mk.injEq] at H
      obtain ⟨rfl, rfl, rfl, rfl⟩ := H
      go_enter Try.func105, Try.ntmps105
      go_wp2_with (first | ((with_reducible refine gate_dst (N := 3) rfl ?_); refine bxe (N := 3) (cs := #[.int .i8 a1_0, .int .i8 a1_1, .int .i8 a1_2, .int .i8 a1_3, .int .i8 a1_4, .int .i8 a1_5]) (t := 38) ?_; intro gb145 hg w14 hbox hb; have BK145 := am (hbox); have GW145 := am (gN hg (keep_size (w := w) (g := g) (row := none) (ke HK))); have GE145 := am (Nat.le_trans HW0.out (gN hg (keep_size (w := w) (g := g) (row := none) (ke HK)))); have NB0_145 := am (nLi hg (IsS28.lt (show IsS28 w0 _ g s0_0 s0_1 s0_2 from si28 HI0))); have NB145_0 := am (nRi hg (IsS28.lt (show IsS28 w0 _ g s0_0 s0_1 s0_2 from si28 HI0))); replace HI0 := am (IsS28.below (si28 HI0) hb); replace HK := am (KeepBut.trans (ke HK) (KeepBut.of_below hb g none) (.inl rfl)); replace HB := am (below_step (be HB) hb); clear hb hbox hg; have hnb15 := NB145_0.out; have hnc15 := NB0_145.out; obtain ⟨hcz16_0, hcz16_1, hcz16_2, hcz16_3, hcz16_4, hcz16_5, hfz16_0, hfz16_1, hfz16_2, hfz16_3, hfz16_4, hfz16_5⟩ := bx6 BK145) | ((with_reducible refine gate_callee (f := 165) rfl ?_); refine gL (some 8) Try.func165 #[.pointer (some ⟨g, 0, none⟩), .agg #[.int .i8 a1_0, .int .i8 a1_1]] ?_; (with_reducible refine (spec_l01Is.calls g s0_0 s0_1 s0_2 a1_0 a1_1 true t147 t148 t149 w0 _ ?side1 ?side2 A3.out).mono ?_); (case side1 => exact si28 HI0); (case side2 => exact be HB); rintro e w17 ⟨rfl, hi, hb, hk⟩; refine ⟨_, rfl, ?_⟩; replace BK145 := am (KeepBut.blk hk (g' := gb145) (o := .cells #[.int .i8 a1_0, .int .i8 a1_1, .int .i8 a1_2, .int .i8 a1_3, .int .i8 a1_4, .int .i8 a1_5] 38 (0, 0)) (kb BK145) NB145_0.out (by simp)); replace HK := am (KeepBut.trans (ke HK) hk (.inl rfl)); replace HB := am (hb); replace HI0 := am (hi); (try clear hb); (try clear hb2); (try clear hk); (try clear hi); obtain ⟨hcz18_0, hcz18_1, hcz18_2, hcz18_3, hcz18_4, hcz18_5, hfz18_0, hfz18_1, hfz18_2, hfz18_3, hfz18_4, hfz18_5⟩ := bx6 BK145) | (go_at_call 110; (with_reducible refine (spec_l01Depth.calls g t147 t148 t149 a1_0 a1_1 t150 t151 t152 t153 w0 _ ?side1 ?side2 A5.out).mono ?_); (case side1 => exact si28 HI0); (case side2 => exact be HB); rintro e w19 ⟨rfl, hi, hb, hk⟩; replace BK145 := am (KeepBut.blk hk (g' := gb145) (o := .cells #[.int .i8 a1_0, .int .i8 a1_1, .int .i8 a1_2, .int .i8 a1_3, .int .i8 a1_4, .int .i8 a1_5] 38 (0, 0)) (kb BK145) NB145_0.out (by simp)); replace HK := am (KeepBut.trans (ke HK) hk (.inl rfl)); replace HB := am (hb); replace HI0 := am (hi); (try clear hb); (try clear hb2); (try clear hk); (try clear hi); obtain ⟨hcz20_0, hcz20_1, hcz20_2, hcz20_3, hcz20_4, hcz20_5, hfz20_0, hfz20_1, hfz20_2, hfz20_3, hfz20_4, hfz20_5⟩ := bx6 BK145) | (go_at_call 164; (with_reducible refine (spec_l00In.calls (wrap64 (a1_2)) 1 60 true _ A7.out).mono ?_); rintro e w' ⟨rfl, ⟨nd, rfl⟩⟩) | (go_at_call 164; (with_reducible refine (spec_l00In.calls (wrap64 (a1_3)) 0 5 true _ A9.out).mono ?_); rintro e w' ⟨rfl, ⟨nd, rfl⟩⟩) | (go_at_call 164; (with_reducible refine (spec_l00In.calls (wrap64 (a1_4)) 1 30 true _ A11.out).mono ?_); rintro e w' ⟨rfl, ⟨nd, rfl⟩⟩) | (go_at_call 164; (with_reducible refine (spec_l00In.calls (wrap64 (a1_5)) 0 9 t157 _ A13.out).mono ?_); rintro e w' ⟨rfl, ⟨nd, rfl⟩⟩))
      go_ret
      exact ⟨by first | rfl | (simp [errW_none, errW_some] <;> rfl) | (simp [*, errW_none, errW_some] <;> rfl), si28 HI0, be HB, ke HK⟩
     ·replace c12 := Bool.eq_false_iff.mpr c12
      subst c12
      have H1 : (some (false, t151, t152, t153)) = some (r1, r2, r3, r4) := by rw [if_neg (show ¬ (false = true) by decide)] at H; exact H
      clear H
      have H := H1
      clear H1
      simp only [Option.some.injEq, Prod.mk.injEq] at H
      obtain ⟨rfl, rfl, rfl, rfl⟩ := H
      go_enter Try.func105, Try.ntmps105
      go_wp2_with (first | ((with_reducible refine gate_dst (N := 3) rfl ?_); refine bxe (N := 3) (cs := #[.int .i8 a1_0, .int .i8 a1_1, .int .i8 a1_2, .int .i8 a1_3, .int .i8 a1_4, .int .i8 a1_5]) (t := 38) ?_; intro gb145 hg w21 hbox hb; have BK145 := am (hbox); have GW145 := am (gN hg (keep_size (w := w) (g := g) (row := none) (ke HK))); have GE145 := am (Nat.le_trans HW0.out (gN hg (keep_size (w := w) (g := g) (row := none) (ke HK)))); have NB0_145 := am (nLi hg (IsS28.lt (show IsS28 w0 _ g s0_0 s0_1 s0_2 from si28 HI0))); have NB145_0 := am (nRi hg (IsS28.lt (show IsS28 w0 _ g s0_0 s0_1 s0_2 from si28 HI0))); replace HI0 := am (IsS28.below (si28 HI0) hb); replace HK := am (KeepBut.trans (ke HK) (KeepBut.of_below hb g none) (.inl rfl)); replace HB := am (below_step (be HB) hb); clear hb hbox hg; have hnb22 := NB145_0.out; have hnc22 := NB0_145.out; obtain ⟨hcz23_0, hcz23_1, hcz23_2, hcz23_3, hcz23_4, hcz23_5, hfz23_0, hfz23_1, hfz23_2, hfz23_3, hfz23_4, hfz23_5⟩ := bx6 BK145) | ((with_reducible refine gate_callee (f := 165) rfl ?_); refine gL (some 8) Try.func165 #[.pointer (some ⟨g, 0, none⟩), .agg #[.int .i8 a1_0, .int .i8 a1_1]] ?_; (with_reducible refine (spec_l01Is.calls g s0_0 s0_1 s0_2 a1_0 a1_1 true t147 t148 t149 w0 _ ?side1 ?side2 A3.out).mono ?_); (case side1 => exact si28 HI0); (case side2 => exact be HB); rintro e w24 ⟨rfl, hi, hb, hk⟩; refine ⟨_, rfl, ?_⟩; replace BK145 := am (KeepBut.blk hk (g' := gb145) (o := .cells #[.int .i8 a1_0, .int .i8 a1_1, .int .i8 a1_2, .int .i8 a1_3, .int .i8 a1_4, .int .i8 a1_5] 38 (0, 0)) (kb BK145) NB145_0.out (by simp)); replace HK := am (KeepBut.trans (ke HK) hk (.inl rfl)); replace HB := am (hb); replace HI0 := am (hi); (try clear hb); (try clear hb2); (try clear hk); (try clear hi); obtain ⟨hcz25_0, hcz25_1, hcz25_2, hcz25_3, hcz25_4, hcz25_5, hfz25_0, hfz25_1, hfz25_2, hfz25_3, hfz25_4, hfz25_5⟩ := bx6 BK145) | (go_at_call 110; (with_reducible refine (spec_l01Depth.calls g t147 t148 t149 a1_0 a1_1 t150 t151 t152 t153 w0 _ ?side1 ?side2 A5.out).mono ?_); (case side1 => exact si28 HI0); (case side2 => exact be HB); rintro e w26 ⟨rfl, hi, hb, hk⟩; replace BK145 := am (KeepBut.blk hk (g' := gb145) (o := .cells #[.int .i8 a1_0, .int .i8 a1_1, .int .i8 a1_2, .int .i8 a1_3, .int .i8 a1_4, .int .i8 a1_5] 38 (0, 0)) (kb BK145) NB145_0.out (by simp)); replace HK := am (KeepBut.trans (ke HK) hk (.inl rfl)); replace HB := am (hb); replace HI0 := am (hi); (try clear hb); (try clear hb2); (try clear hk); (try clear hi); obtain ⟨hcz27_0, hcz27_1, hcz27_2, hcz27_3, hcz27_4, hcz27_5, hfz27_0, hfz27_1, hfz27_2, hfz27_3, hfz27_4, hfz27_5⟩ := bx6 BK145) | (go_at_call 164; (with_reducible refine (spec_l00In.calls (wrap64 (a1_2)) 1 60 true _ A7.out).mono ?_); rintro e w' ⟨rfl, ⟨nd, rfl⟩⟩) | (go_at_call 164; (with_reducible refine (spec_l00In.calls (wrap64 (a1_3)) 0 5 true _ A9.out).mono ?_); rintro e w' ⟨rfl, ⟨nd, rfl⟩⟩) | (go_at_call 164; (with_reducible refine (spec_l00In.calls (wrap64 (a1_4)) 1 30 false _ A11.out).mono ?_); rintro e w' ⟨rfl, ⟨nd, rfl⟩⟩))
      go_ret
      exact ⟨by first | rfl | (simp [errW_none, errW_some] <;> rfl) | (simp [*, errW_none, errW_some] <;> rfl), si28 HI0, be HB, ke HK⟩
    ·replace c10 := Bool.eq_false_iff.mpr c10
     subst c10
     have H1 : (some (false, t151, t152, t153)) = some (r1, r2, r3, r4) := by rw [if_neg (show ¬ (false = true) by decide)] at H; exact H
     clear H
     have H := H1
     clear H1
     simp only [Option.some.injEq, Prod.mk.injEq] at H
     obtain ⟨rfl, rfl, rfl, rfl⟩ := H
     go_enter Try.func105, Try.ntmps105
     go_wp2_with (first | ((with_reducible refine gate_dst (N := 3) rfl ?_); refine bxe (N := 3) (cs := #[.int .i8 a1_0, .int .i8 a1_1, .int .i8 a1_2, .int .i8 a1_3, .int .i8 a1_4, .int .i8 a1_5]) (t := 38) ?_; intro gb145 hg w28 hbox hb; have BK145 := am (hbox); have GW145 := am (gN hg (keep_size (w := w) (g := g) (row := none) (ke HK))); have GE145 := am (Nat.le_trans HW0.out (gN hg (keep_size (w := w) (g := g) (row := none) (ke HK)))); have NB0_145 := am (nLi hg (IsS28.lt (show IsS28 w0 _ g s0_0 s0_1 s0_2 from si28 HI0))); have NB145_0 := am (nRi hg (IsS28.lt (show IsS28 w0 _ g s0_0 s0_1 s0_2 from si28 HI0))); replace HI0 := am (IsS28.below (si28 HI0) hb); replace HK := am (KeepBut.trans (ke HK) (KeepBut.of_below hb g none) (.inl rfl)); replace HB := am (below_step (be HB) hb); clear hb hbox hg; have hnb29 := NB145_0.out; have hnc29 := NB0_145.out; obtain ⟨hcz30_0, hcz30_1, hcz30_2, hcz30_3, hcz30_4, hcz30_5, hfz30_0, hfz30_1, hfz30_2, hfz30_3, hfz30_4, hfz30_5⟩ := bx6 BK145) | ((with_reducible refine gate_callee (f := 165) rfl ?_); refine gL (some 8) Try.func165 #[.pointer (some ⟨g, 0, none⟩), .agg #[.int .i8 a1_0, .int .i8 a1_1]] ?_; (with_reducible refine (spec_l01Is.calls g s0_0 s0_1 s0_2 a1_0 a1_1 true t147 t148 t149 w0 _ ?side1 ?side2 A3.out).mono ?_); (case side1 => exact si28 HI0); (case side2 => exact be HB); rintro e w31 ⟨rfl, hi, hb, hk⟩; refine ⟨_, rfl, ?_⟩; replace BK145 := am (KeepBut.blk hk (g' := gb145) (o := .cells #[.int .i8 a1_0, .int .i8 a1_1, .int .i8 a1_2, .int .i8 a1_3, .int .i8 a1_4, .int .i8 a1_5] 38 (0, 0)) (kb BK145) NB145_0.out (by simp)); replace HK := am (KeepBut.trans (ke HK) hk (.inl rfl)); replace HB := am (hb); replace HI0 := am (hi); (try clear hb); (try clear hb2); (try clear hk); (try clear hi); obtain ⟨hcz32_0, hcz32_1, hcz32_2, hcz32_3, hcz32_4, hcz32_5, hfz32_0, hfz32_1, hfz32_2, hfz32_3, hfz32_4, hfz32_5⟩ := bx6 BK145) | (go_at_call 110; (with_reducible refine (spec_l01Depth.calls g t147 t148 t149 a1_0 a1_1 t150 t151 t152 t153 w0 _ ?side1 ?side2 A5.out).mono ?_); (case side1 => exact si28 HI0); (case side2 => exact be HB); rintro e w33 ⟨rfl, hi, hb, hk⟩; replace BK145 := am (KeepBut.blk hk (g' := gb145) (o := .cells #[.int .i8 a1_0, .int .i8 a1_1, .int .i8 a1_2, .int .i8 a1_3, .int .i8 a1_4, .int .i8 a1_5] 38 (0, 0)) (kb BK145) NB145_0.out (by simp)); replace HK := am (KeepBut.trans (ke HK) hk (.inl rfl)); replace HB := am (hb); replace HI0 := am (hi); (try clear hb); (try clear hb2); (try clear hk); (try clear hi); obtain ⟨hcz34_0, hcz34_1, hcz34_2, hcz34_3, hcz34_4, hcz34_5, hfz34_0, hfz34_1, hfz34_2, hfz34_3, hfz34_4, hfz34_5⟩ := bx6 BK145) | (go_at_call 164; (with_reducible refine (spec_l00In.calls (wrap64 (a1_2)) 1 60 true _ A7.out).mono ?_); rintro e w' ⟨rfl, ⟨nd, rfl⟩⟩) | (go_at_call 164; (with_reducible refine (spec_l00In.calls (wrap64 (a1_3)) 0 5 false _ A9.out).mono ?_); rintro e w' ⟨rfl, ⟨nd, rfl⟩⟩))
     go_ret
     exact ⟨by first | rfl | (simp [errW_none, errW_some] <;> rfl) | (simp [*, errW_none, errW_some] <;> rfl), si28 HI0, be HB, ke HK⟩
   ·replace c8 := Bool.eq_false_iff.mpr c8
    subst c8
    have H1 : (some (false, t151, t152, t153)) = some (r1, r2, r3, r4) := by rw [if_neg (show ¬ (false = true) by decide)] at H; exact H
    clear H
    have H := H1
    clear H1
    simp only [Option.some.injEq, Prod.mk.injEq] at H
    obtain ⟨rfl, rfl, rfl, rfl⟩ := H
    go_enter Try.func105, Try.ntmps105
    go_wp2_with (first | ((with_reducible refine gate_dst (N := 3) rfl ?_); refine bxe (N := 3) (cs := #[.int .i8 a1_0, .int .i8 a1_1, .int .i8 a1_2, .int .i8 a1_3, .int .i8 a1_4, .int .i8 a1_5]) (t := 38) ?_; intro gb145 hg w35 hbox hb; have BK145 := am (hbox); have GW145 := am (gN hg (keep_size (w := w) (g := g) (row := none) (ke HK))); have GE145 := am (Nat.le_trans HW0.out (gN hg (keep_size (w := w) (g := g) (row := none) (ke HK)))); have NB0_145 := am (nLi hg (IsS28.lt (show IsS28 w0 _ g s0_0 s0_1 s0_2 from si28 HI0))); have NB145_0 := am (nRi hg (IsS28.lt (show IsS28 w0 _ g s0_0 s0_1 s0_2 from si28 HI0))); replace HI0 := am (IsS28.below (si28 HI0) hb); replace HK := am (KeepBut.trans (ke HK) (KeepBut.of_below hb g none) (.inl rfl)); replace HB := am (below_step (be HB) hb); clear hb hbox hg; have hnb36 := NB145_0.out; have hnc36 := NB0_145.out; obtain ⟨hcz37_0, hcz37_1, hcz37_2, hcz37_3, hcz37_4, hcz37_5, hfz37_0, hfz37_1, hfz37_2, hfz37_3, hfz37_4, hfz37_5⟩ := bx6 BK145) | ((with_reducible refine gate_callee (f := 165) rfl ?_); refine gL (some 8) Try.func165 #[.pointer (some ⟨g, 0, none⟩), .agg #[.int .i8 a1_0, .int .i8 a1_1]] ?_; (with_reducible refine (spec_l01Is.calls g s0_0 s0_1 s0_2 a1_0 a1_1 true t147 t148 t149 w0 _ ?side1 ?side2 A3.out).mono ?_); (case side1 => exact si28 HI0); (case side2 => exact be HB); rintro e w38 ⟨rfl, hi, hb, hk⟩; refine ⟨_, rfl, ?_⟩; replace BK145 := am (KeepBut.blk hk (g' := gb145) (o := .cells #[.int .i8 a1_0, .int .i8 a1_1, .int .i8 a1_2, .int .i8 a1_3, .int .i8 a1_4, .int .i8 a1_5] 38 (0, 0)) (kb BK145) NB145_0.out (by simp)); replace HK := am (KeepBut.trans (ke HK) hk (.inl rfl)); replace HB := am (hb); replace HI0 := am (hi); (try clear hb); (try clear hb2); (try clear hk); (try clear hi); obtain ⟨hcz39_0, hcz39_1, hcz39_2, hcz39_3, hcz39_4, hcz39_5, hfz39_0, hfz39_1, hfz39_2, hfz39_3, hfz39_4, hfz39_5⟩ := bx6 BK145) | (go_at_call 110; (with_reducible refine (spec_l01Depth.calls g t147 t148 t149 a1_0 a1_1 t150 t151 t152 t153 w0 _ ?side1 ?side2 A5.out).mono ?_); (case side1 => exact si28 HI0); (case side2 => exact be HB); rintro e w40 ⟨rfl, hi, hb, hk⟩; replace BK145 := am (KeepBut.blk hk (g' := gb145) (o := .cells #[.int .i8 a1_0, .int .i8 a1_1, .int .i8 a1_2, .int .i8 a1_3, .int .i8 a1_4, .int .i8 a1_5] 38 (0, 0)) (kb BK145) NB145_0.out (by simp)); replace HK := am (KeepBut.trans (ke HK) hk (.inl rfl)); replace HB := am (hb); replace HI0 := am (hi); (try clear hb); (try clear hb2); (try clear hk); (try clear hi); obtain ⟨hcz41_0, hcz41_1, hcz41_2, hcz41_3, hcz41_4, hcz41_5, hfz41_0, hfz41_1, hfz41_2, hfz41_3, hfz41_4, hfz41_5⟩ := bx6 BK145) | (go_at_call 164; (with_reducible refine (spec_l00In.calls (wrap64 (a1_2)) 1 60 false _ A7.out).mono ?_); rintro e w' ⟨rfl, ⟨nd, rfl⟩⟩))
    go_ret
    exact ⟨by first | rfl | (simp [errW_none, errW_some] <;> rfl) | (simp [*, errW_none, errW_some] <;> rfl), si28 HI0, be HB, ke HK⟩
  ·rw [if_neg c6] at H
   have c6b0 : decide (0 < t150) = false := decide_eq_false c6
   clear c6
   simp only [Option.some.injEq, Prod.mk.injEq] at H
   obtain ⟨rfl, rfl, rfl, rfl⟩ := H
   go_enter Try.func105, Try.ntmps105
   go_wp2_with (first | ((with_reducible refine gate_dst (N := 3) rfl ?_); refine bxe (N := 3) (cs := #[.int .i8 a1_0, .int .i8 a1_1, .int .i8 a1_2, .int .i8 a1_3, .int .i8 a1_4, .int .i8 a1_5]) (t := 38) ?_; intro gb145 hg w42 hbox hb; have BK145 := am (hbox); have GW145 := am (gN hg (keep_size (w := w) (g := g) (row := none) (ke HK))); have GE145 := am (Nat.le_trans HW0.out (gN hg (keep_size (w := w) (g := g) (row := none) (ke HK)))); have NB0_145 := am (nLi hg (IsS28.lt (show IsS28 w0 _ g s0_0 s0_1 s0_2 from si28 HI0))); have NB145_0 := am (nRi hg (IsS28.lt (show IsS28 w0 _ g s0_0 s0_1 s0_2 from si28 HI0))); replace HI0 := am (IsS28.below (si28 HI0) hb); replace HK := am (KeepBut.trans (ke HK) (KeepBut.of_below hb g none) (.inl rfl)); replace HB := am (below_step (be HB) hb); clear hb hbox hg; have hnb43 := NB145_0.out; have hnc43 := NB0_145.out; obtain ⟨hcz44_0, hcz44_1, hcz44_2, hcz44_3, hcz44_4, hcz44_5, hfz44_0, hfz44_1, hfz44_2, hfz44_3, hfz44_4, hfz44_5⟩ := bx6 BK145) | ((with_reducible refine gate_callee (f := 165) rfl ?_); refine gL (some 8) Try.func165 #[.pointer (some ⟨g, 0, none⟩), .agg #[.int .i8 a1_0, .int .i8 a1_1]] ?_; (with_reducible refine (spec_l01Is.calls g s0_0 s0_1 s0_2 a1_0 a1_1 true t147 t148 t149 w0 _ ?side1 ?side2 A3.out).mono ?_); (case side1 => exact si28 HI0); (case side2 => exact be HB); rintro e w45 ⟨rfl, hi, hb, hk⟩; refine ⟨_, rfl, ?_⟩; replace BK145 := am (KeepBut.blk hk (g' := gb145) (o := .cells #[.int .i8 a1_0, .int .i8 a1_1, .int .i8 a1_2, .int .i8 a1_3, .int .i8 a1_4, .int .i8 a1_5] 38 (0, 0)) (kb BK145) NB145_0.out (by simp)); replace HK := am (KeepBut.trans (ke HK) hk (.inl rfl)); replace HB := am (hb); replace HI0 := am (hi); (try clear hb); (try clear hb2); (try clear hk); (try clear hi); obtain ⟨hcz46_0, hcz46_1, hcz46_2, hcz46_3, hcz46_4, hcz46_5, hfz46_0, hfz46_1, hfz46_2, hfz46_3, hfz46_4, hfz46_5⟩ := bx6 BK145) | (go_at_call 110; (with_reducible refine (spec_l01Depth.calls g t147 t148 t149 a1_0 a1_1 t150 t151 t152 t153 w0 _ ?side1 ?side2 A5.out).mono ?_); (case side1 => exact si28 HI0); (case side2 => exact be HB); rintro e w47 ⟨rfl, hi, hb, hk⟩; replace BK145 := am (KeepBut.blk hk (g' := gb145) (o := .cells #[.int .i8 a1_0, .int .i8 a1_1, .int .i8 a1_2, .int .i8 a1_3, .int .i8 a1_4, .int .i8 a1_5] 38 (0, 0)) (kb BK145) NB145_0.out (by simp)); replace HK := am (KeepBut.trans (ke HK) hk (.inl rfl)); replace HB := am (hb); replace HI0 := am (hi); (try clear hb); (try clear hb2); (try clear hk); (try clear hi)))
   go_ret
   exact ⟨by first | rfl | (simp [errW_none, errW_some] <;> rfl) | (simp [*, errW_none, errW_some] <;> rfl), si28 HI0, be HB, ke HK⟩
 ·replace c4 := Bool.eq_false_iff.mpr c4
  subst c4
  have H1 : (some (false, t147, t148, t149)) = some (r1, r2, r3, r4) := by rw [if_neg (show ¬ (false = true) by decide)] at H; exact H
  clear H
  have H := H1
  clear H1
  simp only [Option.some.injEq, Prod.mk.injEq] at H
  obtain ⟨rfl, rfl, rfl, rfl⟩ := H
  go_enter Try.func105, Try.ntmps105
  go_wp2_with (first | ((with_reducible refine gate_dst (N := 3) rfl ?_); refine bxe (N := 3) (cs := #[.int .i8 a1_0, .int .i8 a1_1, .int .i8 a1_2, .int .i8 a1_3, .int .i8 a1_4, .int .i8 a1_5]) (t := 38) ?_; intro gb145 hg w48 hbox hb; have BK145 := am (hbox); have GW145 := am (gN hg (keep_size (w := w) (g := g) (row := none) (ke HK))); have GE145 := am (Nat.le_trans HW0.out (gN hg (keep_size (w := w) (g := g) (row := none) (ke HK)))); have NB0_145 := am (nLi hg (IsS28.lt (show IsS28 w0 _ g s0_0 s0_1 s0_2 from si28 HI0))); have NB145_0 := am (nRi hg (IsS28.lt (show IsS28 w0 _ g s0_0 s0_1 s0_2 from si28 HI0))); replace HI0 := am (IsS28.below (si28 HI0) hb); replace HK := am (KeepBut.trans (ke HK) (KeepBut.of_below hb g none) (.inl rfl)); replace HB := am (below_step (be HB) hb); clear hb hbox hg; have hnb49 := NB145_0.out; have hnc49 := NB0_145.out; obtain ⟨hcz50_0, hcz50_1, hcz50_2, hcz50_3, hcz50_4, hcz50_5, hfz50_0, hfz50_1, hfz50_2, hfz50_3, hfz50_4, hfz50_5⟩ := bx6 BK145) | ((with_reducible refine gate_callee (f := 165) rfl ?_); refine gL (some 8) Try.func165 #[.pointer (some ⟨g, 0, none⟩), .agg #[.int .i8 a1_0, .int .i8 a1_1]] ?_; (with_reducible refine (spec_l01Is.calls g s0_0 s0_1 s0_2 a1_0 a1_1 false t147 t148 t149 w0 _ ?side1 ?side2 A3.out).mono ?_); (case side1 => exact si28 HI0); (case side2 => exact be HB); rintro e w51 ⟨rfl, hi, hb, hk⟩; refine ⟨_, rfl, ?_⟩; replace BK145 := am (KeepBut.blk hk (g' := gb145) (o := .cells #[.int .i8 a1_0, .int .i8 a1_1, .int .i8 a1_2, .int .i8 a1_3, .int .i8 a1_4, .int .i8 a1_5] 38 (0, 0)) (kb BK145) NB145_0.out (by simp)); replace HK := am (KeepBut.trans (ke HK) hk (.inl rfl)); replace HB := am (hb); replace HI0 := am (hi); (try clear hb); (try clear hb2); (try clear hk); (try clear hi)))
  go_ret
  exact ⟨by first | rfl | (simp [errW_none, errW_some] <;> rfl) | (simp [*, errW_none, errW_some] <;> rfl), si28 HI0, be HB, ke HK⟩

/-! ### spec_l01All: function 109 -/
mutual
def spec_l01All.l0 : Nat → List (S36) → Int → Int → Int → (Nat → Int) → Option ((List (S36)) × Int × Int × (Nat → Int))
 | 0, _, _, _, _, _ => none
 | k + 1, x3, x4, x1000, x1001, x1002 => if x4 < x1001 then (spec_l01All.l1 k x3 x4 0 x1000 x1001 x1002) else (some (x3, x1000, x1001, x1002))
def spec_l01All.l1 : Nat → List (S36) → Int → Int → Int → Int → (Nat → Int) → Option ((List (S36)) × Int × Int × (Nat → Int))
 | 0, _, _, _, _, _, _ => none
 | k + 1, x3, x4, x5, x1000, x1001, x1002 => if x5 < x1000 then (if x3.length < 70368744177664 then (spec_l01All.l1 k (x3 ++ [(⟨x5, x4⟩ : S36)]) x4 (IntKind.i8.wrap (x5 + 1)) x1000 x1001 x1002) else (none)) else (spec_l01All.l0 k x3 (IntKind.i8.wrap (x4 + 1)) x1000 x1001 x1002)
end
def spec_l01All.f (k : Nat) (s0_0 : Int) (s0_1 : Int) (s0_2 : (Nat → Int)) : Option ((List (S36)) × Int × Int × (Nat → Int)) := spec_l01All.l0 k (([] : List (S36))) 0 s0_0 s0_1 s0_2
set_option maxHeartbeats 8000000 in
set_option maxRecDepth 100000 in
theorem spec_l01All.calls (k : Nat) (g : Nat) (s0_0 : Int) (s0_1 : Int) (s0_2 : (Nat → Int)) (r1 : List (S36)) (r2 : Int) (r3 : Int) (r4 : (Nat → Int)) (w0 w : World) (hI : IsS28 w0 w g s0_0 s0_1 s0_2) (hB : Below w0.heap.size w0 w) (h : spec_l01All.f k s0_0 s0_1 s0_2 = some (r1, r2, r3, r4)) :
  Calls Try.prog 109 #[.pointer (some ⟨g, 0, none⟩)] w fun e w' => ∃ v0_ : Value, e = .returned (v0_) ∧ Kd.R k36 36 w' w.heap.size (fun _ => True) v0_ r1 ∧ IsS28 w0 w' g r2 r3 r4 ∧ Below w0.heap.size w0 w' ∧ KeepBut w w' g none := by
 have hu36 := Try.underlying36
 have HI0 := am hI
 have HK := am (KeepBut.refl w g none)
 have HL := am hB.size
 clear hI
 have HW0 := am hB.size
 have HB := am hB
 clear hB
 have H : (spec_l01All.l0 k (([] : List (S36))) 0 s0_0 s0_1 s0_2) = some (r1, r2, r3, r4) := h
 clear h
 obtain ⟨y158, hy158⟩ : ∃ y_ : List (S36), y_ = (([] : List (S36))) := ⟨_, rfl⟩
 replace H : (spec_l01All.l0 k y158 0 s0_0 s0_1 s0_2) = some (r1, r2, r3, r4) := by first | (rw [hy158]; with_reducible exact H) | (have H2_ := (Option.bind_some _ _).symm.trans H; rw [hy158]; with_reducible exact H2_) | (have H2_ := (Option.bind_some _ _).symm.trans H; with_reducible exact H2_) | with_reducible exact H | (rw [hy158]; exact H) | exact H
 have Ny158 := am hy158
 clear hy158
 have H' := am H
 clear H
 go_enter Try.func109, Try.ntmps109
 go_wp2_with (first | ((with_reducible refine gate_dst (N := 6) rfl ?_); refine Kd.R_lit k36 _ 36 ?hg (N := 6) ?hd (xs := ([] : List (S36))) (inner := []) (ok := fun _ => True) (okp := fun _ => True) ?hr ?hp (fun _ hk => hk) trivial (Below.refl _ _) (Nat.le_refl _) (by simp) ?_; (case hd => rfl); (case hg => rfl); (case hr => first | (go_simp; done) | (go_simp; rfl)); (case hp => exact (Reps.none _ _)); intro v159 w2 ho3 hb hg_ hnew_; clear hg_ hnew_; (first | rw [← Ny158.out] at ho3 | (simp only [Int.reduceToNat] at ho3; rw [← Ny158.out] at ho3)); have HO160 := am (Kd.R_lower ho3 (keep_size (w := w) (g := g) (row := none) (ke HK))); replace HI0 := am (IsS28.below (si28 HI0) hb); replace HK := am (KeepBut.trans (ke HK) (KeepBut.of_below hb g none) (.inl rfl)); replace HB := am (below_step (be HB) hb); clear hb ho3))
 go_loopg [3, 4] k (fun kq v3 v4 w' => ∃ (x3_1 : List (S36)) (x4_1 : Int), v4 = .int .i8 x4_1 ∧ Aside0 (spec_l01All.l0 kq x3_1 x4_1 s0_0 s0_1 s0_2 = some (r1, r2, r3, r4)) ∧ Aside0 (kq ≤ k) ∧ Aside0 (Kd.R k36 36 w' w.heap.size (fun _ => True) v3 x3_1) ∧ Aside0 (IsS28 w0 w' g s0_0 s0_1 s0_2) ∧ Aside0 (KeepBut w w' g none) ∧ Aside0 (Below w0.heap.size w0 w'))
 case atStart => exact ⟨(y158), (0), vv, H', ⟨Nat.le_refl _⟩, ⟨kr HO160⟩, ⟨si28 HI0⟩, ⟨ke HK⟩, ⟨be HB⟩⟩
 case round =>
  clear H'
  try clear c1
  try clear p2
  obtain ⟨x3_1, x4_1, rfl, HA, HK1, HO_3, HI0, HK, HB⟩ := hrel
  cases gk with
  | zero => exact absurd HA.out (by simp [spec_l01All.l0])
  | succ k1 =>
   have H := HA.out
   clear HA
   simp only [spec_l01All.l0] at H
   by_cases c4 : x4_1 < s0_1
   ·rw [if_pos c4] at H
    have c4b0 : decide (x4_1 < s0_1) = true := decide_eq_true c4
    clear c4
    have H' := am H
    clear H
    obtain ⟨HGz5, hgz5⟩ := HI0.out
    have hcz5_0 := cellS28_0 HGz5
    have hcz5_1 := cellS28_1 HGz5
    have hwz5 := lv28_at HGz5; have haz5 := at_cells HGz5; have hyz5 := BayAt28_of HGz5; have hvz5 := lvv_of HGz5
    have hfz5_0 := blk_frozen HGz5 0
    have hfz5_1 := blk_frozen HGz5 1
    have hfz5_2 := blk_frozen HGz5 2
    clear HGz5 hgz5
    go_wp2
    go_loopg [3, 5] k1 (fun kq v3 v5 w' => ∃ (x3_2 : List (S36)) (x5_2 : Int), v5 = .int .i8 x5_2 ∧ Aside0 (spec_l01All.l1 kq x3_2 x4_1 x5_2 s0_0 s0_1 s0_2 = some (r1, r2, r3, r4)) ∧ Aside0 (kq ≤ k1) ∧ Aside0 (Kd.R k36 36 w' w.heap.size (fun _ => True) v3 x3_2) ∧ Aside0 (IsS28 w0 w' g s0_0 s0_1 s0_2) ∧ Aside0 (KeepBut w w' g none) ∧ Aside0 (Below w0.heap.size w0 w'))
    case atStart => exact ⟨(x3_1), (0), vv, H', ⟨Nat.le_refl _⟩, ⟨kr HO_3⟩, ⟨si28 HI0⟩, ⟨ke HK⟩, ⟨be HB⟩⟩
    case round =>
     clear H'
     try clear c1
     try clear p2
     try clear c4
     try clear c4b0
     try clear hcz5_0
     try clear hcz5_1
     try clear hfz5_0
     try clear hfz5_1
     try clear hfz5_2
     try clear p2
     obtain ⟨x3_2, x5_2, rfl, HA, HK2, HO_3, HI0, HK, HB⟩ := hrel
     cases gk with
     | zero => exact absurd HA.out (by simp [spec_l01All.l1])
     | succ k2 =>
      have H := HA.out
      clear HA
      simp only [spec_l01All.l1] at H
      by_cases c6 : x5_2 < s0_0
      ·rw [if_pos c6] at H
       have c6b0 : decide (x5_2 < s0_0) = true := decide_eq_true c6
       clear c6
       by_cases c7 : x3_2.length < 70368744177664
       ·rw [if_pos c7] at H
        have LMc7 := am c7
        clear c7
        obtain ⟨y161, hy161⟩ : ∃ y_ : List (S36), y_ = (x3_2 ++ [(⟨x5_2, x4_1⟩ : S36)]) := ⟨_, rfl⟩
        replace H : (spec_l01All.l1 k2 y161 x4_1 (IntKind.i8.wrap (x5_2 + 1)) s0_0 s0_1 s0_2) = some (r1, r2, r3, r4) := by first | (rw [hy161]; with_reducible exact H) | (have H2_ := (Option.bind_some _ _).symm.trans H; rw [hy161]; with_reducible exact H2_) | (have H2_ := (Option.bind_some _ _).symm.trans H; with_reducible exact H2_) | with_reducible exact H | (rw [hy161]; exact H) | exact H
        have Ny161 := am hy161
        clear hy161
        have H' := am H
        clear H
        obtain ⟨HGz8, hgz8⟩ := HI0.out
        have hcz8_0 := cellS28_0 HGz8
        have hcz8_1 := cellS28_1 HGz8
        have hwz8 := lv28_at HGz8; have haz8 := at_cells HGz8; have hyz8 := BayAt28_of HGz8; have hvz8 := lvv_of HGz8
        have hfz8_0 := blk_frozen HGz8 0
        have hfz8_1 := blk_frozen HGz8 1
        have hfz8_2 := blk_frozen HGz8 2
        clear HGz8 hgz8
        go_wp2_with (first | ((with_reducible refine gate_builtin (b := .append) (xs := #[.tmp 23, .tmp 27]) rfl ?_); at_builtin; refine Kd.R_append k36 w.heap.size rfl (.tmp 23) (.tmp 27) 56 36 (.agg #[(.int .i8 0), (.int .i8 0)]) 2 rfl Try.underlying56 info36 rfl (by decide) (by omega) u3 x3_2 (⟨x5_2, x4_1⟩ : S36) [.int .i8 x5_2, .int .i8 x4_1] (fun _ => True) (fun _ => False) rfl rfl ?aP (fun _ hk => hk.elim) ?aF ?aO (Below.refl _ _) ?aS ?aL ?_; (case aP => exact k36_mkM _ _ _ (⟨x5_2, x4_1⟩ : S36)); (case aF => exact (fun _ _ => trivial)); (case aO => exact (kr HO_3)); (case aS => exact (keep_size (w := w) (g := g) (row := none) (ke HK))); (case aL => have := LMc7.out; omega); intro v162 w9 ho hb hg hat; rw [← Ny161.out] at ho; have HO163 := am (ho); replace HI0 := am (IsS28.grown (si28 HI0) hg (IsS28.own_ne HI0.out HO_3.out (by decide))); replace HB := am (below_weaken (be HB) HL.out hb); replace HK := am (KeepBut.trans (ke HK) (KeepBut.of_grown hg g) (Kd.R_base2 HO_3.out)); clear HO_3; clear ho hb hg hat))
        go_roundg k2
        case measure => have := HK1.out; have := HK2.out; omega
        case rel => exact ⟨(y161), (IntKind.i8.wrap (x5_2 + 1)), vv, H', ⟨by have := HK1.out; have := HK2.out; omega⟩, ⟨kr HO163⟩, ⟨si28 HI0⟩, ⟨ke HK⟩, ⟨be HB⟩⟩
       ·rw [if_neg c7] at H
        exact absurd H (by simp)
      ·rw [if_neg c6] at H
       have c6b0 : decide (x5_2 < s0_0) = false := decide_eq_false c6
       clear c6
       have H' := am H
       clear H
       obtain ⟨HGz10, hgz10⟩ := HI0.out
       have hcz10_0 := cellS28_0 HGz10
       have hcz10_1 := cellS28_1 HGz10
       have hwz10 := lv28_at HGz10; have haz10 := at_cells HGz10; have hyz10 := BayAt28_of HGz10; have hvz10 := lvv_of HGz10
       have hfz10_0 := blk_frozen HGz10 0
       have hfz10_1 := blk_frozen HGz10 1
       have hfz10_2 := blk_frozen HGz10 2
       clear HGz10 hgz10
       go_wp2
       go_roundg k2
       case measure => have := HK1.out; have := HK2.out; omega
       case rel => exact ⟨(x3_2), (IntKind.i8.wrap (x4_1 + 1)), vv, H', ⟨by have := HK1.out; have := HK2.out; omega⟩, ⟨kr HO_3⟩, ⟨si28 HI0⟩, ⟨ke HK⟩, ⟨be HB⟩⟩
   ·rw [if_neg c4] at H
    have c4b0 : decide (x4_1 < s0_1) = false := decide_eq_false c4
    clear c4
    simp only [Option.some.injEq, Prod.mk.injEq] at H
    obtain ⟨rfl, rfl, rfl, rfl⟩ := H
    obtain ⟨HGz11, hgz11⟩ := HI0.out
    have hcz11_0 := cellS28_0 HGz11
    have hcz11_1 := cellS28_1 HGz11
    have hwz11 := lv28_at HGz11; have haz11 := at_cells HGz11; have hyz11 := BayAt28_of HGz11; have hvz11 := lvv_of HGz11
    have hfz11_0 := blk_frozen HGz11 0
    have hfz11_1 := blk_frozen HGz11 1
    have hfz11_2 := blk_frozen HGz11 2
    clear HGz11 hgz11
    go_wp2
    go_ret
    exact ⟨_, by first | rfl | (simp [errW_none, errW_some] <;> rfl) | (simp [*, errW_none, errW_some] <;> rfl), by (with_reducible repeat (first | apply Kd.R_alloc | apply Kd.R_drewN | apply Kd.R_drew)); exact HO_3.out, si28 HI0, be HB, ke HK⟩

/-! ### spec_l01Reach: function 168 -/
def spec_l01Reach.l0 : Nat → Int → Int → Int → Int → (Nat → Int) → Option (Int × Int × Int × (Nat → Int))
 | 0, _, _, _, _, _ => none
 | k + 1, x6, x7, x1000, x1001, x1002 => if (wrap64 ((wrap64 (x7 + 1)) * (wrap64 (x7 + 1)))) ≤ x6 then (spec_l01Reach.l0 k x6 (wrap64 (x7 + 1)) x1000 x1001 x1002) else (some (x7, x1000, x1001, x1002))
def spec_l01Reach.f (k : Nat) (s0_0 : Int) (s0_1 : Int) (s0_2 : (Nat → Int)) (a1_0 : Int) (a1_1 : Int) (a1_2 : Int) (a1_3 : Int) (a1_4 : Int) (a1_5 : Int) : Option (Int × Int × Int × (Nat → Int)) := (spec_l01Depth.f s0_0 s0_1 s0_2 a1_0 a1_1).bind fun bt165 => (if (wrap64 ((wrap64 ((wrap64 (a1_2)) * (wrap64 (a1_2)))) - (wrap64 (bt165.1 * bt165.1)))) < 0 then (some ((-1), bt165.2.1, bt165.2.2.1, bt165.2.2.2)) else (spec_l01Reach.l0 k (wrap64 ((wrap64 ((wrap64 (a1_2)) * (wrap64 (a1_2)))) - (wrap64 (bt165.1 * bt165.1)))) 0 bt165.2.1 bt165.2.2.1 bt165.2.2.2))
set_option maxHeartbeats 8000000 in
set_option maxRecDepth 100000 in
theorem spec_l01Reach.calls (k : Nat) (g : Nat) (s0_0 : Int) (s0_1 : Int) (s0_2 : (Nat → Int)) (a1_0 : Int) (a1_1 : Int) (a1_2 : Int) (a1_3 : Int) (a1_4 : Int) (a1_5 : Int) (r1 : Int) (r2 : Int) (r3 : Int) (r4 : (Nat → Int)) (w0 w : World) (hI : IsS28 w0 w g s0_0 s0_1 s0_2) (hB : Below w0.heap.size w0 w) (h : spec_l01Reach.f k s0_0 s0_1 s0_2 a1_0 a1_1 a1_2 a1_3 a1_4 a1_5 = some (r1, r2, r3, r4)) :
  Calls Try.prog 168 #[.pointer (some ⟨g, 0, none⟩), .agg #[.int .i8 a1_0, .int .i8 a1_1, .int .i8 a1_2, .int .i8 a1_3, .int .i8 a1_4, .int .i8 a1_5]] w fun e w' => e = .returned (.int .i64 r1) ∧ IsS28 w0 w' g r2 r3 r4 ∧ Below w0.heap.size w0 w' ∧ KeepBut w w' g none := by
 have hu38 := Try.underlying38
 have hu36 := Try.underlying36
 have HI0 := am hI
 have HK := am (KeepBut.refl w g none)
 have HL := am hB.size
 clear hI
 have HW0 := am hB.size
 have HB := am hB
 clear hB
 have H : ((spec_l01Depth.f s0_0 s0_1 s0_2 a1_0 a1_1).bind fun bt165 => (if (wrap64 ((wrap64 ((wrap64 (a1_2)) * (wrap64 (a1_2)))) - (wrap64 (bt165.1 * bt165.1)))) < 0 then (some ((-1), bt165.2.1, bt165.2.2.1, bt165.2.2.2)) else (spec_l01Reach.l0 k (wrap64 ((wrap64 ((wrap64 (a1_2)) * (wrap64 (a1_2)))) - (wrap64 (bt165.1 * bt165.1)))) 0 bt165.2.1 bt165.2.2.1 bt165.2.2.2))) = some (r1, r2, r3, r4) := h
 clear h
 replace H := Option.bind_eq_some_iff.mp H
 obtain ⟨⟨t165, t166, t167, t168⟩, A30, H⟩ := H
 try dsimp only at H
 have A3 := am A30
 clear A30
 by_cases c4 : (wrap64 ((wrap64 ((wrap64 (a1_2)) * (wrap64 (a1_2)))) - (wrap64 (t165 * t165)))) < 0
 ·rw [if_pos c4] at H
  have c4b0 : decide ((wrap64 ((wrap64 ((wrap64 (a1_2)) * (wrap64 (a1_2)))) - (wrap64 (t165 * t165)))) < 0) = true := decide_eq_true c4
  clear c4
  simp only [Option.some.injEq, Prod.mk.injEq] at H
  obtain ⟨rfl, rfl, rfl, rfl⟩ := H
  go_enter Try.func168, Try.ntmps168
  go_wp2_with (first | ((with_reducible refine gate_dst (N := 3) rfl ?_); refine bxe (N := 3) (cs := #[.int .i8 a1_0, .int .i8 a1_1, .int .i8 a1_2, .int .i8 a1_3, .int .i8 a1_4, .int .i8 a1_5]) (t := 38) ?_; intro gb164 hg w5 hbox hb; have BK164 := am (hbox); have GW164 := am (gN hg (keep_size (w := w) (g := g) (row := none) (ke HK))); have GE164 := am (Nat.le_trans HW0.out (gN hg (keep_size (w := w) (g := g) (row := none) (ke HK)))); have NB0_164 := am (nLi hg (IsS28.lt (show IsS28 w0 _ g s0_0 s0_1 s0_2 from si28 HI0))); have NB164_0 := am (nRi hg (IsS28.lt (show IsS28 w0 _ g s0_0 s0_1 s0_2 from si28 HI0))); replace HI0 := am (IsS28.below (si28 HI0) hb); replace HK := am (KeepBut.trans (ke HK) (KeepBut.of_below hb g none) (.inl rfl)); replace HB := am (below_step (be HB) hb); clear hb hbox hg; have hnb6 := NB164_0.out; have hnc6 := NB0_164.out; obtain ⟨hcz7_0, hcz7_1, hcz7_2, hcz7_3, hcz7_4, hcz7_5, hfz7_0, hfz7_1, hfz7_2, hfz7_3, hfz7_4, hfz7_5⟩ := bx6 BK164) | ((with_reducible refine gate_callee (f := 110) rfl ?_); refine gL (some 11) Try.func110 #[.pointer (some ⟨g, 0, none⟩), .agg #[.int .i8 a1_0, .int .i8 a1_1]] ?_; (with_reducible refine (spec_l01Depth.calls g s0_0 s0_1 s0_2 a1_0 a1_1 t165 t166 t167 t168 w0 _ ?side1 ?side2 A3.out).mono ?_); (case side1 => exact si28 HI0); (case side2 => exact be HB); rintro e w8 ⟨rfl, hi, hb, hk⟩; refine ⟨_, rfl, ?_⟩; replace BK164 := am (KeepBut.blk hk (g' := gb164) (o := .cells #[.int .i8 a1_0, .int .i8 a1_1, .int .i8 a1_2, .int .i8 a1_3, .int .i8 a1_4, .int .i8 a1_5] 38 (0, 0)) (kb BK164) NB164_0.out (by simp)); replace HK := am (KeepBut.trans (ke HK) hk (.inl rfl)); replace HB := am (hb); replace HI0 := am (hi); (try clear hb); (try clear hb2); (try clear hk); (try clear hi); obtain ⟨hcz9_0, hcz9_1, hcz9_2, hcz9_3, hcz9_4, hcz9_5, hfz9_0, hfz9_1, hfz9_2, hfz9_3, hfz9_4, hfz9_5⟩ := bx6 BK164))
  go_ret
  exact ⟨by first | rfl | (simp [errW_none, errW_some] <;> rfl) | (simp [*, errW_none, errW_some] <;> rfl), si28 HI0, be HB, ke HK⟩
 ·rw [if_neg c4] at H
  have c4b0 : decide ((wrap64 ((wrap64 ((wrap64 (a1_2)) * (wrap64 (a1_2)))) - (wrap64 (t165 * t165)))) < 0) = false := decide_eq_false c4
  clear c4
  have H' := am H
  clear H
  go_enter Try.func168, Try.ntmps168
  go_wp2_with (first | ((with_reducible refine gate_dst (N := 3) rfl ?_); refine bxe (N := 3) (cs := #[.int .i8 a1_0, .int .i8 a1_1, .int .i8 a1_2, .int .i8 a1_3, .int .i8 a1_4, .int .i8 a1_5]) (t := 38) ?_; intro gb164 hg w10 hbox hb; have BK164 := am (hbox); have GW164 := am (gN hg (keep_size (w := w) (g := g) (row := none) (ke HK))); have GE164 := am (Nat.le_trans HW0.out (gN hg (keep_size (w := w) (g := g) (row := none) (ke HK)))); have NB0_164 := am (nLi hg (IsS28.lt (show IsS28 w0 _ g s0_0 s0_1 s0_2 from si28 HI0))); have NB164_0 := am (nRi hg (IsS28.lt (show IsS28 w0 _ g s0_0 s0_1 s0_2 from si28 HI0))); replace HI0 := am (IsS28.below (si28 HI0) hb); replace HK := am (KeepBut.trans (ke HK) (KeepBut.of_below hb g none) (.inl rfl)); replace HB := am (below_step (be HB) hb); clear hb hbox hg; have hnb11 := NB164_0.out; have hnc11 := NB0_164.out; obtain ⟨hcz12_0, hcz12_1, hcz12_2, hcz12_3, hcz12_4, hcz12_5, hfz12_0, hfz12_1, hfz12_2, hfz12_3, hfz12_4, hfz12_5⟩ := bx6 BK164) | ((with_reducible refine gate_callee (f := 110) rfl ?_); refine gL (some 11) Try.func110 #[.pointer (some ⟨g, 0, none⟩), .agg #[.int .i8 a1_0, .int .i8 a1_1]] ?_; (with_reducible refine (spec_l01Depth.calls g s0_0 s0_1 s0_2 a1_0 a1_1 t165 t166 t167 t168 w0 _ ?side1 ?side2 A3.out).mono ?_); (case side1 => exact si28 HI0); (case side2 => exact be HB); rintro e w13 ⟨rfl, hi, hb, hk⟩; refine ⟨_, rfl, ?_⟩; replace BK164 := am (KeepBut.blk hk (g' := gb164) (o := .cells #[.int .i8 a1_0, .int .i8 a1_1, .int .i8 a1_2, .int .i8 a1_3, .int .i8 a1_4, .int .i8 a1_5] 38 (0, 0)) (kb BK164) NB164_0.out (by simp)); replace HK := am (KeepBut.trans (ke HK) hk (.inl rfl)); replace HB := am (hb); replace HI0 := am (hi); (try clear hb); (try clear hb2); (try clear hk); (try clear hi); obtain ⟨hcz14_0, hcz14_1, hcz14_2, hcz14_3, hcz14_4, hcz14_5, hfz14_0, hfz14_1, hfz14_2, hfz14_3, hfz14_4, hfz14_5⟩ := bx6 BK164))
  go_loopg [7] k (fun kq v7 w' => ∃ (x7_1 : Int), v7 = .int .i64 x7_1 ∧ Aside0 (spec_l01Reach.l0 kq (wrap64 ((wrap64 ((wrap64 (a1_2)) * (wrap64 (a1_2)))) - (wrap64 (t165 * t165)))) x7_1 t166 t167 t168 = some (r1, r2, r3, r4)) ∧ Aside0 (kq ≤ k) ∧ Aside0 (w'.heap[gb164]? = some (.cells #[.int .i8 a1_0, .int .i8 a1_1, .int .i8 a1_2, .int .i8 a1_3, .int .i8 a1_4, .int .i8 a1_5] 38 (0, 0))) ∧ Aside0 (IsS28 w0 w' g t166 t167 t168) ∧ Aside0 (KeepBut w w' g none) ∧ Aside0 (Below w0.heap.size w0 w'))
  case atStart => exact ⟨(0), vv, H', ⟨Nat.le_refl _⟩, ⟨kb BK164⟩, ⟨si28 HI0⟩, ⟨ke HK⟩, ⟨be HB⟩⟩
  case round =>
   clear H'
   try clear c1
   try clear p2
   try clear c4
   try clear c4b0
   try clear c6
   try clear p6
   try clear c11
   try clear hcz12_0
   try clear hcz12_1
   try clear hcz12_2
   try clear hcz12_3
   try clear hcz12_4
   try clear hcz12_5
   try clear hcz14_0
   try clear hcz14_1
   try clear hcz14_2
   try clear hcz14_3
   try clear hcz14_4
   try clear hcz14_5
   try clear hcz7_0
   try clear hcz7_1
   try clear hcz7_2
   try clear hcz7_3
   try clear hcz7_4
   try clear hcz7_5
   try clear hcz9_0
   try clear hcz9_1
   try clear hcz9_2
   try clear hcz9_3
   try clear hcz9_4
   try clear hcz9_5
   try clear hfz12_0
   try clear hfz12_1
   try clear hfz12_2
   try clear hfz12_3
   try clear hfz12_4
   try clear hfz12_5
   try clear hfz14_0
   try clear hfz14_1
   try clear hfz14_2
   try clear hfz14_3
   try clear hfz14_4
   try clear hfz14_5
   try clear hfz7_0
   try clear hfz7_1
   try clear hfz7_2
   try clear hfz7_3
   try clear hfz7_4
   try clear hfz7_5
   try clear hfz9_0
   try clear hfz9_1
   try clear hfz9_2
   try clear hfz9_3
   try clear hfz9_4
   try clear hfz9_5
   obtain ⟨x7_1, rfl, HA, HK1, BK164, HI0, HK, HB⟩ := hrel
   cases gk with
   | zero => exact absurd HA.out (by simp [spec_l01Reach.l0])
   | succ k1 =>
    have H := HA.out
    clear HA
    simp only [spec_l01Reach.l0] at H
    by_cases c15 : (wrap64 ((wrap64 (x7_1 + 1)) * (wrap64 (x7_1 + 1)))) ≤ (wrap64 ((wrap64 ((wrap64 (a1_2)) * (wrap64 (a1_2)))) - (wrap64 (t165 * t165))))
    ·rw [if_pos c15] at H
     have c15b0 : decide ((wrap64 ((wrap64 (x7_1 + 1)) * (wrap64 (x7_1 + 1)))) ≤ (wrap64 ((wrap64 ((wrap64 (a1_2)) * (wrap64 (a1_2)))) - (wrap64 (t165 * t165))))) = true := decide_eq_true c15
     clear c15
     have H' := am H
     clear H
     go_wp2
     go_roundg k1
     case measure => have := HK1.out; omega
     case rel => exact ⟨(wrap64 (x7_1 + 1)), vv, H', ⟨by have := HK1.out; omega⟩, ⟨kb BK164⟩, ⟨si28 HI0⟩, ⟨ke HK⟩, ⟨be HB⟩⟩
    ·rw [if_neg c15] at H
     have c15b0 : decide ((wrap64 ((wrap64 (x7_1 + 1)) * (wrap64 (x7_1 + 1)))) ≤ (wrap64 ((wrap64 ((wrap64 (a1_2)) * (wrap64 (a1_2)))) - (wrap64 (t165 * t165))))) = false := decide_eq_false c15
     clear c15
     simp only [Option.some.injEq, Prod.mk.injEq] at H
     obtain ⟨rfl, rfl, rfl, rfl⟩ := H
     go_wp2
     go_ret
     exact ⟨by first | rfl | (simp [errW_none, errW_some] <;> rfl) | (simp [*, errW_none, errW_some] <;> rfl), si28 HI0, be HB, ke HK⟩

/-! ### spec_l01Far: function 170 -/
def spec_l01Far.f (a0_0 : Int) (a0_1 : Int) (a1_0 : Int) (a1_1 : Int) : Option (Int) := some (wrap64 ((wrap64 ((wrap64 ((wrap64 (a0_0)) - (wrap64 (a1_0)))) * (wrap64 ((wrap64 (a0_0)) - (wrap64 (a1_0)))))) + (wrap64 ((wrap64 ((wrap64 (a0_1)) - (wrap64 (a1_1)))) * (wrap64 ((wrap64 (a0_1)) - (wrap64 (a1_1))))))))
set_option maxHeartbeats 8000000 in
set_option maxRecDepth 100000 in
theorem spec_l01Far.calls (a0_0 : Int) (a0_1 : Int) (a1_0 : Int) (a1_1 : Int) (r : Int) (w : World) (h : spec_l01Far.f a0_0 a0_1 a1_0 a1_1 = some r) :
  Calls Try.prog 170 #[.agg #[.int .i8 a0_0, .int .i8 a0_1], .agg #[.int .i8 a1_0, .int .i8 a1_1]] w fun e w' => e = .returned (.int .i64 r) ∧ Below w.heap.size w w' := by
 have hu36 := Try.underlying36
 have HB := am (Below.refl w.heap.size w)
 have H : (some (wrap64 ((wrap64 ((wrap64 ((wrap64 (a0_0)) - (wrap64 (a1_0)))) * (wrap64 ((wrap64 (a0_0)) - (wrap64 (a1_0)))))) + (wrap64 ((wrap64 ((wrap64 (a0_1)) - (wrap64 (a1_1)))) * (wrap64 ((wrap64 (a0_1)) - (wrap64 (a1_1))))))))) = some r := h
 clear h
 obtain rfl := Option.some.inj H
 go_enter Try.func170, Try.ntmps170
 go_wp2_with (first | ((with_reducible refine gate_dst (N := 2) rfl ?_); refine bxe (N := 2) (cs := #[.int .i8 a0_0, .int .i8 a0_1]) (t := 36) ?_; intro gb169 hg w3 hbox hb; have BK169 := am (hbox); have GW169 := am (gN hg (below_size (be HB))); have GE169 := am (gN hg (below_size (be HB))); replace HB := am (below_step (be HB) hb); clear hb hbox hg) | ((with_reducible refine gate_dst (N := 3) rfl ?_); refine bxe (N := 3) (cs := #[.int .i8 a1_0, .int .i8 a1_1]) (t := 36) ?_; intro gb170 hg w4 hbox hb; have BK170 := am (hbox); have GW170 := am (gN hg (below_size (be HB))); have GE170 := am (gN hg (below_size (be HB))); have NB169_170 := nL BK169 hg; have NB170_169 := nR BK169 hg; replace BK169 := bB BK169 hb; replace HB := am (below_step (be HB) hb); clear hb hbox hg; have hnb5 := NB169_170.out; have hnc5 := NB170_169.out; obtain ⟨hcz6_0, hcz6_1, hfz6_0, hfz6_1⟩ := bx2 BK169; obtain ⟨hcz7_0, hcz7_1, hfz7_0, hfz7_1⟩ := bx2 BK170))
 go_ret
 exact ⟨by first | rfl | (simp [errW_none, errW_some] <;> rfl) | (simp [*, errW_none, errW_some] <;> rfl), be HB⟩

/-! ### spec_l01Touch: function 118 -/
def spec_l01Touch.j0 : Nat → Int → Int → Bool → Int → Int → (Nat → Int) → Int → Int → Int → Int → Int → Int → Int → Int → Int → Int → Int → Int → Option (Bool × Int × Int × (Nat → Int))
 | 0, _, _, _, _, _, _, _, _, _, _, _, _, _, _, _, _, _, _ => none
 | k + 1, x7, x8, x26, x1000, x1001, x1002, x172000, x172001, x172002, x172003, x172004, x172005, x173000, x173001, x173002, x173003, x173004, x173005 => if x26 = true then (some (true, x1000, x1001, x1002)) else (if x172005 = x173005 then ((spec_l01Far.f x172000 x172001 x173000 x173001).bind fun t181 => (some (decide (t181 < (wrap64 ((wrap64 ((wrap64 (x172003)) + (wrap64 (x173003)))) * (wrap64 ((wrap64 (x172003)) + (wrap64 (x173003))))))), x1000, x1001, x1002))) else ((spec_l01Far.f x172000 x172001 x173000 x173001).bind fun t182 => (some (decide (t182 < (wrap64 ((wrap64 ((wrap64 ((wrap64 (x172003)) + (wrap64 (x173003)))) + (wrap64 (x7 + x8)))) * (wrap64 ((wrap64 ((wrap64 (x172003)) + (wrap64 (x173003)))) + (wrap64 (x7 + x8))))))), x1000, x1001, x1002))))
def spec_l01Touch.f (k : Nat) (s0_0 : Int) (s0_1 : Int) (s0_2 : (Nat → Int)) (a1_0 : Int) (a1_1 : Int) (a1_2 : Int) (a1_3 : Int) (a1_4 : Int) (a1_5 : Int) (a2_0 : Int) (a2_1 : Int) (a2_2 : Int) (a2_3 : Int) (a2_4 : Int) (a2_5 : Int) : Option (Bool × Int × Int × (Nat → Int)) := if (a1_0 == a2_0 && (a1_1 == a2_1)) = true then (some (true, s0_0, s0_1, s0_2)) else ((spec_l01Reach.f k s0_0 s0_1 s0_2 a1_0 a1_1 a1_2 a1_3 a1_4 a1_5).bind fun bt173 => ((spec_l01Reach.f k bt173.2.1 bt173.2.2.1 bt173.2.2.2 a2_0 a2_1 a2_2 a2_3 a2_4 a2_5).bind fun bt177 => (if bt173.1 < 0 then (spec_l01Touch.j0 k bt173.1 bt177.1 true bt177.2.1 bt177.2.2.1 bt177.2.2.2 a1_0 a1_1 a1_2 a1_3 a1_4 a1_5 a2_0 a2_1 a2_2 a2_3 a2_4 a2_5) else (spec_l01Touch.j0 k bt173.1 bt177.1 (decide (bt177.1 < 0)) bt177.2.1 bt177.2.2.1 bt177.2.2.2 a1_0 a1_1 a1_2 a1_3 a1_4 a1_5 a2_0 a2_1 a2_2 a2_3 a2_4 a2_5))))
set_option maxHeartbeats 8000000 in
set_option maxRecDepth 100000 in
theorem spec_l01Touch.calls (k : Nat) (g : Nat) (s0_0 : Int) (s0_1 : Int) (s0_2 : (Nat → Int)) (a1_0 : Int) (a1_1 : Int) (a1_2 : Int) (a1_3 : Int) (a1_4 : Int) (a1_5 : Int) (a2_0 : Int) (a2_1 : Int) (a2_2 : Int) (a2_3 : Int) (a2_4 : Int) (a2_5 : Int) (r1 : Bool) (r2 : Int) (r3 : Int) (r4 : (Nat → Int)) (w0 w : World) (hI : IsS28 w0 w g s0_0 s0_1 s0_2) (hB : Below w0.heap.size w0 w) (h : spec_l01Touch.f k s0_0 s0_1 s0_2 a1_0 a1_1 a1_2 a1_3 a1_4 a1_5 a2_0 a2_1 a2_2 a2_3 a2_4 a2_5 = some (r1, r2, r3, r4)) :
  Calls Try.prog 118 #[.pointer (some ⟨g, 0, none⟩), .agg #[.int .i8 a1_0, .int .i8 a1_1, .int .i8 a1_2, .int .i8 a1_3, .int .i8 a1_4, .int .i8 a1_5], .agg #[.int .i8 a2_0, .int .i8 a2_1, .int .i8 a2_2, .int .i8 a2_3, .int .i8 a2_4, .int .i8 a2_5]] w fun e w' => e = .returned (.bool r1) ∧ IsS28 w0 w' g r2 r3 r4 ∧ Below w0.heap.size w0 w' ∧ KeepBut w w' g none := by
 have hu38 := Try.underlying38
 have hu36 := Try.underlying36
 have HI0 := am hI
 have HK := am (KeepBut.refl w g none)
 have HL := am hB.size
 clear hI
 have HW0 := am hB.size
 have HB := am hB
 clear hB
 have H : (if (a1_0 == a2_0 && (a1_1 == a2_1)) = true then (some (true, s0_0, s0_1, s0_2)) else ((spec_l01Reach.f k s0_0 s0_1 s0_2 a1_0 a1_1 a1_2 a1_3 a1_4 a1_5).bind fun bt173 => ((spec_l01Reach.f k bt173.2.1 bt173.2.2.1 bt173.2.2.2 a2_0 a2_1 a2_2 a2_3 a2_4 a2_5).bind fun bt177 => (if bt173.1 < 0 then (spec_l01Touch.j0 k bt173.1 bt177.1 true bt177.2.1 bt177.2.2.1 bt177.2.2.2 a1_0 a1_1 a1_2 a1_3 a1_4 a1_5 a2_0 a2_1 a2_2 a2_3 a2_4 a2_5) else (spec_l01Touch.j0 k bt173.1 bt177.1 (decide (bt177.1 < 0)) bt177.2.1 bt177.2.2.1 bt177.2.2.2 a1_0 a1_1 a1_2 a1_3 a1_4 a1_5 a2_0 a2_1 a2_2 a2_3 a2_4 a2_5))))) = some (r1, r2, r3, r4) := h
 clear h
 by_cases c4 : (a1_0 == a2_0 && (a1_1 == a2_1)) = true
 ·rw [if_pos c4] at H
  have c4b0 : (a1_0 == a2_0 && (a1_1 == a2_1)) = true := c4
  (try (have c4b1 : decide (a1_0 = a2_0 && (a1_1 == a2_1)) = true := by simpa using c4))
  (try (have c4b2 : (a1_0 == a2_0 && (a1_1 == a2_1)) = true := by simpa using c4))
  clear c4
  simp only [Option.some.injEq, Prod.mk.injEq] at H
  obtain ⟨rfl, rfl, rfl, rfl⟩ := H
  go_enter Try.func118, Try.ntmps118
  go_wp2_with (first | ((with_reducible refine gate_dst (N := 4) rfl ?_); refine bxe (N := 4) (cs := #[.int .i8 a1_0, .int .i8 a1_1, .int .i8 a1_2, .int .i8 a1_3, .int .i8 a1_4, .int .i8 a1_5]) (t := 38) ?_; intro gb171 hg w5 hbox hb; have BK171 := am (hbox); have GW171 := am (gN hg (keep_size (w := w) (g := g) (row := none) (ke HK))); have GE171 := am (Nat.le_trans HW0.out (gN hg (keep_size (w := w) (g := g) (row := none) (ke HK)))); have NB0_171 := am (nLi hg (IsS28.lt (show IsS28 w0 _ g s0_0 s0_1 s0_2 from si28 HI0))); have NB171_0 := am (nRi hg (IsS28.lt (show IsS28 w0 _ g s0_0 s0_1 s0_2 from si28 HI0))); replace HI0 := am (IsS28.below (si28 HI0) hb); replace HK := am (KeepBut.trans (ke HK) (KeepBut.of_below hb g none) (.inl rfl)); replace HB := am (below_step (be HB) hb); clear hb hbox hg) | ((with_reducible refine gate_dst (N := 5) rfl ?_); refine bxe (N := 5) (cs := #[.int .i8 a2_0, .int .i8 a2_1, .int .i8 a2_2, .int .i8 a2_3, .int .i8 a2_4, .int .i8 a2_5]) (t := 38) ?_; intro gb172 hg w6 hbox hb; have BK172 := am (hbox); have GW172 := am (gN hg (keep_size (w := w) (g := g) (row := none) (ke HK))); have GE172 := am (Nat.le_trans HW0.out (gN hg (keep_size (w := w) (g := g) (row := none) (ke HK)))); have NB171_172 := nL BK171 hg; have NB172_171 := nR BK171 hg; have NB0_172 := am (nLi hg (IsS28.lt (show IsS28 w0 _ g s0_0 s0_1 s0_2 from si28 HI0))); have NB172_0 := am (nRi hg (IsS28.lt (show IsS28 w0 _ g s0_0 s0_1 s0_2 from si28 HI0))); replace HI0 := am (IsS28.below (si28 HI0) hb); replace BK171 := bB BK171 hb; replace HK := am (KeepBut.trans (ke HK) (KeepBut.of_below hb g none) (.inl rfl)); replace HB := am (below_step (be HB) hb); clear hb hbox hg; have hnb7 := NB171_172.out; have hnc7 := NB172_171.out; have hnb8 := NB171_0.out; have hnc8 := NB0_171.out; obtain ⟨hcz9_0, hcz9_1, hcz9_2, hcz9_3, hcz9_4, hcz9_5, hfz9_0, hfz9_1, hfz9_2, hfz9_3, hfz9_4, hfz9_5⟩ := bx6 BK171; have hnb10 := NB172_0.out; have hnc10 := NB0_172.out; obtain ⟨hcz11_0, hcz11_1, hcz11_2, hcz11_3, hcz11_4, hcz11_5, hfz11_0, hfz11_1, hfz11_2, hfz11_3, hfz11_4, hfz11_5⟩ := bx6 BK172))
  go_ret
  exact ⟨by first | rfl | (simp [errW_none, errW_some] <;> rfl) | (simp [*, errW_none, errW_some] <;> rfl), si28 HI0, be HB, ke HK⟩
 ·rw [if_neg c4] at H
  have c4b0 : (a1_0 == a2_0 && (a1_1 == a2_1)) = false := by simpa using c4
  (try (have c4b1 : decide (a1_0 = a2_0 && (a1_1 == a2_1)) = false := by simpa using c4))
  (try (have c4b2 : (a1_0 == a2_0 && (a1_1 == a2_1)) = false := by simpa using c4))
  (try (have c4b3 : ¬ (a1_0 = a2_0 && (a1_1 == a2_1)) := by simpa using c4))
  clear c4
  replace H := Option.bind_eq_some_iff.mp H
  obtain ⟨⟨t173, t174, t175, t176⟩, A120, H⟩ := H
  try dsimp only at H
  have A12 := am A120
  clear A120
  replace H := Option.bind_eq_some_iff.mp H
  obtain ⟨⟨t177, t178, t179, t180⟩, A130, H⟩ := H
  try dsimp only at H
  have A13 := am A130
  clear A130
  have HC14 := am H
  clear H
  go_enter Try.func118, Try.ntmps118
  go_upto_region 5 with (first | ((with_reducible refine gate_dst (N := 4) rfl ?_); refine bxe (N := 4) (cs := #[.int .i8 a1_0, .int .i8 a1_1, .int .i8 a1_2, .int .i8 a1_3, .int .i8 a1_4, .int .i8 a1_5]) (t := 38) ?_; intro gb171 hg w15 hbox hb; have BK171 := am (hbox); have GW171 := am (gN hg (keep_size (w := w) (g := g) (row := none) (ke HK))); have GE171 := am (Nat.le_trans HW0.out (gN hg (keep_size (w := w) (g := g) (row := none) (ke HK)))); have NB0_171 := am (nLi hg (IsS28.lt (show IsS28 w0 _ g s0_0 s0_1 s0_2 from si28 HI0))); have NB171_0 := am (nRi hg (IsS28.lt (show IsS28 w0 _ g s0_0 s0_1 s0_2 from si28 HI0))); replace HI0 := am (IsS28.below (si28 HI0) hb); replace HK := am (KeepBut.trans (ke HK) (KeepBut.of_below hb g none) (.inl rfl)); replace HB := am (below_step (be HB) hb); clear hb hbox hg) | ((with_reducible refine gate_dst (N := 5) rfl ?_); refine bxe (N := 5) (cs := #[.int .i8 a2_0, .int .i8 a2_1, .int .i8 a2_2, .int .i8 a2_3, .int .i8 a2_4, .int .i8 a2_5]) (t := 38) ?_; intro gb172 hg w16 hbox hb; have BK172 := am (hbox); have GW172 := am (gN hg (keep_size (w := w) (g := g) (row := none) (ke HK))); have GE172 := am (Nat.le_trans HW0.out (gN hg (keep_size (w := w) (g := g) (row := none) (ke HK)))); have NB171_172 := nL BK171 hg; have NB172_171 := nR BK171 hg; have NB0_172 := am (nLi hg (IsS28.lt (show IsS28 w0 _ g s0_0 s0_1 s0_2 from si28 HI0))); have NB172_0 := am (nRi hg (IsS28.lt (show IsS28 w0 _ g s0_0 s0_1 s0_2 from si28 HI0))); replace HI0 := am (IsS28.below (si28 HI0) hb); replace BK171 := bB BK171 hb; replace HK := am (KeepBut.trans (ke HK) (KeepBut.of_below hb g none) (.inl rfl)); replace HB := am (below_step (be HB) hb); clear hb hbox hg; have hnb17 := NB171_172.out; have hnc17 := NB172_171.out; have hnb18 := NB171_0.out; have hnc18 := NB0_171.out; obtain ⟨hcz19_0, hcz19_1, hcz19_2, hcz19_3, hcz19_4, hcz19_5, hfz19_0, hfz19_1, hfz19_2, hfz19_3, hfz19_4, hfz19_5⟩ := bx6 BK171; have hnb20 := NB172_0.out; have hnc20 := NB0_172.out; obtain ⟨hcz21_0, hcz21_1, hcz21_2, hcz21_3, hcz21_4, hcz21_5, hfz21_0, hfz21_1, hfz21_2, hfz21_3, hfz21_4, hfz21_5⟩ := bx6 BK172) | ((with_reducible refine gate_callee (f := 168) rfl ?_); refine gL (some 17) Try.func168 #[.pointer (some ⟨g, 0, none⟩), .agg #[.int .i8 a1_0, .int .i8 a1_1, .int .i8 a1_2, .int .i8 a1_3, .int .i8 a1_4, .int .i8 a1_5]] ?_; (with_reducible refine (spec_l01Reach.calls k g s0_0 s0_1 s0_2 a1_0 a1_1 a1_2 a1_3 a1_4 a1_5 t173 t174 t175 t176 w0 _ ?side1 ?side2 A12.out).mono ?_); (case side1 => exact si28 HI0); (case side2 => exact be HB); rintro e w22 ⟨rfl, hi, hb, hk⟩; refine ⟨_, rfl, ?_⟩; replace BK171 := am (KeepBut.blk hk (g' := gb171) (o := .cells #[.int .i8 a1_0, .int .i8 a1_1, .int .i8 a1_2, .int .i8 a1_3, .int .i8 a1_4, .int .i8 a1_5] 38 (0, 0)) (kb BK171) NB171_0.out (by simp)); replace BK172 := am (KeepBut.blk hk (g' := gb172) (o := .cells #[.int .i8 a2_0, .int .i8 a2_1, .int .i8 a2_2, .int .i8 a2_3, .int .i8 a2_4, .int .i8 a2_5] 38 (0, 0)) (kb BK172) NB172_0.out (by simp)); replace HK := am (KeepBut.trans (ke HK) hk (.inl rfl)); replace HB := am (hb); replace HI0 := am (hi); (try clear hb); (try clear hb2); (try clear hk); (try clear hi); obtain ⟨hcz23_0, hcz23_1, hcz23_2, hcz23_3, hcz23_4, hcz23_5, hfz23_0, hfz23_1, hfz23_2, hfz23_3, hfz23_4, hfz23_5⟩ := bx6 BK172) | ((with_reducible refine gate_callee (f := 168) rfl ?_); refine gL (some 20) Try.func168 #[.pointer (some ⟨g, 0, none⟩), .agg #[.int .i8 a2_0, .int .i8 a2_1, .int .i8 a2_2, .int .i8 a2_3, .int .i8 a2_4, .int .i8 a2_5]] ?_; (with_reducible refine (spec_l01Reach.calls k g t174 t175 t176 a2_0 a2_1 a2_2 a2_3 a2_4 a2_5 t177 t178 t179 t180 w0 _ ?side1 ?side2 A13.out).mono ?_); (case side1 => exact si28 HI0); (case side2 => exact be HB); rintro e w24 ⟨rfl, hi, hb, hk⟩; refine ⟨_, rfl, ?_⟩; replace BK171 := am (KeepBut.blk hk (g' := gb171) (o := .cells #[.int .i8 a1_0, .int .i8 a1_1, .int .i8 a1_2, .int .i8 a1_3, .int .i8 a1_4, .int .i8 a1_5] 38 (0, 0)) (kb BK171) NB171_0.out (by simp)); replace BK172 := am (KeepBut.blk hk (g' := gb172) (o := .cells #[.int .i8 a2_0, .int .i8 a2_1, .int .i8 a2_2, .int .i8 a2_3, .int .i8 a2_4, .int .i8 a2_5] 38 (0, 0)) (kb BK172) NB172_0.out (by simp)); replace HK := am (KeepBut.trans (ke HK) hk (.inl rfl)); replace HB := am (hb); replace HI0 := am (hi); (try clear hb); (try clear hb2); (try clear hk); (try clear hi)))
  (try simp only [Act.put, List.setIfInBounds_toArray, List.set_cons_zero, List.set_cons_succ])
  go_cut [26] (fun v26 wc => ∃ (kq : Nat) (x26_13 : Bool), v26 = .bool x26_13 ∧ Aside0 (spec_l01Touch.j0 kq t173 t177 x26_13 t178 t179 t180 a1_0 a1_1 a1_2 a1_3 a1_4 a1_5 a2_0 a2_1 a2_2 a2_3 a2_4 a2_5 = some (r1, r2, r3, r4)) ∧ Aside0 (kq ≤ k) ∧ Aside0 (wc.heap[gb171]? = some (.cells #[.int .i8 a1_0, .int .i8 a1_1, .int .i8 a1_2, .int .i8 a1_3, .int .i8 a1_4, .int .i8 a1_5] 38 (0, 0))) ∧ Aside0 (wc.heap[gb172]? = some (.cells #[.int .i8 a2_0, .int .i8 a2_1, .int .i8 a2_2, .int .i8 a2_3, .int .i8 a2_4, .int .i8 a2_5] 38 (0, 0))) ∧ Aside0 (IsS28 w0 wc g t178 t179 t180) ∧ Aside0 (KeepBut w wc g none) ∧ Aside0 (Below w0.heap.size w0 wc))
  case first =>
   have H := HC14.out
   clear HC14
   by_cases c25 : t173 < 0
   ·rw [if_pos c25] at H
    have c25b0 : decide (t173 < 0) = true := decide_eq_true c25
    clear c25
    (first | rw [c25b0] | (simp only [i64_w, i32_w]; rw [c25b0]) | skip)
    have H' := am H
    clear H
    go_wp2
    go_meet
    case rel => exact ⟨_, (true), vv, H', ⟨by first | omega | exact Nat.le_refl _⟩, ⟨kb BK171⟩, ⟨kb BK172⟩, ⟨si28 HI0⟩, ⟨ke HK⟩, ⟨be HB⟩⟩
   ·rw [if_neg c25] at H
    have c25b0 : decide (t173 < 0) = false := decide_eq_false c25
    clear c25
    (first | rw [c25b0] | (simp only [i64_w, i32_w]; rw [c25b0]) | skip)
    have H' := am H
    clear H
    go_wp2
    go_meet
    case rel => exact ⟨_, (decide (t177 < 0)), vv, H', ⟨by first | omega | exact Nat.le_refl _⟩, ⟨kb BK171⟩, ⟨kb BK172⟩, ⟨si28 HI0⟩, ⟨ke HK⟩, ⟨be HB⟩⟩
  case rest =>
   clear HC14
   try clear c1
   try clear c2
   try clear p2
   try clear c4
   try clear c4b0
   try clear c4b1
   try clear c4b2
   try clear c7
   try clear c8
   try clear c10
   try clear c11
   try clear c16
   try clear c17
   try clear c18
   try clear c20
   try clear c25
   try clear c25b0
   try clear hcz11_0
   try clear hcz11_1
   try clear hcz11_2
   try clear hcz11_3
   try clear hcz11_4
   try clear hcz11_5
   try clear hcz19_0
   try clear hcz19_1
   try clear hcz19_2
   try clear hcz19_3
   try clear hcz19_4
   try clear hcz19_5
   try clear hcz21_0
   try clear hcz21_1
   try clear hcz21_2
   try clear hcz21_3
   try clear hcz21_4
   try clear hcz21_5
   try clear hcz23_0
   try clear hcz23_1
   try clear hcz23_2
   try clear hcz23_3
   try clear hcz23_4
   try clear hcz23_5
   try clear hcz9_0
   try clear hcz9_1
   try clear hcz9_2
   try clear hcz9_3
   try clear hcz9_4
   try clear hcz9_5
   try clear hfz11_0
   try clear hfz11_1
   try clear hfz11_2
   try clear hfz11_3
   try clear hfz11_4
   try clear hfz11_5
   try clear hfz19_0
   try clear hfz19_1
   try clear hfz19_2
   try clear hfz19_3
   try clear hfz19_4
   try clear hfz19_5
   try clear hfz21_0
   try clear hfz21_1
   try clear hfz21_2
   try clear hfz21_3
   try clear hfz21_4
   try clear hfz21_5
   try clear hfz23_0
   try clear hfz23_1
   try clear hfz23_2
   try clear hfz23_3
   try clear hfz23_4
   try clear hfz23_5
   try clear hfz9_0
   try clear hfz9_1
   try clear hfz9_2
   try clear hfz9_3
   try clear hfz9_4
   try clear hfz9_5
   obtain ⟨kq, x26_13, rfl, HA, HJ13, BK171, BK172, HI0, HK, HB⟩ := hcut
   cases kq with
   | zero => exact absurd HA.out (by simp [spec_l01Touch.j0])
   | succ kj13 =>
    have H := HA.out
    clear HA
    simp only [spec_l01Touch.j0] at H
    by_cases c26 : x26_13 = true
    ·subst c26
     rw [if_pos rfl] at H
     simp only [Option.some.injEq, Prod.mk.injEq] at H
     obtain ⟨rfl, rfl, rfl, rfl⟩ := H
     go_wp2
     go_ret
     exact ⟨by first | rfl | (simp [errW_none, errW_some] <;> rfl) | (simp [*, errW_none, errW_some] <;> rfl), si28 HI0, be HB, ke HK⟩
    ·replace c26 := Bool.eq_false_iff.mpr c26
     subst c26
     have H1 : (if a1_5 = a2_5 then ((spec_l01Far.f a1_0 a1_1 a2_0 a2_1).bind fun t181 => (some (decide (t181 < (wrap64 ((wrap64 ((wrap64 (a1_3)) + (wrap64 (a2_3)))) * (wrap64 ((wrap64 (a1_3)) + (wrap64 (a2_3))))))), t178, t179, t180))) else ((spec_l01Far.f a1_0 a1_1 a2_0 a2_1).bind fun t182 => (some (decide (t182 < (wrap64 ((wrap64 ((wrap64 ((wrap64 (a1_3)) + (wrap64 (a2_3)))) + (wrap64 (t173 + t177)))) * (wrap64 ((wrap64 ((wrap64 (a1_3)) + (wrap64 (a2_3)))) + (wrap64 (t173 + t177))))))), t178, t179, t180)))) = some (r1, r2, r3, r4) := by rw [if_neg (show ¬ (false = true) by decide)] at H; exact H
     clear H
     have H := H1
     clear H1
     by_cases c27 : a1_5 = a2_5
     ·rw [if_pos c27] at H
      have c27b0 : (a1_5 == a2_5) = true := beq_iff_eq.mpr c27
      have c27b1 : (a1_5 != a2_5) = false := bne_eq_false_iff_eq.mpr c27
      clear c27
      replace H := Option.bind_eq_some_iff.mp H
      obtain ⟨t181, A280, H⟩ := H
      try dsimp only at H
      have A28 := am A280
      clear A280
      simp only [Option.some.injEq, Prod.mk.injEq] at H
      obtain ⟨rfl, rfl, rfl, rfl⟩ := H
      have hnb29 := NB171_172.out
      have hnc29 := NB172_171.out
      have hnb30 := NB171_0.out
      have hnc30 := NB0_171.out
      obtain ⟨hcz31_0, hcz31_1, hcz31_2, hcz31_3, hcz31_4, hcz31_5, hfz31_0, hfz31_1, hfz31_2, hfz31_3, hfz31_4, hfz31_5⟩ := bx6 BK171
      have hnb32 := NB172_0.out
      have hnc32 := NB0_172.out
      obtain ⟨hcz33_0, hcz33_1, hcz33_2, hcz33_3, hcz33_4, hcz33_5, hfz33_0, hfz33_1, hfz33_2, hfz33_3, hfz33_4, hfz33_5⟩ := bx6 BK172
      go_wp2_with (first | ((with_reducible refine gate_callee (f := 170) rfl ?_); refine gL (some 48) Try.func170 #[.agg #[.int .i8 a1_0, .int .i8 a1_1], .agg #[.int .i8 a2_0, .int .i8 a2_1]] ?_; (with_reducible refine (spec_l01Far.calls a1_0 a1_1 a2_0 a2_1 t181 _ A28.out).mono ?_); rintro e w34 ⟨rfl, hb⟩; refine ⟨_, rfl, ?_⟩; replace BK171 := bB BK171 hb; replace BK172 := bB BK172 hb; replace HI0 := am (IsS28.below (si28 HI0) hb); replace HK := am (KeepBut.trans (ke HK) (KeepBut.of_below hb g none) (.inl rfl)); replace HB := am (below_step (be HB) hb); (try clear hb); (try clear hb2); (try clear hk); (try clear hi)))
      go_ret
      exact ⟨by first | rfl | (simp [errW_none, errW_some] <;> rfl) | (simp [*, errW_none, errW_some] <;> rfl), si28 HI0, be HB, ke HK⟩
     ·rw [if_neg c27] at H
      have c27b0 : (a1_5 == a2_5) = false := beq_eq_false_iff_ne.mpr c27
      have c27b1 : (a1_5 != a2_5) = true := bne_iff_ne.mpr c27
      replace H := Option.bind_eq_some_iff.mp H
      obtain ⟨t182, A350, H⟩ := H
      try dsimp only at H
      have A35 := am A350
      clear A350
      simp only [Option.some.injEq, Prod.mk.injEq] at H
      obtain ⟨rfl, rfl, rfl, rfl⟩ := H
      have hnb36 := NB171_172.out
      have hnc36 := NB172_171.out
      have hnb37 := NB171_0.out
      have hnc37 := NB0_171.out
      obtain ⟨hcz38_0, hcz38_1, hcz38_2, hcz38_3, hcz38_4, hcz38_5, hfz38_0, hfz38_1, hfz38_2, hfz38_3, hfz38_4, hfz38_5⟩ := bx6 BK171
      have hnb39 := NB172_0.out
      have hnc39 := NB0_172.out
      obtain ⟨hcz40_0, hcz40_1, hcz40_2, hcz40_3, hcz40_4, hcz40_5, hfz40_0, hfz40_1, hfz40_2, hfz40_3, hfz40_4, hfz40_5⟩ := bx6 BK172
      go_wp2_with (first | ((with_reducible refine gate_callee (f := 170) rfl ?_); refine gL (some 48) Try.func170 #[.agg #[.int .i8 a1_0, .int .i8 a1_1], .agg #[.int .i8 a2_0, .int .i8 a2_1]] ?_; (with_reducible refine (spec_l01Far.calls a1_0 a1_1 a2_0 a2_1 t182 _ A35.out).mono ?_); rintro e w41 ⟨rfl, hb⟩; refine ⟨_, rfl, ?_⟩; replace BK171 := bB BK171 hb; replace BK172 := bB BK172 hb; replace HI0 := am (IsS28.below (si28 HI0) hb); replace HK := am (KeepBut.trans (ke HK) (KeepBut.of_below hb g none) (.inl rfl)); replace HB := am (below_step (be HB) hb); (try clear hb); (try clear hb2); (try clear hk); (try clear hi)))
      go_ret
      exact ⟨by first | rfl | (simp [errW_none, errW_some] <;> rfl) | (simp [*, errW_none, errW_some] <;> rfl), si28 HI0, be HB, ke HK⟩

end Go.Proofs.Ytcollbifdfhfoaa.PFnExactPlacesFor
