-- Written by a program out of this seat's translation (functions, and that the code comes to them).
import Derived.Test.YtigafbmdedjgdaaPFnExactMostBoatsx0
namespace Go.Proofs.Ytigafbmdedjgdaa.PFnExactMostBoats
open Go.RowKit Go.Proofs.YtigafbmdedjgdaaW.PrintWords Go.Proofs.YtigafbmdedjgdaaW.PrintLast Go.Proofs.YtigafbmdedjgdaaW.PrintMore
attribute [local go_sem] max2_int min2_int max_two min_two max_three min_three max_four min_four   -- for this text's walks alone
open Go.Proofs.Ytigafbmdedjgdaa.Bay Go.Proofs.Ytigafbmdedjgdaa.Short
attribute [local go_sem ↓] lv26_eq lv32_eq
attribute [local go_sem] lvv_set lvv_drewN lvv_drew lv26_run BayAt26_set BayAt26_drewN BayAt26_drew lv32_run BayAt32_set BayAt32_drewN BayAt32_drew
set_option linter.unusedVariables false
set_option linter.unusedSimpArgs false

/-! ### laws_szBoatS: function 4 -/
def laws_szBoatS.f (l0 : List (S52)) (a1 : Int) : Option (Int) := if (wrap64 (a1 - (l0.length : Int))) < 0 then (some (-1)) else (some (wrap64 (a1 - (l0.length : Int))))
set_option maxHeartbeats 8000000 in
set_option maxRecDepth 100000 in
theorem laws_szBoatS.calls (A0 : Option Addr) (c0 : Nat) (l0 : List (S52)) (a1 : Int) (r : Int) (w : World) (hr0 : Kd.C k52 w A0 l0.length l0) (hc0 : l0.length ≤ c0) (h : laws_szBoatS.f l0 a1 = some r) :
  Calls Try.prog 4 #[.slice A0 l0.length c0, .int .i64 a1] w fun e w' => e = .returned (.int .i64 r) ∧ Drawn0 w w' := by
 have HR0 := am hr0
 have HC0 := am hc0
 clear hr0 hc0
 have H : (if (wrap64 (a1 - (l0.length : Int))) < 0 then (some (-1)) else (some (wrap64 (a1 - (l0.length : Int))))) = some r := h
 clear h
 by_cases c3 : (wrap64 (a1 - (l0.length : Int))) < 0
 ·rw [if_pos c3] at H
  have c3b0 : decide ((wrap64 (a1 - (l0.length : Int))) < 0) = true := decide_eq_true c3
  clear c3
  obtain rfl := Option.some.inj H
  go_enter Try.func4, Try.ntmps4
  go_wp2
  go_ret
  exact ⟨by first | rfl | (simp; done) | (simp [*]; done), by repeat (first | exact Drawn0.refl _ | apply Drawn0.step)⟩
 ·rw [if_neg c3] at H
  have c3b0 : decide ((wrap64 (a1 - (l0.length : Int))) < 0) = false := decide_eq_false c3
  clear c3
  obtain rfl := Option.some.inj H
  go_enter Try.func4, Try.ntmps4
  go_wp2
  go_ret
  exact ⟨by first | rfl | (simp; done) | (simp [*]; done), by repeat (first | exact Drawn0.refl _ | apply Drawn0.step)⟩

/-! ### spec_l00In: function 33 -/
def spec_l00In.f (a0 : Int) (a1 : Int) (a2 : Int) : Option (Bool) := if a0 ≥ a1 then (some (decide (a0 ≤ a2))) else (some false)
set_option maxHeartbeats 8000000 in
set_option maxRecDepth 100000 in
theorem spec_l00In.calls (a0 : Int) (a1 : Int) (a2 : Int) (r : Bool) (w : World) (h : spec_l00In.f a0 a1 a2 = some r) :
  Calls Try.prog 33 #[.int .i64 a0, .int .i64 a1, .int .i64 a2] w fun e w' => e = .returned (.bool r) ∧ Drawn0 w w' := by
 have H : (if a0 ≥ a1 then (some (decide (a0 ≤ a2))) else (some false)) = some r := h
 clear h
 by_cases c4 : a0 ≥ a1
 ·rw [if_pos c4] at H
  have c4b0 : decide (a1 ≤ a0) = true := decide_eq_true c4
  clear c4
  obtain rfl := Option.some.inj H
  go_enter Try.func33, Try.ntmps33
  go_wp2
  go_ret
  exact ⟨by first | rfl | (simp; done) | (simp [*]; done), by repeat (first | exact Drawn0.refl _ | apply Drawn0.step)⟩
 ·rw [if_neg c4] at H
  have c4b0 : decide (a1 ≤ a0) = false := decide_eq_false c4
  clear c4
  obtain rfl := Option.some.inj H
  go_enter Try.func33, Try.ntmps33
  go_wp2
  go_ret
  exact ⟨by first | rfl | (simp; done) | (simp [*]; done), by repeat (first | exact Drawn0.refl _ | apply Drawn0.step)⟩

/-- A state of type 32 at block g of W; what its slices lead to came in by w0. -/
def IsS32 (w0 W : World) (g : Nat) (f0 : Int) (f1 : Int) (f2 : (Nat → Int)) : Prop := W.heap[g]? = some (.cells (csBay f0 f1 f2) 32 (0, 0)) ∧ w0.heap.size ≤ g
theorem IsS32.grown {w0 W : World} {g : Nat} {f0 : Int} {f1 : Int} {f2 : (Nat → Int)} {W1 : World} {row : Option Nat} (h : IsS32 w0 W g f0 f1 f2) (hw : W.grownBy W1 row) (hne : some g ≠ row) : IsS32 w0 W1 g f0 f1 f2 := by
 obtain ⟨hb, hg⟩ := h
 exact ⟨blk_grown hb hw hne, hg⟩
theorem IsS32.fresh {w0 W : World} {g : Nat} {f0 : Int} {f1 : Int} {f2 : (Nat → Int)} (h : IsS32 w0 W g f0 f1 f2) : ∀ k, W.heap.size ≤ k → k ≠ g := by
 obtain ⟨hb, hg⟩ := h
 exact Kd.freshB hb
theorem IsS32.below {w0 W : World} {g : Nat} {f0 : Int} {f1 : Int} {f2 : (Nat → Int)} {W1 : World} (h : IsS32 w0 W g f0 f1 f2) (hw : Below W.heap.size W W1) : IsS32 w0 W1 g f0 f1 f2 := h.grown (grown_of_below hw none) (by simp)
theorem IsS32.alloc {w0 W : World} {g : Nat} {f0 : Int} {f1 : Int} {f2 : (Nat → Int)} (h : IsS32 w0 W g f0 f1 f2) (o : Obj) : IsS32 w0 (W.alloc o) g f0 f1 f2 := h.below (below_alloc (Below.refl _ _) o)
theorem IsS32.drewN {w0 W : World} {g : Nat} {f0 : Int} {f1 : Int} {f2 : (Nat → Int)} (h : IsS32 w0 W g f0 f1 f2) (m : Nat) : IsS32 w0 (W.drewN m) g f0 f1 f2 := h
theorem IsS32.drew {w0 W : World} {g : Nat} {f0 : Int} {f1 : Int} {f2 : (Nat → Int)} (h : IsS32 w0 W g f0 f1 f2) : IsS32 w0 W.drew g f0 f1 f2 := h
theorem IsS32.apart {w0 W : World} {g : Nat} {f0 : Int} {f1 : Int} {f2 : (Nat → Int)} {α : Type} {d : Kd α} {e : Nat} {base : Nat} {ok : Nat → Prop} {v : Value} {xs : List α} (h : IsS32 w0 W g f0 f1 f2) (ho : d.R e W base ok v xs) (ht : ∀ q, q ∈ e :: d.E → q ≠ 32) : d.R e W base (fun k => ok k ∧ k ≠ g) v xs := by
 obtain ⟨hb, hg⟩ := h
 exact Kd.R_types ho hb ht
theorem IsS32.own_ne {w0 W : World} {g : Nat} {f0 : Int} {f1 : Int} {f2 : (Nat → Int)} {α : Type} {d : Kd α} {e : Nat} {base : Nat} {ok : Nat → Prop} {v : Value} {xs : List α} (h : IsS32 w0 W g f0 f1 f2) (ho : d.R e W base ok v xs) (ht : e ≠ 32) : some g ≠ v.ownBlock := by
 obtain ⟨hb, hg⟩ := h
 exact Kd.R_ne ho hb ht
theorem IsS32.lt {w0 W : World} {g : Nat} {f0 : Int} {f1 : Int} {f2 : (Nat → Int)} (h : IsS32 w0 W g f0 f1 f2) : g < W.heap.size := by
 obtain ⟨hb, hg⟩ := h
 exact blk_lt hb
theorem IsS32.ge {w0 W : World} {g : Nat} {f0 : Int} {f1 : Int} {f2 : (Nat → Int)} (h : IsS32 w0 W g f0 f1 f2) : w0.heap.size ≤ g := by
 obtain ⟨hb, hg⟩ := h
 exact hg
theorem IsS32.far {w0 W : World} {g : Nat} {f0 : Int} {f1 : Int} {f2 : (Nat → Int)} {p : Addr} (h : IsS32 w0 W g f0 f1 f2) (hne : g ≠ p.block) (u : Value) : IsS32 w0 (W.setCell p u) g f0 f1 f2 := by
 obtain ⟨hb, hg⟩ := h
 exact ⟨blk_far hb hne u, hg⟩
theorem cellS32_0 {W : World} {g : Nat} {f0 : Int} {f1 : Int} {f2 : (Nat → Int)} (h : W.heap[g]? = some (.cells (csBay f0 f1 f2) 32 (0, 0))) : W.cell? ⟨g, 0, none⟩ = some (.int .i8 f0) := (blk_cell h 0).trans rfl
theorem cellS32_1 {W : World} {g : Nat} {f0 : Int} {f1 : Int} {f2 : (Nat → Int)} (h : W.heap[g]? = some (.cells (csBay f0 f1 f2) 32 (0, 0))) : W.cell? ⟨g, 1, none⟩ = some (.int .i8 f1) := (blk_cell h 1).trans rfl
theorem IsS32.new (w0 W : World) (f0 : Int) (f1 : Int) (f2 : (Nat → Int)) (hB : Below w0.heap.size w0 W) : IsS32 w0 (W.alloc (.cells (csBay f0 f1 f2) 32)) W.heap.size f0 f1 f2 := ⟨by simpa using heap_alloc_new W _, hB.size⟩

/-! ### spec_l01Is: function 34 -/
def spec_l01Is.f (s0_0 : Int) (s0_1 : Int) (s0_2 : (Nat → Int)) (a1_0 : Int) (a1_1 : Int) : Option (Bool × Int × Int × (Nat → Int)) := (spec_l00In.f (wrap64 (a1_0)) 0 (wrap64 ((wrap64 (s0_0)) - 1))).bind fun t102 => (if t102 = true then ((spec_l00In.f (wrap64 (a1_1)) 0 (wrap64 ((wrap64 (s0_1)) - 1))).bind fun t103 => (some (t103, s0_0, s0_1, s0_2))) else (some (false, s0_0, s0_1, s0_2)))
set_option maxHeartbeats 8000000 in
set_option maxRecDepth 100000 in
theorem spec_l01Is.calls (g : Nat) (s0_0 : Int) (s0_1 : Int) (s0_2 : (Nat → Int)) (a1_0 : Int) (a1_1 : Int) (r1 : Bool) (r2 : Int) (r3 : Int) (r4 : (Nat → Int)) (w0 w : World) (hI : IsS32 w0 w g s0_0 s0_1 s0_2) (hB : Below w0.heap.size w0 w) (h : spec_l01Is.f s0_0 s0_1 s0_2 a1_0 a1_1 = some (r1, r2, r3, r4)) :
  Calls Try.prog 34 #[.pointer (some ⟨g, 0, none⟩), .agg #[.int .i8 a1_0, .int .i8 a1_1]] w fun e w' => e = .returned (.bool r1) ∧ IsS32 w0 w' g r2 r3 r4 ∧ Below w0.heap.size w0 w' ∧ KeepBut w w' g none := by
 have hu46 := Try.underlying46
 have HI0 := am hI
 have HK := am (KeepBut.refl w g none)
 have HL := am hB.size
 clear hI
 have HW0 := am hB.size
 have HB := am hB
 clear hB
 have H : ((spec_l00In.f (wrap64 (a1_0)) 0 (wrap64 ((wrap64 (s0_0)) - 1))).bind fun t102 => (if t102 = true then ((spec_l00In.f (wrap64 (a1_1)) 0 (wrap64 ((wrap64 (s0_1)) - 1))).bind fun t103 => (some (t103, s0_0, s0_1, s0_2))) else (some (false, s0_0, s0_1, s0_2)))) = some (r1, r2, r3, r4) := h
 clear h
 replace H := Option.bind_eq_some_iff.mp H
 obtain ⟨t102, A30, H⟩ := H
 try dsimp only at H
 have A3 := am A30
 clear A30
 by_cases c4 : t102 = true
 ·subst c4
  rw [if_pos rfl] at H
  replace H := Option.bind_eq_some_iff.mp H
  obtain ⟨t103, A50, H⟩ := H
  try dsimp only at H
  have A5 := am A50
  clear A50
  simp only [Option.some.injEq, Prod.mk.injEq] at H
  obtain ⟨rfl, rfl, rfl, rfl⟩ := H
  go_enter Try.func34, Try.ntmps34
  go_wp2_with (first | ((with_reducible refine gate_dst (N := 3) rfl ?_); refine bxe (N := 3) (cs := #[.int .i8 a1_0, .int .i8 a1_1]) (t := 46) ?_; intro gb101 hg w6 hbox hb; have BK101 := am (hbox); have GW101 := am (gN hg (keep_size (w := w) (g := g) (row := none) (ke HK))); have GE101 := am (Nat.le_trans HW0.out (gN hg (keep_size (w := w) (g := g) (row := none) (ke HK)))); have NB0_101 := am (nLi hg (IsS32.lt (show IsS32 w0 _ g s0_0 s0_1 s0_2 from si32 HI0))); have NB101_0 := am (nRi hg (IsS32.lt (show IsS32 w0 _ g s0_0 s0_1 s0_2 from si32 HI0))); replace HI0 := am (IsS32.below (si32 HI0) hb); replace HK := am (KeepBut.trans (ke HK) (KeepBut.of_below hb g none) (.inl rfl)); replace HB := am (below_step (be HB) hb); clear hb hbox hg; have hnb7 := NB101_0.out; have hnc7 := NB0_101.out; obtain ⟨hcz8_0, hcz8_1, hfz8_0, hfz8_1⟩ := bx2 BK101; obtain ⟨HGz9, hgz9⟩ := HI0.out; have hcz9_0 := cellS32_0 HGz9; have hcz9_1 := cellS32_1 HGz9; have hwz9 := lv32_at HGz9; have haz9 := at_cells HGz9; have hyz9 := BayAt32_of HGz9; have hvz9 := lvv_of HGz9; have hfz9_0 := blk_frozen HGz9 0; have hfz9_1 := blk_frozen HGz9 1; have hfz9_2 := blk_frozen HGz9 2; clear HGz9 hgz9) | (go_at_call 33; (with_reducible refine (spec_l00In.calls (wrap64 (a1_0)) 0 (wrap64 ((wrap64 (s0_0)) - 1)) true _ A3.out).mono ?_); rintro e w' ⟨rfl, ⟨nd, rfl⟩⟩; (try first | exact ⟨rfl, _, World.drewN_drewN _ _ _⟩ | exact ⟨rfl, _, Eq.trans (World.drewN_drewN _ _ _) (congrArg (World.drewN _) (Nat.add_assoc _ _ _))⟩)) | (go_at_call 33; (with_reducible refine (spec_l00In.calls (wrap64 (a1_1)) 0 (wrap64 ((wrap64 (s0_1)) - 1)) t103 _ A5.out).mono ?_); rintro e w' ⟨rfl, ⟨nd, rfl⟩⟩; (try first | exact ⟨rfl, _, World.drewN_drewN _ _ _⟩ | exact ⟨rfl, _, Eq.trans (World.drewN_drewN _ _ _) (congrArg (World.drewN _) (Nat.add_assoc _ _ _))⟩)))
  repeat (go_quiet (first | ((with_reducible refine gate_dst (N := 3) rfl ?_); refine bxe (N := 3) (cs := #[.int .i8 a1_0, .int .i8 a1_1]) (t := 46) ?_; intro gb101 hg w6 hbox hb; have BK101 := am (hbox); have GW101 := am (gN hg (keep_size (w := w) (g := g) (row := none) (ke HK))); have GE101 := am (Nat.le_trans HW0.out (gN hg (keep_size (w := w) (g := g) (row := none) (ke HK)))); have NB0_101 := am (nLi hg (IsS32.lt (show IsS32 w0 _ g s0_0 s0_1 s0_2 from si32 HI0))); have NB101_0 := am (nRi hg (IsS32.lt (show IsS32 w0 _ g s0_0 s0_1 s0_2 from si32 HI0))); replace HI0 := am (IsS32.below (si32 HI0) hb); replace HK := am (KeepBut.trans (ke HK) (KeepBut.of_below hb g none) (.inl rfl)); replace HB := am (below_step (be HB) hb); clear hb hbox hg; have hnb7 := NB101_0.out; have hnc7 := NB0_101.out; obtain ⟨hcz8_0, hcz8_1, hfz8_0, hfz8_1⟩ := bx2 BK101; obtain ⟨HGz9, hgz9⟩ := HI0.out; have hcz9_0 := cellS32_0 HGz9; have hcz9_1 := cellS32_1 HGz9; have hwz9 := lv32_at HGz9; have haz9 := at_cells HGz9; have hyz9 := BayAt32_of HGz9; have hvz9 := lvv_of HGz9; have hfz9_0 := blk_frozen HGz9 0; have hfz9_1 := blk_frozen HGz9 1; have hfz9_2 := blk_frozen HGz9 2; clear HGz9 hgz9) | (go_at_call 33; (with_reducible refine (spec_l00In.calls (wrap64 (a1_0)) 0 (wrap64 ((wrap64 (s0_0)) - 1)) true _ A3.out).mono ?_); rintro e w' ⟨rfl, ⟨nd, rfl⟩⟩; (try first | exact ⟨rfl, _, World.drewN_drewN _ _ _⟩ | exact ⟨rfl, _, Eq.trans (World.drewN_drewN _ _ _) (congrArg (World.drewN _) (Nat.add_assoc _ _ _))⟩)) | (go_at_call 33; (with_reducible refine (spec_l00In.calls (wrap64 (a1_1)) 0 (wrap64 ((wrap64 (s0_1)) - 1)) t103 _ A5.out).mono ?_); rintro e w' ⟨rfl, ⟨nd, rfl⟩⟩; (try first | exact ⟨rfl, _, World.drewN_drewN _ _ _⟩ | exact ⟨rfl, _, Eq.trans (World.drewN_drewN _ _ _) (congrArg (World.drewN _) (Nat.add_assoc _ _ _))⟩))); try go_wp2_with (first | ((with_reducible refine gate_dst (N := 3) rfl ?_); refine bxe (N := 3) (cs := #[.int .i8 a1_0, .int .i8 a1_1]) (t := 46) ?_; intro gb101 hg w6 hbox hb; have BK101 := am (hbox); have GW101 := am (gN hg (keep_size (w := w) (g := g) (row := none) (ke HK))); have GE101 := am (Nat.le_trans HW0.out (gN hg (keep_size (w := w) (g := g) (row := none) (ke HK)))); have NB0_101 := am (nLi hg (IsS32.lt (show IsS32 w0 _ g s0_0 s0_1 s0_2 from si32 HI0))); have NB101_0 := am (nRi hg (IsS32.lt (show IsS32 w0 _ g s0_0 s0_1 s0_2 from si32 HI0))); replace HI0 := am (IsS32.below (si32 HI0) hb); replace HK := am (KeepBut.trans (ke HK) (KeepBut.of_below hb g none) (.inl rfl)); replace HB := am (below_step (be HB) hb); clear hb hbox hg; have hnb7 := NB101_0.out; have hnc7 := NB0_101.out; obtain ⟨hcz8_0, hcz8_1, hfz8_0, hfz8_1⟩ := bx2 BK101; obtain ⟨HGz9, hgz9⟩ := HI0.out; have hcz9_0 := cellS32_0 HGz9; have hcz9_1 := cellS32_1 HGz9; have hwz9 := lv32_at HGz9; have haz9 := at_cells HGz9; have hyz9 := BayAt32_of HGz9; have hvz9 := lvv_of HGz9; have hfz9_0 := blk_frozen HGz9 0; have hfz9_1 := blk_frozen HGz9 1; have hfz9_2 := blk_frozen HGz9 2; clear HGz9 hgz9) | (go_at_call 33; (with_reducible refine (spec_l00In.calls (wrap64 (a1_0)) 0 (wrap64 ((wrap64 (s0_0)) - 1)) true _ A3.out).mono ?_); rintro e w' ⟨rfl, ⟨nd, rfl⟩⟩; (try first | exact ⟨rfl, _, World.drewN_drewN _ _ _⟩ | exact ⟨rfl, _, Eq.trans (World.drewN_drewN _ _ _) (congrArg (World.drewN _) (Nat.add_assoc _ _ _))⟩)) | (go_at_call 33; (with_reducible refine (spec_l00In.calls (wrap64 (a1_1)) 0 (wrap64 ((wrap64 (s0_1)) - 1)) t103 _ A5.out).mono ?_); rintro e w' ⟨rfl, ⟨nd, rfl⟩⟩; (try first | exact ⟨rfl, _, World.drewN_drewN _ _ _⟩ | exact ⟨rfl, _, Eq.trans (World.drewN_drewN _ _ _) (congrArg (World.drewN _) (Nat.add_assoc _ _ _))⟩))))
  go_ret
  exact ⟨by first | rfl | (simp [errW_none, errW_some] <;> rfl) | (simp [*, errW_none, errW_some] <;> rfl), si32 HI0, be HB, ke HK⟩
 ·replace c4 := Bool.eq_false_iff.mpr c4
  subst c4
  have H1 : (some (false, s0_0, s0_1, s0_2)) = some (r1, r2, r3, r4) := by rw [if_neg (show ¬ (false = true) by decide)] at H; exact H
  clear H
  have H := H1
  clear H1
  simp only [Option.some.injEq, Prod.mk.injEq] at H
  obtain ⟨rfl, rfl, rfl, rfl⟩ := H
  go_enter Try.func34, Try.ntmps34
  go_wp2_with (first | ((with_reducible refine gate_dst (N := 3) rfl ?_); refine bxe (N := 3) (cs := #[.int .i8 a1_0, .int .i8 a1_1]) (t := 46) ?_; intro gb101 hg w10 hbox hb; have BK101 := am (hbox); have GW101 := am (gN hg (keep_size (w := w) (g := g) (row := none) (ke HK))); have GE101 := am (Nat.le_trans HW0.out (gN hg (keep_size (w := w) (g := g) (row := none) (ke HK)))); have NB0_101 := am (nLi hg (IsS32.lt (show IsS32 w0 _ g s0_0 s0_1 s0_2 from si32 HI0))); have NB101_0 := am (nRi hg (IsS32.lt (show IsS32 w0 _ g s0_0 s0_1 s0_2 from si32 HI0))); replace HI0 := am (IsS32.below (si32 HI0) hb); replace HK := am (KeepBut.trans (ke HK) (KeepBut.of_below hb g none) (.inl rfl)); replace HB := am (below_step (be HB) hb); clear hb hbox hg; have hnb11 := NB101_0.out; have hnc11 := NB0_101.out; obtain ⟨hcz12_0, hcz12_1, hfz12_0, hfz12_1⟩ := bx2 BK101; obtain ⟨HGz13, hgz13⟩ := HI0.out; have hcz13_0 := cellS32_0 HGz13; have hcz13_1 := cellS32_1 HGz13; have hwz13 := lv32_at HGz13; have haz13 := at_cells HGz13; have hyz13 := BayAt32_of HGz13; have hvz13 := lvv_of HGz13; have hfz13_0 := blk_frozen HGz13 0; have hfz13_1 := blk_frozen HGz13 1; have hfz13_2 := blk_frozen HGz13 2; clear HGz13 hgz13) | (go_at_call 33; (with_reducible refine (spec_l00In.calls (wrap64 (a1_0)) 0 (wrap64 ((wrap64 (s0_0)) - 1)) false _ A3.out).mono ?_); rintro e w' ⟨rfl, ⟨nd, rfl⟩⟩; (try first | exact ⟨rfl, _, World.drewN_drewN _ _ _⟩ | exact ⟨rfl, _, Eq.trans (World.drewN_drewN _ _ _) (congrArg (World.drewN _) (Nat.add_assoc _ _ _))⟩)))
  repeat (go_quiet (first | ((with_reducible refine gate_dst (N := 3) rfl ?_); refine bxe (N := 3) (cs := #[.int .i8 a1_0, .int .i8 a1_1]) (t := 46) ?_; intro gb101 hg w10 hbox hb; have BK101 := am (hbox); have GW101 := am (gN hg (keep_size (w := w) (g := g) (row := none) (ke HK))); have GE101 := am (Nat.le_trans HW0.out (gN hg (keep_size (w := w) (g := g) (row := none) (ke HK)))); have NB0_101 := am (nLi hg (IsS32.lt (show IsS32 w0 _ g s0_0 s0_1 s0_2 from si32 HI0))); have NB101_0 := am (nRi hg (IsS32.lt (show IsS32 w0 _ g s0_0 s0_1 s0_2 from si32 HI0))); replace HI0 := am (IsS32.below (si32 HI0) hb); replace HK := am (KeepBut.trans (ke HK) (KeepBut.of_below hb g none) (.inl rfl)); replace HB := am (below_step (be HB) hb); clear hb hbox hg; have hnb11 := NB101_0.out; have hnc11 := NB0_101.out; obtain ⟨hcz12_0, hcz12_1, hfz12_0, hfz12_1⟩ := bx2 BK101; obtain ⟨HGz13, hgz13⟩ := HI0.out; have hcz13_0 := cellS32_0 HGz13; have hcz13_1 := cellS32_1 HGz13; have hwz13 := lv32_at HGz13; have haz13 := at_cells HGz13; have hyz13 := BayAt32_of HGz13; have hvz13 := lvv_of HGz13; have hfz13_0 := blk_frozen HGz13 0; have hfz13_1 := blk_frozen HGz13 1; have hfz13_2 := blk_frozen HGz13 2; clear HGz13 hgz13) | (go_at_call 33; (with_reducible refine (spec_l00In.calls (wrap64 (a1_0)) 0 (wrap64 ((wrap64 (s0_0)) - 1)) false _ A3.out).mono ?_); rintro e w' ⟨rfl, ⟨nd, rfl⟩⟩; (try first | exact ⟨rfl, _, World.drewN_drewN _ _ _⟩ | exact ⟨rfl, _, Eq.trans (World.drewN_drewN _ _ _) (congrArg (World.drewN _) (Nat.add_assoc _ _ _))⟩))); try go_wp2_with (first | ((with_reducible refine gate_dst (N := 3) rfl ?_); refine bxe (N := 3) (cs := #[.int .i8 a1_0, .int .i8 a1_1]) (t := 46) ?_; intro gb101 hg w10 hbox hb; have BK101 := am (hbox); have GW101 := am (gN hg (keep_size (w := w) (g := g) (row := none) (ke HK))); have GE101 := am (Nat.le_trans HW0.out (gN hg (keep_size (w := w) (g := g) (row := none) (ke HK)))); have NB0_101 := am (nLi hg (IsS32.lt (show IsS32 w0 _ g s0_0 s0_1 s0_2 from si32 HI0))); have NB101_0 := am (nRi hg (IsS32.lt (show IsS32 w0 _ g s0_0 s0_1 s0_2 from si32 HI0))); replace HI0 := am (IsS32.below (si32 HI0) hb); replace HK := am (KeepBut.trans (ke HK) (KeepBut.of_below hb g none) (.inl rfl)); replace HB := am (below_step (be HB) hb); clear hb hbox hg; have hnb11 := NB101_0.out; have hnc11 := NB0_101.out; obtain ⟨hcz12_0, hcz12_1, hfz12_0, hfz12_1⟩ := bx2 BK101; obtain ⟨HGz13, hgz13⟩ := HI0.out; have hcz13_0 := cellS32_0 HGz13; have hcz13_1 := cellS32_1 HGz13; have hwz13 := lv32_at HGz13; have haz13 := at_cells HGz13; have hyz13 := BayAt32_of HGz13; have hvz13 := lvv_of HGz13; have hfz13_0 := blk_frozen HGz13 0; have hfz13_1 := blk_frozen HGz13 1; have hfz13_2 := blk_frozen HGz13 2; clear HGz13 hgz13) | (go_at_call 33; (with_reducible refine (spec_l00In.calls (wrap64 (a1_0)) 0 (wrap64 ((wrap64 (s0_0)) - 1)) false _ A3.out).mono ?_); rintro e w' ⟨rfl, ⟨nd, rfl⟩⟩; (try first | exact ⟨rfl, _, World.drewN_drewN _ _ _⟩ | exact ⟨rfl, _, Eq.trans (World.drewN_drewN _ _ _) (congrArg (World.drewN _) (Nat.add_assoc _ _ _))⟩))))
  go_ret
  exact ⟨by first | rfl | (simp [errW_none, errW_some] <;> rfl) | (simp [*, errW_none, errW_some] <;> rfl), si32 HI0, be HB, ke HK⟩

/-! ### spec_l01Bay: function 22 -/
mutual
def spec_l01Bay.j0 : Nat → Bool → Int → Int → (Nat → Int) → Option (Bool × Int × Int × (Nat → Int))
 | 0, _, _, _, _ => none
 | k + 1, x21, x1000, x1001, x1002 => if x21 = true then (some (false, x1000, x1001, x1002)) else (spec_l01Bay.l0 k 0 x1000 x1001 x1002)
def spec_l01Bay.l0 : Nat → Int → Int → Int → (Nat → Int) → Option (Bool × Int × Int × (Nat → Int))
 | 0, _, _, _, _ => none
 | k + 1, x3, x1000, x1001, x1002 => if x3 < 16 then (spec_l01Bay.l1 k x3 0 x1000 x1001 x1002) else (some (true, x1000, x1001, x1002))
def spec_l01Bay.l1 : Nat → Int → Int → Int → Int → (Nat → Int) → Option (Bool × Int × Int × (Nat → Int))
 | 0, _, _, _, _, _ => none
 | k + 1, x3, x4, x1000, x1001, x1002 => if x4 < 16 then (if 0 ≤ x3 then (if x3 < 16 then (if 0 ≤ x4 then ((spec_l00In.f (wrap64 (x1002 (16 * (x3 : Int).toNat + (x4 : Int).toNat))) 0 30).bind fun t106 => (if t106 = true then (if (x1002 (16 * (x3 : Int).toNat + (x4 : Int).toNat)) = 0 then (spec_l01Bay.l1 k x3 (IntKind.i8.wrap (x4 + 1)) x1000 x1001 x1002) else ((spec_l01Is.f x1000 x1001 x1002 x4 x3).bind fun bt107 => (if bt107.1 = true then (spec_l01Bay.l1 k x3 (IntKind.i8.wrap (x4 + 1)) bt107.2.1 bt107.2.2.1 bt107.2.2.2) else (some (false, bt107.2.1, bt107.2.2.1, bt107.2.2.2))))) else (some (false, x1000, x1001, x1002)))) else (none)) else (none)) else (none)) else (spec_l01Bay.l0 k (IntKind.i8.wrap (x3 + 1)) x1000 x1001 x1002)
end
def spec_l01Bay.f (k : Nat) (s0_0 : Int) (s0_1 : Int) (s0_2 : (Nat → Int)) : Option (Bool × Int × Int × (Nat → Int)) := (spec_l00In.f (wrap64 (s0_0)) 1 16).bind fun t104 => (if t104 = true then ((spec_l00In.f (wrap64 (s0_1)) 1 16).bind fun t105 => (spec_l01Bay.j0 k (!t105) s0_0 s0_1 s0_2)) else (spec_l01Bay.j0 k true s0_0 s0_1 s0_2))
set_option maxHeartbeats 8000000 in
set_option maxRecDepth 100000 in
theorem spec_l01Bay.calls (k : Nat) (g : Nat) (s0_0 : Int) (s0_1 : Int) (s0_2 : (Nat → Int)) (r1 : Bool) (r2 : Int) (r3 : Int) (r4 : (Nat → Int)) (w0 w : World) (hI : IsS32 w0 w g s0_0 s0_1 s0_2) (hB : Below w0.heap.size w0 w) (h : spec_l01Bay.f k s0_0 s0_1 s0_2 = some (r1, r2, r3, r4)) :
  Calls Try.prog 22 #[.pointer (some ⟨g, 0, none⟩)] w fun e w' => e = .returned (.bool r1) ∧ IsS32 w0 w' g r2 r3 r4 ∧ Below w0.heap.size w0 w' ∧ KeepBut w w' g none := by
 have hu46 := Try.underlying46
 have HI0 := am hI
 have HK := am (KeepBut.refl w g none)
 have HL := am hB.size
 clear hI
 have HW0 := am hB.size
 have HB := am hB
 clear hB
 have H : ((spec_l00In.f (wrap64 (s0_0)) 1 16).bind fun t104 => (if t104 = true then ((spec_l00In.f (wrap64 (s0_1)) 1 16).bind fun t105 => (spec_l01Bay.j0 k (!t105) s0_0 s0_1 s0_2)) else (spec_l01Bay.j0 k true s0_0 s0_1 s0_2))) = some (r1, r2, r3, r4) := h
 clear h
 have HC2 := am H
 clear H
 go_enter Try.func22, Try.ntmps22
 go_upto_region 1 with (fail)
 go_cut [21] (fun v21 wc => ∃ (kq : Nat) (x21_1 : Bool), v21 = .bool x21_1 ∧ Aside0 (spec_l01Bay.j0 kq x21_1 s0_0 s0_1 s0_2 = some (r1, r2, r3, r4)) ∧ Aside0 (kq ≤ k) ∧ Aside0 (IsS32 w0 wc g s0_0 s0_1 s0_2) ∧ Aside0 (KeepBut w wc g none) ∧ Aside0 (Below w0.heap.size w0 wc))
 case first =>
  have H := HC2.out
  clear HC2
  replace H := Option.bind_eq_some_iff.mp H
  obtain ⟨t104, A30, H⟩ := H
  try dsimp only at H
  have A3 := am A30
  clear A30
  by_cases c4 : t104 = true
  ·subst c4
   rw [if_pos rfl] at H
   replace H := Option.bind_eq_some_iff.mp H
   obtain ⟨t105, A50, H⟩ := H
   try dsimp only at H
   have A5 := am A50
   clear A50
   have H' := am H
   clear H
   obtain ⟨HGz6, hgz6⟩ := HI0.out
   have hcz6_0 := cellS32_0 HGz6
   have hcz6_1 := cellS32_1 HGz6
   have hwz6 := lv32_at HGz6; have haz6 := at_cells HGz6; have hyz6 := BayAt32_of HGz6; have hvz6 := lvv_of HGz6
   have hfz6_0 := blk_frozen HGz6 0
   have hfz6_1 := blk_frozen HGz6 1
   have hfz6_2 := blk_frozen HGz6 2
   clear HGz6 hgz6
   go_wp2_with (first | ((with_reducible refine gate_callee (f := 33) rfl ?_); refine gL (some 11) Try.func33 #[.int .i64 (wrap64 (s0_0)), .int .i64 1, .int .i64 16] ?_; (with_reducible refine (spec_l00In.calls (wrap64 (s0_0)) 1 16 true _ A3.out).mono ?_); rintro e w' ⟨rfl, ⟨nd, rfl⟩⟩; refine ⟨_, rfl, ?_⟩) | (go_at_call 33; (with_reducible refine (spec_l00In.calls (wrap64 (s0_1)) 1 16 t105 _ A5.out).mono ?_); rintro e w' ⟨rfl, ⟨nd, rfl⟩⟩))
   go_meet
   case rel => exact ⟨_, (!t105), vv, H', ⟨by first | omega | exact Nat.le_refl _⟩, ⟨si32 HI0⟩, ⟨ke HK⟩, ⟨be HB⟩⟩
  ·replace c4 := Bool.eq_false_iff.mpr c4
   subst c4
   have H1 : (spec_l01Bay.j0 k true s0_0 s0_1 s0_2) = some (r1, r2, r3, r4) := by rw [if_neg (show ¬ (false = true) by decide)] at H; exact H
   clear H
   have H := H1
   clear H1
   have H' := am H
   clear H
   obtain ⟨HGz7, hgz7⟩ := HI0.out
   have hcz7_0 := cellS32_0 HGz7
   have hcz7_1 := cellS32_1 HGz7
   have hwz7 := lv32_at HGz7; have haz7 := at_cells HGz7; have hyz7 := BayAt32_of HGz7; have hvz7 := lvv_of HGz7
   have hfz7_0 := blk_frozen HGz7 0
   have hfz7_1 := blk_frozen HGz7 1
   have hfz7_2 := blk_frozen HGz7 2
   clear HGz7 hgz7
   go_wp2_with (first | ((with_reducible refine gate_callee (f := 33) rfl ?_); refine gL (some 11) Try.func33 #[.int .i64 (wrap64 (s0_0)), .int .i64 1, .int .i64 16] ?_; (with_reducible refine (spec_l00In.calls (wrap64 (s0_0)) 1 16 false _ A3.out).mono ?_); rintro e w' ⟨rfl, ⟨nd, rfl⟩⟩; refine ⟨_, rfl, ?_⟩))
   go_meet
   case rel => exact ⟨_, (true), vv, H', ⟨by first | omega | exact Nat.le_refl _⟩, ⟨si32 HI0⟩, ⟨ke HK⟩, ⟨be HB⟩⟩
 case rest =>
  clear HC2
  try clear c2
  try clear p2
  try clear c3
  try clear c4
  try clear p6
  try clear hcz6_0
  try clear hcz6_1
  try clear hcz7_0
  try clear hcz7_1
  try clear hfz6_0
  try clear hfz6_1
  try clear hfz6_2
  try clear hfz7_0
  try clear hfz7_1
  try clear hfz7_2
  obtain ⟨kq, x21_1, rfl, HA, HJ1, HI0, HK, HB⟩ := hcut
  cases kq with
  | zero => exact absurd HA.out (by simp [spec_l01Bay.j0])
  | succ kj1 =>
   have H := HA.out
   clear HA
   simp only [spec_l01Bay.j0] at H
   by_cases c8 : x21_1 = true
   ·subst c8
    rw [if_pos rfl] at H
    simp only [Option.some.injEq, Prod.mk.injEq] at H
    obtain ⟨rfl, rfl, rfl, rfl⟩ := H
    go_wp2
    go_ret
    exact ⟨by first | rfl | (simp [errW_none, errW_some] <;> rfl) | (simp [*, errW_none, errW_some] <;> rfl), si32 HI0, be HB, ke HK⟩
   ·replace c8 := Bool.eq_false_iff.mpr c8
    subst c8
    have H1 : (spec_l01Bay.l0 kj1 0 s0_0 s0_1 s0_2) = some (r1, r2, r3, r4) := by rw [if_neg (show ¬ (false = true) by decide)] at H; exact H
    clear H
    have H := H1
    clear H1
    have H' := am H
    clear H
    go_wp2
    go_loopg [3] kj1 (fun kq v3 w' => ∃ (x3_2 : Int) (x1000_2 : Int) (x1001_2 : Int) (x1002_2 : (Nat → Int)), v3 = .int .i8 x3_2 ∧ Aside0 (spec_l01Bay.l0 kq x3_2 x1000_2 x1001_2 x1002_2 = some (r1, r2, r3, r4)) ∧ Aside0 (kq ≤ kj1) ∧ Aside0 (IsS32 w0 w' g x1000_2 x1001_2 x1002_2) ∧ Aside0 (KeepBut w w' g none) ∧ Aside0 (Below w0.heap.size w0 w'))
    case atStart => exact ⟨(0), (s0_0), (s0_1), (s0_2), vv, H', ⟨Nat.le_refl _⟩, ⟨si32 HI0⟩, ⟨ke HK⟩, ⟨be HB⟩⟩
    case round =>
     clear H'
     try clear c2
     try clear p2
     try clear c3
     try clear c4
     try clear p6
     try clear c8
     try clear hcz6_0
     try clear hcz6_1
     try clear hcz7_0
     try clear hcz7_1
     try clear hfz6_0
     try clear hfz6_1
     try clear hfz6_2
     try clear hfz7_0
     try clear hfz7_1
     try clear hfz7_2
     try clear p2
     try clear p6
     obtain ⟨x3_2, x1000_2, x1001_2, x1002_2, rfl, HA, HK2, HI0, HK, HB⟩ := hrel
     cases gk with
     | zero => exact absurd HA.out (by simp [spec_l01Bay.l0])
     | succ k2 =>
      have H := HA.out
      clear HA
      simp only [spec_l01Bay.l0] at H
      by_cases c9 : x3_2 < 16
      ·rw [if_pos c9] at H
       have c9b0 : decide (x3_2 < 16) = true := decide_eq_true c9
       have c9b1 : x3_2 < 16 := c9
       clear c9
       have H' := am H
       clear H
       go_wp2
       go_loopg [4] k2 (fun kq v4 w' => ∃ (x4_3 : Int) (x1000_3 : Int) (x1001_3 : Int) (x1002_3 : (Nat → Int)), v4 = .int .i8 x4_3 ∧ Aside0 (spec_l01Bay.l1 kq x3_2 x4_3 x1000_3 x1001_3 x1002_3 = some (r1, r2, r3, r4)) ∧ Aside0 (kq ≤ k2) ∧ Aside0 (IsS32 w0 w' g x1000_3 x1001_3 x1002_3) ∧ Aside0 (KeepBut w w' g none) ∧ Aside0 (Below w0.heap.size w0 w'))
       case atStart => exact ⟨(0), (x1000_2), (x1001_2), (x1002_2), vv, H', ⟨Nat.le_refl _⟩, ⟨si32 HI0⟩, ⟨ke HK⟩, ⟨be HB⟩⟩
       case round =>
        clear H'
        try clear c2
        try clear p2
        try clear c3
        try clear c4
        try clear p6
        try clear c8
        try clear c9
        try clear c9b0
        try clear c9b1
        try clear hcz6_0
        try clear hcz6_1
        try clear hcz7_0
        try clear hcz7_1
        try clear hfz6_0
        try clear hfz6_1
        try clear hfz6_2
        try clear hfz7_0
        try clear hfz7_1
        try clear hfz7_2
        try clear p2
        try clear p6
        obtain ⟨x4_3, x1000_3, x1001_3, x1002_3, rfl, HA, HK3, HI0, HK, HB⟩ := hrel
        cases gk with
        | zero => exact absurd HA.out (by simp [spec_l01Bay.l1])
        | succ k3 =>
         have H := HA.out
         clear HA
         simp only [spec_l01Bay.l1] at H
         by_cases c10 : x4_3 < 16
         ·rw [if_pos c10] at H
          have c10b0 : decide (x4_3 < 16) = true := decide_eq_true c10
          have c10b1 : x4_3 < 16 := c10
          clear c10
          by_cases c11 : 0 ≤ x3_2
          ·rw [if_pos c11] at H
           have c11b0 : decide (0 ≤ x3_2) = true := decide_eq_true c11
           have c11b1 : 0 ≤ x3_2 := c11
           clear c11
           by_cases c12 : x3_2 < 16
           ·rw [if_pos c12] at H
            have c12b0 : decide (x3_2 < 16) = true := decide_eq_true c12
            have c12b1 : x3_2 < 16 := c12
            clear c12
            by_cases c13 : 0 ≤ x4_3
            ·rw [if_pos c13] at H
             have c13b0 : decide (0 ≤ x4_3) = true := decide_eq_true c13
             have c13b1 : 0 ≤ x4_3 := c13
             clear c13
             replace H := Option.bind_eq_some_iff.mp H
             obtain ⟨t106, A140, H⟩ := H
             try dsimp only at H
             have A14 := am A140
             clear A140
             by_cases c15 : t106 = true
             ·subst c15
              rw [if_pos rfl] at H
              by_cases c16 : (x1002_3 (16 * (x3_2 : Int).toNat + (x4_3 : Int).toNat)) = 0
              ·rw [if_pos c16] at H
               have c16b0 : ((x1002_3 (16 * (x3_2 : Int).toNat + (x4_3 : Int).toNat)) == 0) = true := beq_iff_eq.mpr c16
               have c16b1 : ((x1002_3 (16 * (x3_2 : Int).toNat + (x4_3 : Int).toNat)) != 0) = false := bne_eq_false_iff_eq.mpr c16
               clear c16
               have H' := am H
               clear H
               obtain ⟨HGz17, hgz17⟩ := HI0.out
               have hcz17_0 := cellS32_0 HGz17
               have hcz17_1 := cellS32_1 HGz17
               have hwz17 := lv32_at HGz17; have haz17 := at_cells HGz17; have hyz17 := BayAt32_of HGz17; have hvz17 := lvv_of HGz17
               have hfz17_0 := blk_frozen HGz17 0
               have hfz17_1 := blk_frozen HGz17 1
               have hfz17_2 := blk_frozen HGz17 2
               clear HGz17 hgz17
               go_wp2_with (first | ((with_reducible refine gate_callee (f := 33) rfl ?_); refine gL (some 40) Try.func33 #[.int .i64 (wrap64 (x1002_3 (16 * (x3_2 : Int).toNat + (x4_3 : Int).toNat))), .int .i64 0, .int .i64 30] ?_; (with_reducible refine (spec_l00In.calls (wrap64 (x1002_3 (16 * (x3_2 : Int).toNat + (x4_3 : Int).toNat))) 0 30 true _ A14.out).mono ?_); rintro e w' ⟨rfl, ⟨nd, rfl⟩⟩; refine ⟨_, rfl, ?_⟩))
               go_roundg k3
               case measure => have := HJ1.out; have := HK2.out; have := HK3.out; omega
               case rel => exact ⟨(IntKind.i8.wrap (x4_3 + 1)), (x1000_3), (x1001_3), (x1002_3), vv, H', ⟨by have := HJ1.out; have := HK2.out; have := HK3.out; omega⟩, ⟨si32 HI0⟩, ⟨ke HK⟩, ⟨be HB⟩⟩
              ·rw [if_neg c16] at H
               have c16b0 : ((x1002_3 (16 * (x3_2 : Int).toNat + (x4_3 : Int).toNat)) == 0) = false := beq_eq_false_iff_ne.mpr c16
               have c16b1 : ((x1002_3 (16 * (x3_2 : Int).toNat + (x4_3 : Int).toNat)) != 0) = true := bne_iff_ne.mpr c16
               replace H := Option.bind_eq_some_iff.mp H
               obtain ⟨⟨t107, t108, t109, t110⟩, A180, H⟩ := H
               try dsimp only at H
               have A18 := am A180
               clear A180
               by_cases c19 : t107 = true
               ·subst c19
                rw [if_pos rfl] at H
                have H' := am H
                clear H
                obtain ⟨HGz20, hgz20⟩ := HI0.out
                have hcz20_0 := cellS32_0 HGz20
                have hcz20_1 := cellS32_1 HGz20
                have hwz20 := lv32_at HGz20; have haz20 := at_cells HGz20; have hyz20 := BayAt32_of HGz20; have hvz20 := lvv_of HGz20
                have hfz20_0 := blk_frozen HGz20 0
                have hfz20_1 := blk_frozen HGz20 1
                have hfz20_2 := blk_frozen HGz20 2
                clear HGz20 hgz20
                go_wp2_with (first | ((with_reducible refine gate_callee (f := 33) rfl ?_); refine gL (some 40) Try.func33 #[.int .i64 (wrap64 (x1002_3 (16 * (x3_2 : Int).toNat + (x4_3 : Int).toNat))), .int .i64 0, .int .i64 30] ?_; (with_reducible refine (spec_l00In.calls (wrap64 (x1002_3 (16 * (x3_2 : Int).toNat + (x4_3 : Int).toNat))) 0 30 true _ A14.out).mono ?_); rintro e w' ⟨rfl, ⟨nd, rfl⟩⟩; refine ⟨_, rfl, ?_⟩) | (go_at_call 34; (with_reducible refine (spec_l01Is.calls g x1000_3 x1001_3 x1002_3 x4_3 x3_2 true t108 t109 t110 w0 _ ?side1 ?side2 A18.out).mono ?_); (case side1 => exact si32 HI0); (case side2 => exact be HB); rintro e w21 ⟨rfl, hi, hb, hk⟩; replace HK := am (KeepBut.trans (ke HK) hk (.inl rfl)); replace HB := am (hb); replace HI0 := am (hi); (try clear hb); (try clear hb2); (try clear hk); (try clear hi)))
                go_roundg k3
                case measure => have := HJ1.out; have := HK2.out; have := HK3.out; omega
                case rel => exact ⟨(IntKind.i8.wrap (x4_3 + 1)), (t108), (t109), (t110), vv, H', ⟨by have := HJ1.out; have := HK2.out; have := HK3.out; omega⟩, ⟨si32 HI0⟩, ⟨ke HK⟩, ⟨be HB⟩⟩
               ·replace c19 := Bool.eq_false_iff.mpr c19
                subst c19
                have H1 : (some (false, t108, t109, t110)) = some (r1, r2, r3, r4) := by rw [if_neg (show ¬ (false = true) by decide)] at H; exact H
                clear H
                have H := H1
                clear H1
                simp only [Option.some.injEq, Prod.mk.injEq] at H
                obtain ⟨rfl, rfl, rfl, rfl⟩ := H
                obtain ⟨HGz22, hgz22⟩ := HI0.out
                have hcz22_0 := cellS32_0 HGz22
                have hcz22_1 := cellS32_1 HGz22
                have hwz22 := lv32_at HGz22; have haz22 := at_cells HGz22; have hyz22 := BayAt32_of HGz22; have hvz22 := lvv_of HGz22
                have hfz22_0 := blk_frozen HGz22 0
                have hfz22_1 := blk_frozen HGz22 1
                have hfz22_2 := blk_frozen HGz22 2
                clear HGz22 hgz22
                go_wp2_with (first | ((with_reducible refine gate_callee (f := 33) rfl ?_); refine gL (some 40) Try.func33 #[.int .i64 (wrap64 (x1002_3 (16 * (x3_2 : Int).toNat + (x4_3 : Int).toNat))), .int .i64 0, .int .i64 30] ?_; (with_reducible refine (spec_l00In.calls (wrap64 (x1002_3 (16 * (x3_2 : Int).toNat + (x4_3 : Int).toNat))) 0 30 true _ A14.out).mono ?_); rintro e w' ⟨rfl, ⟨nd, rfl⟩⟩; refine ⟨_, rfl, ?_⟩) | (go_at_call 34; (with_reducible refine (spec_l01Is.calls g x1000_3 x1001_3 x1002_3 x4_3 x3_2 false t108 t109 t110 w0 _ ?side1 ?side2 A18.out).mono ?_); (case side1 => exact si32 HI0); (case side2 => exact be HB); rintro e w23 ⟨rfl, hi, hb, hk⟩; replace HK := am (KeepBut.trans (ke HK) hk (.inl rfl)); replace HB := am (hb); replace HI0 := am (hi); (try clear hb); (try clear hb2); (try clear hk); (try clear hi)))
                go_ret
                exact ⟨by first | rfl | (simp [errW_none, errW_some] <;> rfl) | (simp [*, errW_none, errW_some] <;> rfl), si32 HI0, be HB, ke HK⟩
             ·replace c15 := Bool.eq_false_iff.mpr c15
              subst c15
              have H1 : (some (false, x1000_3, x1001_3, x1002_3)) = some (r1, r2, r3, r4) := by rw [if_neg (show ¬ (false = true) by decide)] at H; exact H
              clear H
              have H := H1
              clear H1
              simp only [Option.some.injEq, Prod.mk.injEq] at H
              obtain ⟨rfl, rfl, rfl, rfl⟩ := H
              obtain ⟨HGz24, hgz24⟩ := HI0.out
              have hcz24_0 := cellS32_0 HGz24
              have hcz24_1 := cellS32_1 HGz24
              have hwz24 := lv32_at HGz24; have haz24 := at_cells HGz24; have hyz24 := BayAt32_of HGz24; have hvz24 := lvv_of HGz24
              have hfz24_0 := blk_frozen HGz24 0
              have hfz24_1 := blk_frozen HGz24 1
              have hfz24_2 := blk_frozen HGz24 2
              clear HGz24 hgz24
              go_wp2_with (first | ((with_reducible refine gate_callee (f := 33) rfl ?_); refine gL (some 40) Try.func33 #[.int .i64 (wrap64 (x1002_3 (16 * (x3_2 : Int).toNat + (x4_3 : Int).toNat))), .int .i64 0, .int .i64 30] ?_; (with_reducible refine (spec_l00In.calls (wrap64 (x1002_3 (16 * (x3_2 : Int).toNat + (x4_3 : Int).toNat))) 0 30 false _ A14.out).mono ?_); rintro e w' ⟨rfl, ⟨nd, rfl⟩⟩; refine ⟨_, rfl, ?_⟩))
              go_ret
              exact ⟨by first | rfl | (simp [errW_none, errW_some] <;> rfl) | (simp [*, errW_none, errW_some] <;> rfl), si32 HI0, be HB, ke HK⟩
            ·rw [if_neg c13] at H
             exact absurd H (by simp)
           ·rw [if_neg c12] at H
            exact absurd H (by simp)
          ·rw [if_neg c11] at H
           exact absurd H (by simp)
         ·rw [if_neg c10] at H
          have c10b0 : decide (x4_3 < 16) = false := decide_eq_false c10
          clear c10
          have H' := am H
          clear H
          go_wp2
          go_roundg k3
          case measure => have := HJ1.out; have := HK2.out; have := HK3.out; omega
          case rel => exact ⟨(IntKind.i8.wrap (x3_2 + 1)), (x1000_3), (x1001_3), (x1002_3), vv, H', ⟨by have := HJ1.out; have := HK2.out; have := HK3.out; omega⟩, ⟨si32 HI0⟩, ⟨ke HK⟩, ⟨be HB⟩⟩
      ·rw [if_neg c9] at H
       have c9b0 : decide (x3_2 < 16) = false := decide_eq_false c9
       clear c9
       simp only [Option.some.injEq, Prod.mk.injEq] at H
       obtain ⟨rfl, rfl, rfl, rfl⟩ := H
       go_wp2
       go_ret
       exact ⟨by first | rfl | (simp [errW_none, errW_some] <;> rfl) | (simp [*, errW_none, errW_some] <;> rfl), si32 HI0, be HB, ke HK⟩

/-! ### spec_l01Depth: function 35 -/
def spec_l01Depth.f (s0_0 : Int) (s0_1 : Int) (s0_2 : (Nat → Int)) (a1_0 : Int) (a1_1 : Int) : Option (Int × Int × Int × (Nat → Int)) := if 0 ≤ a1_1 then (if a1_1 < 16 then (if 0 ≤ a1_0 then (if a1_0 < 16 then (some (wrap64 (s0_2 (16 * (a1_1 : Int).toNat + (a1_0 : Int).toNat)), s0_0, s0_1, s0_2)) else (none)) else (none)) else (none)) else (none)
set_option maxHeartbeats 8000000 in
set_option maxRecDepth 100000 in
theorem spec_l01Depth.calls (g : Nat) (s0_0 : Int) (s0_1 : Int) (s0_2 : (Nat → Int)) (a1_0 : Int) (a1_1 : Int) (r1 : Int) (r2 : Int) (r3 : Int) (r4 : (Nat → Int)) (w0 w : World) (hI : IsS32 w0 w g s0_0 s0_1 s0_2) (hB : Below w0.heap.size w0 w) (h : spec_l01Depth.f s0_0 s0_1 s0_2 a1_0 a1_1 = some (r1, r2, r3, r4)) :
  Calls Try.prog 35 #[.pointer (some ⟨g, 0, none⟩), .agg #[.int .i8 a1_0, .int .i8 a1_1]] w fun e w' => e = .returned (.int .i64 r1) ∧ IsS32 w0 w' g r2 r3 r4 ∧ Below w0.heap.size w0 w' ∧ KeepBut w w' g none := by
 have hu46 := Try.underlying46
 have HI0 := am hI
 have HK := am (KeepBut.refl w g none)
 have HL := am hB.size
 clear hI
 have HW0 := am hB.size
 have HB := am hB
 clear hB
 have H : (if 0 ≤ a1_1 then (if a1_1 < 16 then (if 0 ≤ a1_0 then (if a1_0 < 16 then (some (wrap64 (s0_2 (16 * (a1_1 : Int).toNat + (a1_0 : Int).toNat)), s0_0, s0_1, s0_2)) else (none)) else (none)) else (none)) else (none)) = some (r1, r2, r3, r4) := h
 clear h
 by_cases c3 : 0 ≤ a1_1
 ·rw [if_pos c3] at H
  have c3b0 : decide (0 ≤ a1_1) = true := decide_eq_true c3
  have c3b1 : 0 ≤ a1_1 := c3
  clear c3
  by_cases c4 : a1_1 < 16
  ·rw [if_pos c4] at H
   have c4b0 : decide (a1_1 < 16) = true := decide_eq_true c4
   have c4b1 : a1_1 < 16 := c4
   clear c4
   by_cases c5 : 0 ≤ a1_0
   ·rw [if_pos c5] at H
    have c5b0 : decide (0 ≤ a1_0) = true := decide_eq_true c5
    have c5b1 : 0 ≤ a1_0 := c5
    clear c5
    by_cases c6 : a1_0 < 16
    ·rw [if_pos c6] at H
     have c6b0 : decide (a1_0 < 16) = true := decide_eq_true c6
     have c6b1 : a1_0 < 16 := c6
     clear c6
     simp only [Option.some.injEq, Prod.mk.injEq] at H
     obtain ⟨rfl, rfl, rfl, rfl⟩ := H
     go_enter Try.func35, Try.ntmps35
     go_wp2_with (first | ((with_reducible refine gate_dst (N := 3) rfl ?_); refine bxe (N := 3) (cs := #[.int .i8 a1_0, .int .i8 a1_1]) (t := 46) ?_; intro gb111 hg w7 hbox hb; have BK111 := am (hbox); have GW111 := am (gN hg (keep_size (w := w) (g := g) (row := none) (ke HK))); have GE111 := am (Nat.le_trans HW0.out (gN hg (keep_size (w := w) (g := g) (row := none) (ke HK)))); have NB0_111 := am (nLi hg (IsS32.lt (show IsS32 w0 _ g s0_0 s0_1 s0_2 from si32 HI0))); have NB111_0 := am (nRi hg (IsS32.lt (show IsS32 w0 _ g s0_0 s0_1 s0_2 from si32 HI0))); replace HI0 := am (IsS32.below (si32 HI0) hb); replace HK := am (KeepBut.trans (ke HK) (KeepBut.of_below hb g none) (.inl rfl)); replace HB := am (below_step (be HB) hb); clear hb hbox hg; have hnb8 := NB111_0.out; have hnc8 := NB0_111.out; obtain ⟨hcz9_0, hcz9_1, hfz9_0, hfz9_1⟩ := bx2 BK111; obtain ⟨HGz10, hgz10⟩ := HI0.out; have hcz10_0 := cellS32_0 HGz10; have hcz10_1 := cellS32_1 HGz10; have hwz10 := lv32_at HGz10; have haz10 := at_cells HGz10; have hyz10 := BayAt32_of HGz10; have hvz10 := lvv_of HGz10; have hfz10_0 := blk_frozen HGz10 0; have hfz10_1 := blk_frozen HGz10 1; have hfz10_2 := blk_frozen HGz10 2; clear HGz10 hgz10))
     repeat (go_quiet (first | ((with_reducible refine gate_dst (N := 3) rfl ?_); refine bxe (N := 3) (cs := #[.int .i8 a1_0, .int .i8 a1_1]) (t := 46) ?_; intro gb111 hg w7 hbox hb; have BK111 := am (hbox); have GW111 := am (gN hg (keep_size (w := w) (g := g) (row := none) (ke HK))); have GE111 := am (Nat.le_trans HW0.out (gN hg (keep_size (w := w) (g := g) (row := none) (ke HK)))); have NB0_111 := am (nLi hg (IsS32.lt (show IsS32 w0 _ g s0_0 s0_1 s0_2 from si32 HI0))); have NB111_0 := am (nRi hg (IsS32.lt (show IsS32 w0 _ g s0_0 s0_1 s0_2 from si32 HI0))); replace HI0 := am (IsS32.below (si32 HI0) hb); replace HK := am (KeepBut.trans (ke HK) (KeepBut.of_below hb g none) (.inl rfl)); replace HB := am (below_step (be HB) hb); clear hb hbox hg; have hnb8 := NB111_0.out; have hnc8 := NB0_111.out; obtain ⟨hcz9_0, hcz9_1, hfz9_0, hfz9_1⟩ := bx2 BK111; obtain ⟨HGz10, hgz10⟩ := HI0.out; have hcz10_0 := cellS32_0 HGz10; have hcz10_1 := cellS32_1 HGz10; have hwz10 := lv32_at HGz10; have haz10 := at_cells HGz10; have hyz10 := BayAt32_of HGz10; have hvz10 := lvv_of HGz10; have hfz10_0 := blk_frozen HGz10 0; have hfz10_1 := blk_frozen HGz10 1; have hfz10_2 := blk_frozen HGz10 2; clear HGz10 hgz10)); try go_wp2_with (first | ((with_reducible refine gate_dst (N := 3) rfl ?_); refine bxe (N := 3) (cs := #[.int .i8 a1_0, .int .i8 a1_1]) (t := 46) ?_; intro gb111 hg w7 hbox hb; have BK111 := am (hbox); have GW111 := am (gN hg (keep_size (w := w) (g := g) (row := none) (ke HK))); have GE111 := am (Nat.le_trans HW0.out (gN hg (keep_size (w := w) (g := g) (row := none) (ke HK)))); have NB0_111 := am (nLi hg (IsS32.lt (show IsS32 w0 _ g s0_0 s0_1 s0_2 from si32 HI0))); have NB111_0 := am (nRi hg (IsS32.lt (show IsS32 w0 _ g s0_0 s0_1 s0_2 from si32 HI0))); replace HI0 := am (IsS32.below (si32 HI0) hb); replace HK := am (KeepBut.trans (ke HK) (KeepBut.of_below hb g none) (.inl rfl)); replace HB := am (below_step (be HB) hb); clear hb hbox hg; have hnb8 := NB111_0.out; have hnc8 := NB0_111.out; obtain ⟨hcz9_0, hcz9_1, hfz9_0, hfz9_1⟩ := bx2 BK111; obtain ⟨HGz10, hgz10⟩ := HI0.out; have hcz10_0 := cellS32_0 HGz10; have hcz10_1 := cellS32_1 HGz10; have hwz10 := lv32_at HGz10; have haz10 := at_cells HGz10; have hyz10 := BayAt32_of HGz10; have hvz10 := lvv_of HGz10; have hfz10_0 := blk_frozen HGz10 0; have hfz10_1 := blk_frozen HGz10 1; have hfz10_2 := blk_frozen HGz10 2; clear HGz10 hgz10)))
     go_ret
     exact ⟨by first | rfl | (simp [errW_none, errW_some] <;> rfl) | (simp [*, errW_none, errW_some] <;> rfl), si32 HI0, be HB, ke HK⟩
    ·rw [if_neg c6] at H
     exact absurd H (by simp)
   ·rw [if_neg c5] at H
    exact absurd H (by simp)
  ·rw [if_neg c4] at H
   exact absurd H (by simp)
 ·rw [if_neg c3] at H
  exact absurd H (by simp)

/-! ### spec_l01Boat: function 23 -/
def spec_l01Boat.f (s0_0 : Int) (s0_1 : Int) (s0_2 : (Nat → Int)) (a1_0 : Int) (a1_1 : Int) (a1_2 : Int) (a1_3 : Int) (a1_4 : Int) (a1_5 : Int) : Option (Bool × Int × Int × (Nat → Int)) := (spec_l01Is.f s0_0 s0_1 s0_2 a1_0 a1_1).bind fun bt113 => (if bt113.1 = true then ((spec_l01Depth.f bt113.2.1 bt113.2.2.1 bt113.2.2.2 a1_0 a1_1).bind fun bt117 => (if bt117.1 > 0 then ((spec_l00In.f (wrap64 (a1_2)) 1 60).bind fun t121 => (if t121 = true then ((spec_l00In.f (wrap64 (a1_3)) 0 5).bind fun t122 => (if t122 = true then ((spec_l00In.f (wrap64 (a1_4)) 1 30).bind fun t123 => (if t123 = true then ((spec_l00In.f (wrap64 (a1_5)) 0 9).bind fun t124 => (some (t124, bt117.2.1, bt117.2.2.1, bt117.2.2.2))) else (some (false, bt117.2.1, bt117.2.2.1, bt117.2.2.2)))) else (some (false, bt117.2.1, bt117.2.2.1, bt117.2.2.2)))) else (some (false, bt117.2.1, bt117.2.2.1, bt117.2.2.2)))) else (some (false, bt117.2.1, bt117.2.2.1, bt117.2.2.2)))) else (some (false, bt113.2.1, bt113.2.2.1, bt113.2.2.2)))
set_option maxHeartbeats 8000000 in
set_option maxRecDepth 100000 in
theorem spec_l01Boat.calls (g : Nat) (s0_0 : Int) (s0_1 : Int) (s0_2 : (Nat → Int)) (a1_0 : Int) (a1_1 : Int) (a1_2 : Int) (a1_3 : Int) (a1_4 : Int) (a1_5 : Int) (r1 : Bool) (r2 : Int) (r3 : Int) (r4 : (Nat → Int)) (w0 w : World) (hI : IsS32 w0 w g s0_0 s0_1 s0_2) (hB : Below w0.heap.size w0 w) (h : spec_l01Boat.f s0_0 s0_1 s0_2 a1_0 a1_1 a1_2 a1_3 a1_4 a1_5 = some (r1, r2, r3, r4)) :
  Calls Try.prog 23 #[.pointer (some ⟨g, 0, none⟩), .agg #[.int .i8 a1_0, .int .i8 a1_1, .int .i8 a1_2, .int .i8 a1_3, .int .i8 a1_4, .int .i8 a1_5]] w fun e w' => e = .returned (.bool r1) ∧ IsS32 w0 w' g r2 r3 r4 ∧ Below w0.heap.size w0 w' ∧ KeepBut w w' g none := by
 have hu48 := Try.underlying48
 have hu46 := Try.underlying46
 have HI0 := am hI
 have HK := am (KeepBut.refl w g none)
 have HL := am hB.size
 clear hI
 have HW0 := am hB.size
 have HB := am hB
 clear hB
 have H : ((spec_l01Is.f s0_0 s0_1 s0_2 a1_0 a1_1).bind fun bt113 => (if bt113.1 = true then ((spec_l01Depth.f bt113.2.1 bt113.2.2.1 bt113.2.2.2 a1_0 a1_1).bind fun bt117 => (if bt117.1 > 0 then ((spec_l00In.f (wrap64 (a1_2)) 1 60).bind fun t121 => (if t121 = true then ((spec_l00In.f (wrap64 (a1_3)) 0 5).bind fun t122 => (if t122 = true then ((spec_l00In.f (wrap64 (a1_4)) 1 30).bind fun t123 => (if t123 = true then ((spec_l00In.f (wrap64 (a1_5)) 0 9).bind fun t124 => (some (t124, bt117.2.1, bt117.2.2.1, bt117.2.2.2))) else (some (false, bt117.2.1, bt117.2.2.1, bt117.2.2.2)))) else (some (false, bt117.2.1, bt117.2.2.1, bt117.2.2.2)))) else (some (false, bt117.2.1, bt117.2.2.1, bt117.2.2.2)))) else (some (false, bt117.2.1, bt117.2.2.1, bt117.2.2.2)))) else (some (false, bt113.2.1, bt113.2.2.1, bt113.2.2.2)))) = some (r1, r2, r3, r4) := h
 clear h
 replace H := Option.bind_eq_some_iff.mp H
 obtain ⟨⟨t113, t114, t115, t116⟩, A30, H⟩ := H
 try dsimp only at H
 have A3 := am A30
 clear A30
 by_cases c4 : t113 = true
 ·subst c4
  rw [if_pos rfl] at H
  replace H := Option.bind_eq_some_iff.mp H
  obtain ⟨⟨t117, t118, t119, t120⟩, A50, H⟩ := H
  try dsimp only at H
  have A5 := am A50
  clear A50
  by_cases c6 : t117 > 0
  ·rw [if_pos c6] at H
   have c6b0 : decide (0 < t117) = true := decide_eq_true c6
   clear c6
   replace H := Option.bind_eq_some_iff.mp H
   obtain ⟨t121, A70, H⟩ := H
   try dsimp only at H
   have A7 := am A70
   clear A70
   by_cases c8 : t121 = true
   ·subst c8
    rw [if_pos rfl] at H
    replace H := Option.bind_eq_some_iff.mp H
    obtain ⟨t122, A90, H⟩ := H
    try dsimp only at H
    have A9 := am A90
    clear A90
    by_cases c10 : t122 = true
    ·subst c10
     rw [if_pos rfl] at H
     replace H := Option.bind_eq_some_iff.mp H
     obtain ⟨t123, A110, H⟩ := H
     try dsimp only at H
     have A11 := am A110
     clear A110
     by_cases c12 : t123 = true
     ·subst c12
      rw [if_pos rfl] at H
      replace H := Option.bind_eq_some_iff.mp H
      obtain ⟨t124, A130, H⟩ := H
      try dsimp only at H
      have A13 := am A130
      clear A130
      simp only [Option.some.injEq, Prod.mk.injEq] at H
      obtain ⟨rfl, rfl, rfl, rfl⟩ := H
      go_enter Try.func23, Try.ntmps23
      go_wp2_with (first | ((with_reducible refine gate_dst (N := 3) rfl ?_); refine bxe (N := 3) (cs := #[.int .i8 a1_0, .int .i8 a1_1, .int .i8 a1_2, .int .i8 a1_3, .int .i8 a1_4, .int .i8 a1_5]) (t := 48) ?_; intro gb112 hg w14 hbox hb; have BK112 := am (hbox); have GW112 := am (gN hg (keep_size (w := w) (g := g) (row := none) (ke HK))); have GE112 := am (Nat.le_trans HW0.out (gN hg (keep_size (w := w) (g := g) (row := none) (ke HK)))); have NB0_112 := am (nLi hg (IsS32.lt (show IsS32 w0 _ g s0_0 s0_1 s0_2 from si32 HI0))); have NB112_0 := am (nRi hg (IsS32.lt (show IsS32 w0 _ g s0_0 s0_1 s0_2 from si32 HI0))); replace HI0 := am (IsS32.below (si32 HI0) hb); replace HK := am (KeepBut.trans (ke HK) (KeepBut.of_below hb g none) (.inl rfl)); replace HB := am (below_step (be HB) hb); clear hb hbox hg; have hnb15 := NB112_0.out; have hnc15 := NB0_112.out; obtain ⟨hcz16_0, hcz16_1, hcz16_2, hcz16_3, hcz16_4, hcz16_5, hfz16_0, hfz16_1, hfz16_2, hfz16_3, hfz16_4, hfz16_5⟩ := bx6 BK112) | ((with_reducible refine gate_callee (f := 34) rfl ?_); refine gL (some 8) Try.func34 #[.pointer (some ⟨g, 0, none⟩), .agg #[.int .i8 a1_0, .int .i8 a1_1]] ?_; (with_reducible refine (spec_l01Is.calls g s0_0 s0_1 s0_2 a1_0 a1_1 true t114 t115 t116 w0 _ ?side1 ?side2 A3.out).mono ?_); (case side1 => exact si32 HI0); (case side2 => exact be HB); rintro e w17 ⟨rfl, hi, hb, hk⟩; refine ⟨_, rfl, ?_⟩; replace BK112 := am (KeepBut.blk hk (g' := gb112) (o := .cells #[.int .i8 a1_0, .int .i8 a1_1, .int .i8 a1_2, .int .i8 a1_3, .int .i8 a1_4, .int .i8 a1_5] 48 (0, 0)) (kb BK112) NB112_0.out (by simp)); replace HK := am (KeepBut.trans (ke HK) hk (.inl rfl)); replace HB := am (hb); replace HI0 := am (hi); (try clear hb); (try clear hb2); (try clear hk); (try clear hi); obtain ⟨hcz18_0, hcz18_1, hcz18_2, hcz18_3, hcz18_4, hcz18_5, hfz18_0, hfz18_1, hfz18_2, hfz18_3, hfz18_4, hfz18_5⟩ := bx6 BK112) | (go_at_call 35; (with_reducible refine (spec_l01Depth.calls g t114 t115 t116 a1_0 a1_1 t117 t118 t119 t120 w0 _ ?side1 ?side2 A5.out).mono ?_); (case side1 => exact si32 HI0); (case side2 => exact be HB); rintro e w19 ⟨rfl, hi, hb, hk⟩; replace BK112 := am (KeepBut.blk hk (g' := gb112) (o := .cells #[.int .i8 a1_0, .int .i8 a1_1, .int .i8 a1_2, .int .i8 a1_3, .int .i8 a1_4, .int .i8 a1_5] 48 (0, 0)) (kb BK112) NB112_0.out (by simp)); replace HK := am (KeepBut.trans (ke HK) hk (.inl rfl)); replace HB := am (hb); replace HI0 := am (hi); (try clear hb); (try clear hb2); (try clear hk); (try clear hi); obtain ⟨hcz20_0, hcz20_1, hcz20_2, hcz20_3, hcz20_4, hcz20_5, hfz20_0, hfz20_1, hfz20_2, hfz20_3, hfz20_4, hfz20_5⟩ := bx6 BK112) | (go_at_call 33; (with_reducible refine (spec_l00In.calls (wrap64 (a1_2)) 1 60 true _ A7.out).mono ?_); rintro e w' ⟨rfl, ⟨nd, rfl⟩⟩) | (go_at_call 33; (with_reducible refine (spec_l00In.calls (wrap64 (a1_3)) 0 5 true _ A9.out).mono ?_); rintro e w' ⟨rfl, ⟨nd, rfl⟩⟩) | (go_at_call 33; (with_reducible refine (spec_l00In.calls (wrap64 (a1_4)) 1 30 true _ A11.out).mono ?_); rintro e w' ⟨rfl, ⟨nd, rfl⟩⟩) | (go_at_call 33; (with_reducible refine (spec_l00In.calls (wrap64 (a1_5)) 0 9 t124 _ A13.out).mono ?_); rintro e w' ⟨rfl, ⟨nd, rfl⟩⟩))
      go_ret
      exact ⟨by first | rfl | (simp [errW_none, errW_some] <;> rfl) | (simp [*, errW_none, errW_some] <;> rfl), si32 HI0, be HB, ke HK⟩
     ·replace c12 := Bool.eq_false_iff.mpr c12
      subst c12
      have H1 : (some (false, t118, t119, t120)) = some (r1, r2, r3, r4) := by rw [if_neg (show ¬ (false = true) by decide)] at H; exact H
      clear H
      have H := H1
      clear H1
      simp only [Option.some.injEq, Prod.mk.injEq] at H
      obtain ⟨rfl, rfl, rfl, rfl⟩ := H
      go_enter Try.func23, Try.ntmps23
      go_wp2_with (first | ((with_reducible refine gate_dst (N := 3) rfl ?_); refine bxe (N := 3) (cs := #[.int .i8 a1_0, .int .i8 a1_1, .int .i8 a1_2, .int .i8 a1_3, .int .i8 a1_4, .int .i8 a1_5]) (t := 48) ?_; intro gb112 hg w21 hbox hb; have BK112 := am (hbox); have GW112 := am (gN hg (keep_size (w := w) (g := g) (row := none) (ke HK))); have GE112 := am (Nat.le_trans HW0.out (gN hg (keep_size (w := w) (g := g) (row := none) (ke HK)))); have NB0_112 := am (nLi hg (IsS32.lt (show IsS32 w0 _ g s0_0 s0_1 s0_2 from si32 HI0))); have NB112_0 := am (nRi hg (IsS32.lt (show IsS32 w0 _ g s0_0 s0_1 s0_2 from si32 HI0))); replace HI0 := am (IsS32.below (si32 HI0) hb); replace HK := am (KeepBut.trans (ke HK) (KeepBut.of_below hb g none) (.inl rfl)); replace HB := am (below_step (be HB) hb); clear hb hbox hg; have hnb22 := NB112_0.out; have hnc22 := NB0_112.out; obtain ⟨hcz23_0, hcz23_1, hcz23_2, hcz23_3, hcz23_4, hcz23_5, hfz23_0, hfz23_1, hfz23_2, hfz23_3, hfz23_4, hfz23_5⟩ := bx6 BK112) | ((with_reducible refine gate_callee (f := 34) rfl ?_); refine gL (some 8) Try.func34 #[.pointer (some ⟨g, 0, none⟩), .agg #[.int .i8 a1_0, .int .i8 a1_1]] ?_; (with_reducible refine (spec_l01Is.calls g s0_0 s0_1 s0_2 a1_0 a1_1 true t114 t115 t116 w0 _ ?side1 ?side2 A3.out).mono ?_); (case side1 => exact si32 HI0); (case side2 => exact be HB); rintro e w24 ⟨rfl, hi, hb, hk⟩; refine ⟨_, rfl, ?_⟩; replace BK112 := am (KeepBut.blk hk (g' := gb112) (o := .cells #[.int .i8 a1_0, .int .i8 a1_1, .int .i8 a1_2, .int .i8 a1_3, .int .i8 a1_4, .int .i8 a1_5] 48 (0, 0)) (kb BK112) NB112_0.out (by simp)); replace HK := am (KeepBut.trans (ke HK) hk (.inl rfl)); replace HB := am (hb); replace HI0 := am (hi); (try clear hb); (try clear hb2); (try clear hk); (try clear hi); obtain ⟨hcz25_0, hcz25_1, hcz25_2, hcz25_3, hcz25_4, hcz25_5, hfz25_0, hfz25_1, hfz25_2, hfz25_3, hfz25_4, hfz25_5⟩ := bx6 BK112) | (go_at_call 35; (with_reducible refine (spec_l01Depth.calls g t114 t115 t116 a1_0 a1_1 t117 t118 t119 t120 w0 _ ?side1 ?side2 A5.out).mono ?_); (case side1 => exact si32 HI0); (case side2 => exact be HB); rintro e w26 ⟨rfl, hi, hb, hk⟩; replace BK112 := am (KeepBut.blk hk (g' := gb112) (o := .cells #[.int .i8 a1_0, .int .i8 a1_1, .int .i8 a1_2, .int .i8 a1_3, .int .i8 a1_4, .int .i8 a1_5] 48 (0, 0)) (kb BK112) NB112_0.out (by simp)); replace HK := am (KeepBut.trans (ke HK) hk (.inl rfl)); replace HB := am (hb); replace HI0 := am (hi); (try clear hb); (try clear hb2); (try clear hk); (try clear hi); obtain ⟨hcz27_0, hcz27_1, hcz27_2, hcz27_3, hcz27_4, hcz27_5, hfz27_0, hfz27_1, hfz27_2, hfz27_3, hfz27_4, hfz27_5⟩ := bx6 BK112) | (go_at_call 33; (with_reducible refine (spec_l00In.calls (wrap64 (a1_2)) 1 60 true _ A7.out).mono ?_); rintro e w' ⟨rfl, ⟨nd, rfl⟩⟩) | (go_at_call 33; (with_reducible refine (spec_l00In.calls (wrap64 (a1_3)) 0 5 true _ A9.out).mono ?_); rintro e w' ⟨rfl, ⟨nd, rfl⟩⟩) | (go_at_call 33; (with_reducible refine (spec_l00In.calls (wrap64 (a1_4)) 1 30 false _ A11.out).mono ?_); rintro e w' ⟨rfl, ⟨nd, rfl⟩⟩))
      go_ret
      exact ⟨by first | rfl | (simp [errW_none, errW_some] <;> rfl) | (simp [*, errW_none, errW_some] <;> rfl), si32 HI0, be HB, ke HK⟩
    ·replace c10 := Bool.eq_false_iff.mpr c10
     subst c10
     have H1 : (some (false, t118, t119, t120)) = some (r1, r2, r3, r4) := by rw [if_neg (show ¬ (false = true) by decide)] at H; exact H
     clear H
     have H := H1
     clear H1
     simp only [Option.some.injEq, Prod.mk.injEq] at H
     obtain ⟨rfl, rfl, rfl, rfl⟩ := H
     go_enter Try.func23, Try.ntmps23
     go_wp2_with (first | ((with_reducible refine gate_dst (N := 3) rfl ?_); refine bxe (N := 3) (cs := #[.int .i8 a1_0, .int .i8 a1_1, .int .i8 a1_2, .int .i8 a1_3, .int .i8 a1_4, .int .i8 a1_5]) (t := 48) ?_; intro gb112 hg w28 hbox hb; have BK112 := am (hbox); have GW112 := am (gN hg (keep_size (w := w) (g := g) (row := none) (ke HK))); have GE112 := am (Nat.le_trans HW0.out (gN hg (keep_size (w := w) (g := g) (row := none) (ke HK)))); have NB0_112 := am (nLi hg (IsS32.lt (show IsS32 w0 _ g s0_0 s0_1 s0_2 from si32 HI0))); have NB112_0 := am (nRi hg (IsS32.lt (show IsS32 w0 _ g s0_0 s0_1 s0_2 from si32 HI0))); replace HI0 := am (IsS32.below (si32 HI0) hb); replace HK := am (KeepBut.trans (ke HK) (KeepBut.of_below hb g none) (.inl rfl)); replace HB := am (below_step (be HB) hb); clear hb hbox hg; have hnb29 := NB112_0.out; have hnc29 := NB0_112.out; obtain ⟨hcz30_0, hcz30_1, hcz30_2, hcz30_3, hcz30_4, hcz30_5, hfz30_0, hfz30_1, hfz30_2, hfz30_3, hfz30_4, hfz30_5⟩ := bx6 BK112) | ((with_reducible refine gate_callee (f := 34) rfl ?_); refine gL (some 8) Try.func34 #[.pointer (some ⟨g, 0, none⟩), .agg #[.int .i8 a1_0, .int .i8 a1_1]] ?_; (with_reducible refine (spec_l01Is.calls g s0_0 s0_1 s0_2 a1_0 a1_1 true t114 t115 t116 w0 _ ?side1 ?side2 A3.out).mono ?_); (case side1 => exact si32 HI0); (case side2 => exact be HB); rintro e w31 ⟨rfl, hi, hb, hk⟩; refine ⟨_, rfl, ?_⟩; replace BK112 := am (KeepBut.blk hk (g' := gb112) (o := .cells #[.int .i8 a1_0, .int .i8 a1_1, .int .i8 a1_2, .int .i8 a1_3, .int .i8 a1_4, .int .i8 a1_5] 48 (0, 0)) (kb BK112) NB112_0.out (by simp)); replace HK := am (KeepBut.trans (ke HK) hk (.inl rfl)); replace HB := am (hb); replace HI0 := am (hi); (try clear hb); (try clear hb2); (try clear hk); (try clear hi); obtain ⟨hcz32_0, hcz32_1, hcz32_2, hcz32_3, hcz32_4, hcz32_5, hfz32_0, hfz32_1, hfz32_2, hfz32_3, hfz32_4, hfz32_5⟩ := bx6 BK112) | (go_at_call 35; (with_reducible refine (spec_l01Depth.calls g t114 t115 t116 a1_0 a1_1 t117 t118 t119 t120 w0 _ ?side1 ?side2 A5.out).mono ?_); (case side1 => exact si32 HI0); (case side2 => exact be HB); rintro e w33 ⟨rfl, hi, hb, hk⟩; replace BK112 := am (KeepBut.blk hk (g' := gb112) (o := .cells #[.int .i8 a1_0, .int .i8 a1_1, .int .i8 a1_2, .int .i8 a1_3, .int .i8 a1_4, .int .i8 a1_5] 48 (0, 0)) (kb BK112) NB112_0.out (by simp)); replace HK := am (KeepBut.trans (ke HK) hk (.inl rfl)); replace HB := am (hb); replace HI0 := am (hi); (try clear hb); (try clear hb2); (try clear hk); (try clear hi); obtain ⟨hcz34_0, hcz34_1, hcz34_2, hcz34_3, hcz34_4, hcz34_5, hfz34_0, hfz34_1, hfz34_2, hfz34_3, hfz34_4, hfz34_5⟩ := bx6 BK112) | (go_at_call 33; (with_reducible refine (spec_l00In.calls (wrap64 (a1_2)) 1 60 true _ A7.out).mono ?_); rintro e w' ⟨rfl, ⟨nd, rfl⟩⟩) | (go_at_call 33; (with_reducible refine (spec_l00In.calls (wrap64 (a1_3)) 0 5 false _ A9.out).mono ?_); rintro e w' ⟨rfl, ⟨nd, rfl⟩⟩))
     go_ret
     exact ⟨by first | rfl | (simp [errW_none, errW_some] <;> rfl) | (simp [*, errW_none, errW_some] <;> rfl), si32 HI0, be HB, ke HK⟩
   ·replace c8 := Bool.eq_false_iff.mpr c8
    subst c8
    have H1 : (some (false, t118, t119, t120)) = some (r1, r2, r3, r4) := by rw [if_neg (show ¬ (false = true) by decide)] at H; exact H
    clear H
    have H := H1
    clear H1
    simp only [Option.some.injEq, Prod.mk.injEq] at H
    obtain ⟨rfl, rfl, rfl, rfl⟩ := H
    go_enter Try.func23, Try.ntmps23
    go_wp2_with (first | ((with_reducible refine gate_dst (N := 3) rfl ?_); refine bxe (N := 3) (cs := #[.int .i8 a1_0, .int .i8 a1_1, .int .i8 a1_2, .int .i8 a1_3, .int .i8 a1_4, .int .i8 a1_5]) (t := 48) ?_; intro gb112 hg w35 hbox hb; have BK112 := am (hbox); have GW112 := am (gN hg (keep_size (w := w) (g := g) (row := none) (ke HK))); have GE112 := am (Nat.le_trans HW0.out (gN hg (keep_size (w := w) (g := g) (row := none) (ke HK)))); have NB0_112 := am (nLi hg (IsS32.lt (show IsS32 w0 _ g s0_0 s0_1 s0_2 from si32 HI0))); have NB112_0 := am (nRi hg (IsS32.lt (show IsS32 w0 _ g s0_0 s0_1 s0_2 from si32 HI0))); replace HI0 := am (IsS32.below (si32 HI0) hb); replace HK := am (KeepBut.trans (ke HK) (KeepBut.of_below hb g none) (.inl rfl)); replace HB := am (below_step (be HB) hb); clear hb hbox hg; have hnb36 := NB112_0.out; have hnc36 := NB0_112.out; obtain ⟨hcz37_0, hcz37_1, hcz37_2, hcz37_3, hcz37_4, hcz37_5, hfz37_0, hfz37_1, hfz37_2, hfz37_3, hfz37_4, hfz37_5⟩ := bx6 BK112) | ((with_reducible refine gate_callee (f := 34) rfl ?_); refine gL (some 8) Try.func34 #[.pointer (some ⟨g, 0, none⟩), .agg #[.int .i8 a1_0, .int .i8 a1_1]] ?_; (with_reducible refine (spec_l01Is.calls g s0_0 s0_1 s0_2 a1_0 a1_1 true t114 t115 t116 w0 _ ?side1 ?side2 A3.out).mono ?_); (case side1 => exact si32 HI0); (case side2 => exact be HB); rintro e w38 ⟨rfl, hi, hb, hk⟩; refine ⟨_, rfl, ?_⟩; replace BK112 := am (KeepBut.blk hk (g' := gb112) (o := .cells #[.int .i8 a1_0, .int .i8 a1_1, .int .i8 a1_2, .int .i8 a1_3, .int .i8 a1_4, .int .i8 a1_5] 48 (0, 0)) (kb BK112) NB112_0.out (by simp)); replace HK := am (KeepBut.trans (ke HK) hk (.inl rfl)); replace HB := am (hb); replace HI0 := am (hi); (try clear hb); (try clear hb2); (try clear hk); (try clear hi); obtain ⟨hcz39_0, hcz39_1, hcz39_2, hcz39_3, hcz39_4, hcz39_5, hfz39_0, hfz39_1, hfz39_2, hfz39_3, hfz39_4, hfz39_5⟩ := bx6 BK112) | (go_at_call 35; (with_reducible refine (spec_l01Depth.calls g t114 t115 t116 a1_0 a1_1 t117 t118 t119 t120 w0 _ ?side1 ?side2 A5.out).mono ?_); (case side1 => exact si32 HI0); (case side2 => exact be HB); rintro e w40 ⟨rfl, hi, hb, hk⟩; replace BK112 := am (KeepBut.blk hk (g' := gb112) (o := .cells #[.int .i8 a1_0, .int .i8 a1_1, .int .i8 a1_2, .int .i8 a1_3, .int .i8 a1_4, .int .i8 a1_5] 48 (0, 0)) (kb BK112) NB112_0.out (by simp)); replace HK := am (KeepBut.trans (ke HK) hk (.inl rfl)); replace HB := am (hb); replace HI0 := am (hi); (try clear hb); (try clear hb2); (try clear hk); (try clear hi); obtain ⟨hcz41_0, hcz41_1, hcz41_2, hcz41_3, hcz41_4, hcz41_5, hfz41_0, hfz41_1, hfz41_2, hfz41_3, hfz41_4, hfz41_5⟩ := bx6 BK112) | (go_at_call 33; (with_reducible refine (spec_l00In.calls (wrap64 (a1_2)) 1 60 false _ A7.out).mono ?_); rintro e w' ⟨rfl, ⟨nd, rfl⟩⟩))
    go_ret
    exact ⟨by first | rfl | (simp [errW_none, errW_some] <;> rfl) | (simp [*, errW_none, errW_some] <;> rfl), si32 HI0, be HB, ke HK⟩
  ·rw [if_neg c6] at H
   have c6b0 : decide (0 < t117) = false := decide_eq_false c6
   clear c6
   simp only [Option.some.injEq, Prod.mk.injEq] at H
   obtain ⟨rfl, rfl, rfl, rfl⟩ := H
   go_enter Try.func23, Try.ntmps23
   go_wp2_with (first | ((with_reducible refine gate_dst (N := 3) rfl ?_); refine bxe (N := 3) (cs := #[.int .i8 a1_0, .int .i8 a1_1, .int .i8 a1_2, .int .i8 a1_3, .int .i8 a1_4, .int .i8 a1_5]) (t := 48) ?_; intro gb112 hg w42 hbox hb; have BK112 := am (hbox); have GW112 := am (gN hg (keep_size (w := w) (g := g) (row := none) (ke HK))); have GE112 := am (Nat.le_trans HW0.out (gN hg (keep_size (w := w) (g := g) (row := none) (ke HK)))); have NB0_112 := am (nLi hg (IsS32.lt (show IsS32 w0 _ g s0_0 s0_1 s0_2 from si32 HI0))); have NB112_0 := am (nRi hg (IsS32.lt (show IsS32 w0 _ g s0_0 s0_1 s0_2 from si32 HI0))); replace HI0 := am (IsS32.below (si32 HI0) hb); replace HK := am (KeepBut.trans (ke HK) (KeepBut.of_below hb g none) (.inl rfl)); replace HB := am (below_step (be HB) hb); clear hb hbox hg; have hnb43 := NB112_0.out; have hnc43 := NB0_112.out; obtain ⟨hcz44_0, hcz44_1, hcz44_2, hcz44_3, hcz44_4, hcz44_5, hfz44_0, hfz44_1, hfz44_2, hfz44_3, hfz44_4, hfz44_5⟩ := bx6 BK112) | ((with_reducible refine gate_callee (f := 34) rfl ?_); refine gL (some 8) Try.func34 #[.pointer (some ⟨g, 0, none⟩), .agg #[.int .i8 a1_0, .int .i8 a1_1]] ?_; (with_reducible refine (spec_l01Is.calls g s0_0 s0_1 s0_2 a1_0 a1_1 true t114 t115 t116 w0 _ ?side1 ?side2 A3.out).mono ?_); (case side1 => exact si32 HI0); (case side2 => exact be HB); rintro e w45 ⟨rfl, hi, hb, hk⟩; refine ⟨_, rfl, ?_⟩; replace BK112 := am (KeepBut.blk hk (g' := gb112) (o := .cells #[.int .i8 a1_0, .int .i8 a1_1, .int .i8 a1_2, .int .i8 a1_3, .int .i8 a1_4, .int .i8 a1_5] 48 (0, 0)) (kb BK112) NB112_0.out (by simp)); replace HK := am (KeepBut.trans (ke HK) hk (.inl rfl)); replace HB := am (hb); replace HI0 := am (hi); (try clear hb); (try clear hb2); (try clear hk); (try clear hi); obtain ⟨hcz46_0, hcz46_1, hcz46_2, hcz46_3, hcz46_4, hcz46_5, hfz46_0, hfz46_1, hfz46_2, hfz46_3, hfz46_4, hfz46_5⟩ := bx6 BK112) | (go_at_call 35; (with_reducible refine (spec_l01Depth.calls g t114 t115 t116 a1_0 a1_1 t117 t118 t119 t120 w0 _ ?side1 ?side2 A5.out).mono ?_); (case side1 => exact si32 HI0); (case side2 => exact be HB); rintro e w47 ⟨rfl, hi, hb, hk⟩; replace BK112 := am (KeepBut.blk hk (g' := gb112) (o := .cells #[.int .i8 a1_0, .int .i8 a1_1, .int .i8 a1_2, .int .i8 a1_3, .int .i8 a1_4, .int .i8 a1_5] 48 (0, 0)) (kb BK112) NB112_0.out (by simp)); replace HK := am (KeepBut.trans (ke HK) hk (.inl rfl)); replace HB := am (hb); replace HI0 := am (hi); (try clear hb); (try clear hb2); (try clear hk); (try clear hi)))
   go_ret
   exact ⟨by first | rfl | (simp [errW_none, errW_some] <;> rfl) | (simp [*, errW_none, errW_some] <;> rfl), si32 HI0, be HB, ke HK⟩
 ·replace c4 := Bool.eq_false_iff.mpr c4
  subst c4
  have H1 : (some (false, t114, t115, t116)) = some (r1, r2, r3, r4) := by rw [if_neg (show ¬ (false = true) by decide)] at H; exact H
  clear H
  have H := H1
  clear H1
  simp only [Option.some.injEq, Prod.mk.injEq] at H
  obtain ⟨rfl, rfl, rfl, rfl⟩ := H
  go_enter Try.func23, Try.ntmps23
  go_wp2_with (first | ((with_reducible refine gate_dst (N := 3) rfl ?_); refine bxe (N := 3) (cs := #[.int .i8 a1_0, .int .i8 a1_1, .int .i8 a1_2, .int .i8 a1_3, .int .i8 a1_4, .int .i8 a1_5]) (t := 48) ?_; intro gb112 hg w48 hbox hb; have BK112 := am (hbox); have GW112 := am (gN hg (keep_size (w := w) (g := g) (row := none) (ke HK))); have GE112 := am (Nat.le_trans HW0.out (gN hg (keep_size (w := w) (g := g) (row := none) (ke HK)))); have NB0_112 := am (nLi hg (IsS32.lt (show IsS32 w0 _ g s0_0 s0_1 s0_2 from si32 HI0))); have NB112_0 := am (nRi hg (IsS32.lt (show IsS32 w0 _ g s0_0 s0_1 s0_2 from si32 HI0))); replace HI0 := am (IsS32.below (si32 HI0) hb); replace HK := am (KeepBut.trans (ke HK) (KeepBut.of_below hb g none) (.inl rfl)); replace HB := am (below_step (be HB) hb); clear hb hbox hg; have hnb49 := NB112_0.out; have hnc49 := NB0_112.out; obtain ⟨hcz50_0, hcz50_1, hcz50_2, hcz50_3, hcz50_4, hcz50_5, hfz50_0, hfz50_1, hfz50_2, hfz50_3, hfz50_4, hfz50_5⟩ := bx6 BK112) | ((with_reducible refine gate_callee (f := 34) rfl ?_); refine gL (some 8) Try.func34 #[.pointer (some ⟨g, 0, none⟩), .agg #[.int .i8 a1_0, .int .i8 a1_1]] ?_; (with_reducible refine (spec_l01Is.calls g s0_0 s0_1 s0_2 a1_0 a1_1 false t114 t115 t116 w0 _ ?side1 ?side2 A3.out).mono ?_); (case side1 => exact si32 HI0); (case side2 => exact be HB); rintro e w51 ⟨rfl, hi, hb, hk⟩; refine ⟨_, rfl, ?_⟩; replace BK112 := am (KeepBut.blk hk (g' := gb112) (o := .cells #[.int .i8 a1_0, .int .i8 a1_1, .int .i8 a1_2, .int .i8 a1_3, .int .i8 a1_4, .int .i8 a1_5] 48 (0, 0)) (kb BK112) NB112_0.out (by simp)); replace HK := am (KeepBut.trans (ke HK) hk (.inl rfl)); replace HB := am (hb); replace HI0 := am (hi); (try clear hb); (try clear hb2); (try clear hk); (try clear hi)))
  go_ret
  exact ⟨by first | rfl | (simp [errW_none, errW_some] <;> rfl) | (simp [*, errW_none, errW_some] <;> rfl), si32 HI0, be HB, ke HK⟩

end Go.Proofs.Ytigafbmdedjgdaa.PFnExactMostBoats
