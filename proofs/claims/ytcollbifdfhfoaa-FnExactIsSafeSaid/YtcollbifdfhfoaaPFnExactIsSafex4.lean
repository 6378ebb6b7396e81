-- Written by a program out of this seat's translation (functions, and that the code comes to them).
import Derived.Test.YtcollbifdfhfoaaPFnExactIsSafex0
import Derived.Test.YtcollbifdfhfoaaPFnExactIsSafex1
import Derived.Test.YtcollbifdfhfoaaPFnExactIsSafex2
import Derived.Test.YtcollbifdfhfoaaPFnExactIsSafex3
namespace Go.Proofs.Ytcollbifdfhfoaa.PFnExactIsSafe
open Go.RowKit Go.Proofs.YtcollbifdfhfoaaW.PrintWords Go.Proofs.YtcollbifdfhfoaaW.PrintLast Go.Proofs.YtcollbifdfhfoaaW.PrintMore
attribute [local go_sem] max2_int min2_int max_two min_two max_three min_three max_four min_four   -- for this text's walks alone
open Go.Proofs.Ytcollbifdfhfoaa.Bay Go.Proofs.Ytcollbifdfhfoaa.Short
attribute [local go_sem ↓] lv26_eq lv28_eq
attribute [local go_sem] lvv_set lvv_drewN lvv_drew lv26_run BayAt26_set BayAt26_drewN BayAt26_drew lv28_run BayAt28_set BayAt28_drewN BayAt28_drew
set_option linter.unusedVariables false
set_option linter.unusedSimpArgs false

/-! ### spec_l01Reach: function 168 -/
def spec_l01Reach.l0 : Nat → Int → Int → Int → Int → (Nat → Int) → Option (Int × Int × Int × (Nat → Int))
  | 0, _, _, _, _, _ => none
  | k + 1, x6, x7, x1000, x1001, x1002 => if (wrap64 ((wrap64 (x7 + 1)) * (wrap64 (x7 + 1)))) ≤ x6 then (spec_l01Reach.l0 k x6 (wrap64 (x7 + 1)) x1000 x1001 x1002) else (some (x7, x1000, x1001, x1002))
def spec_l01Reach.f (k : Nat) (s0_0 : Int) (s0_1 : Int) (s0_2 : (Nat → Int)) (a1_0 : Int) (a1_1 : Int) (a1_2 : Int) (a1_3 : Int) (a1_4 : Int) (a1_5 : Int) : Option (Int × Int × Int × (Nat → Int)) := (spec_l01Depth.f s0_0 s0_1 s0_2 a1_0 a1_1).bind fun bt172 => (if (wrap64 ((wrap64 ((wrap64 (a1_2)) * (wrap64 (a1_2)))) - (wrap64 (bt172.1 * bt172.1)))) < 0 then (some ((-1), bt172.2.1, bt172.2.2.1, bt172.2.2.2)) else (spec_l01Reach.l0 k (wrap64 ((wrap64 ((wrap64 (a1_2)) * (wrap64 (a1_2)))) - (wrap64 (bt172.1 * bt172.1)))) 0 bt172.2.1 bt172.2.2.1 bt172.2.2.2))
set_option maxHeartbeats 8000000 in
set_option maxRecDepth 100000 in
theorem spec_l01Reach.calls (k : Nat) (g : Nat) (s0_0 : Int) (s0_1 : Int) (s0_2 : (Nat → Int)) (a1_0 : Int) (a1_1 : Int) (a1_2 : Int) (a1_3 : Int) (a1_4 : Int) (a1_5 : Int) (r1 : Int) (r2 : Int) (r3 : Int) (r4 : (Nat → Int)) (w0 w : World) (hI : IsS28 w0 w g s0_0 s0_1 s0_2) (hB : Below w0.heap.size w0 w) (h : spec_l01Reach.f k s0_0 s0_1 s0_2 a1_0 a1_1 a1_2 a1_3 a1_4 a1_5 = some (r1, r2, r3, r4)) :
    Calls Try.prog 168 #[.pointer (some ⟨g, 0, none⟩), .agg #[.int .i8 a1_0, .int .i8 a1_1, .int .i8 a1_2, .int .i8 a1_3, .int .i8 a1_4, .int .i8 a1_5]] w fun e w' => e = .returned (.int .i64 r1) ∧ IsS28 w0 w' g r2 r3 r4 ∧ Below w0.heap.size w0 w' ∧ KeepBut w w' g none := by
  have hu38 := Try.underlying38
  have hu36 := Try.underlying36
  have HI0 := am hI
  have HK := am (KeepBut.refl w g none)
  have HL := am hB.size
  clear hI
  have HW0 := am hB.size
  have HB := am hB
  clear hB
  have H : ((spec_l01Depth.f s0_0 s0_1 s0_2 a1_0 a1_1).bind fun bt172 => (if (wrap64 ((wrap64 ((wrap64 (a1_2)) * (wrap64 (a1_2)))) - (wrap64 (bt172.1 * bt172.1)))) < 0 then (some ((-1), bt172.2.1, bt172.2.2.1, bt172.2.2.2)) else (spec_l01Reach.l0 k (wrap64 ((wrap64 ((wrap64 (a1_2)) * (wrap64 (a1_2)))) - (wrap64 (bt172.1 * bt172.1)))) 0 bt172.2.1 bt172.2.2.1 bt172.2.2.2))) = some (r1, r2, r3, r4) := h
  clear h
  replace H := Option.bind_eq_some_iff.mp H
  obtain ⟨⟨t172, t173, t174, t175⟩, A30, H⟩ := H
  try dsimp only at H
  have A3 := am A30
  clear A30
  by_cases c4 : (wrap64 ((wrap64 ((wrap64 (a1_2)) * (wrap64 (a1_2)))) - (wrap64 (t172 * t172)))) < 0
  · rw [if_pos c4] at H
    have c4b0 : decide ((wrap64 ((wrap64 ((wrap64 (a1_2)) * (wrap64 (a1_2)))) - (wrap64 (t172 * t172)))) < 0) = true := decide_eq_true c4
    clear c4
    simp only [Option.some.injEq, Prod.mk.injEq] at H
    obtain ⟨rfl, rfl, rfl, rfl⟩ := H
    go_enter Try.func168, Try.ntmps168
    go_wp2_with (first | ((with_reducible refine gate_dst (N := 3) rfl ?_); refine bxe (N := 3) (cs := #[.int .i8 a1_0, .int .i8 a1_1, .int .i8 a1_2, .int .i8 a1_3, .int .i8 a1_4, .int .i8 a1_5]) (t := 38) ?_; intro gb171 hg w5 hbox hb; have BK171 := am (hbox); have GW171 := am (gN hg (keep_size (w := w) (g := g) (row := none) (ke HK))); have GE171 := am (Nat.le_trans HW0.out (gN hg (keep_size (w := w) (g := g) (row := none) (ke HK)))); have NB0_171 := am (nLi hg (IsS28.lt (show IsS28 w0 _ g s0_0 s0_1 s0_2 from si28 HI0))); have NB171_0 := am (nRi hg (IsS28.lt (show IsS28 w0 _ g s0_0 s0_1 s0_2 from si28 HI0))); replace HI0 := am (IsS28.below (si28 HI0) hb); replace HK := am (KeepBut.trans (ke HK) (KeepBut.of_below hb g none) (.inl rfl)); replace HB := am (below_step (be HB) hb); clear hb hbox hg; have hnb6 := NB171_0.out; have hnc6 := NB0_171.out; obtain ⟨hcz7_0, hcz7_1, hcz7_2, hcz7_3, hcz7_4, hcz7_5, hfz7_0, hfz7_1, hfz7_2, hfz7_3, hfz7_4, hfz7_5⟩ := bx6 BK171) | ((with_reducible refine gate_callee (f := 110) rfl ?_); refine gL (some 11) Try.func110 #[.pointer (some ⟨g, 0, none⟩), .agg #[.int .i8 a1_0, .int .i8 a1_1]] ?_; (with_reducible refine (spec_l01Depth.calls g s0_0 s0_1 s0_2 a1_0 a1_1 t172 t173 t174 t175 w0 _ ?side1 ?side2 A3.out).mono ?_); (case side1 => exact si28 HI0); (case side2 => exact be HB); rintro e w8 ⟨rfl, hi, hb, hk⟩; refine ⟨_, rfl, ?_⟩; replace BK171 := am (KeepBut.blk hk (g' := gb171) (o := .cells #[.int .i8 a1_0, .int .i8 a1_1, .int .i8 a1_2, .int .i8 a1_3, .int .i8 a1_4, .int .i8 a1_5] 38 (0, 0)) (kb BK171) NB171_0.out (by simp)); replace HK := am (KeepBut.trans (ke HK) hk (.inl rfl)); replace HB := am (hb); replace HI0 := am (hi); (try clear hb); (try clear hb2); (try clear hk); (try clear hi); obtain ⟨hcz9_0, hcz9_1, hcz9_2, hcz9_3, hcz9_4, hcz9_5, hfz9_0, hfz9_1, hfz9_2, hfz9_3, hfz9_4, hfz9_5⟩ := bx6 BK171))
    go_ret
    exact ⟨by first | rfl | (simp [errW_none, errW_some] <;> rfl) | (simp [*, errW_none, errW_some] <;> rfl), si28 HI0, be HB, ke HK⟩
  · rw [if_neg c4] at H
    have c4b0 : decide ((wrap64 ((wrap64 ((wrap64 (a1_2)) * (wrap64 (a1_2)))) - (wrap64 (t172 * t172)))) < 0) = false := decide_eq_false c4
    clear c4
    have H' := am H
    clear H
    go_enter Try.func168, Try.ntmps168
    go_wp2_with (first | ((with_reducible refine gate_dst (N := 3) rfl ?_); refine bxe (N := 3) (cs := #[.int .i8 a1_0, .int .i8 a1_1, .int .i8 a1_2, .int .i8 a1_3, .int .i8 a1_4, .int .i8 a1_5]) (t := 38) ?_; intro gb171 hg w10 hbox hb; have BK171 := am (hbox); have GW171 := am (gN hg (keep_size (w := w) (g := g) (row := none) (ke HK))); have GE171 := am (Nat.le_trans HW0.out (gN hg (keep_size (w := w) (g := g) (row := none) (ke HK)))); have NB0_171 := am (nLi hg (IsS28.lt (show IsS28 w0 _ g s0_0 s0_1 s0_2 from si28 HI0))); have NB171_0 := am (nRi hg (IsS28.lt (show IsS28 w0 _ g s0_0 s0_1 s0_2 from si28 HI0))); replace HI0 := am (IsS28.below (si28 HI0) hb); replace HK := am (KeepBut.trans (ke HK) (KeepBut.of_below hb g none) (.inl rfl)); replace HB := am (below_step (be HB) hb); clear hb hbox hg; have hnb11 := NB171_0.out; have hnc11 := NB0_171.out; obtain ⟨hcz12_0, hcz12_1, hcz12_2, hcz12_3, hcz12_4, hcz12_5, hfz12_0, hfz12_1, hfz12_2, hfz12_3, hfz12_4, hfz12_5⟩ := bx6 BK171) | ((with_reducible refine gate_callee (f := 110) rfl ?_); refine gL (some 11) Try.func110 #[.pointer (some ⟨g, 0, none⟩), .agg #[.int .i8 a1_0, .int .i8 a1_1]] ?_; (with_reducible refine (spec_l01Depth.calls g s0_0 s0_1 s0_2 a1_0 a1_1 t172 t173 t174 t175 w0 _ ?side1 ?side2 A3.out).mono ?_); (case side1 => exact si28 HI0); (case side2 => exact be HB); rintro e w13 ⟨rfl, hi, hb, hk⟩; refine ⟨_, rfl, ?_⟩; replace BK171 := am (KeepBut.blk hk (g' := gb171) (o := .cells #[.int .i8 a1_0, .int .i8 a1_1, .int .i8 a1_2, .int .i8 a1_3, .int .i8 a1_4, .int .i8 a1_5] 38 (0, 0)) (kb BK171) NB171_0.out (by simp)); replace HK := am (KeepBut.trans (ke HK) hk (.inl rfl)); replace HB := am (hb); replace HI0 := am (hi); (try clear hb); (try clear hb2); (try clear hk); (try clear hi); obtain ⟨hcz14_0, hcz14_1, hcz14_2, hcz14_3, hcz14_4, hcz14_5, hfz14_0, hfz14_1, hfz14_2, hfz14_3, hfz14_4, hfz14_5⟩ := bx6 BK171))
    go_loopg [7] k (fun kq v7 w' => ∃ (x7_1 : Int), v7 = .int .i64 x7_1 ∧ Aside0 (spec_l01Reach.l0 kq (wrap64 ((wrap64 ((wrap64 (a1_2)) * (wrap64 (a1_2)))) - (wrap64 (t172 * t172)))) x7_1 t173 t174 t175 = some (r1, r2, r3, r4)) ∧ Aside0 (kq ≤ k) ∧ Aside0 (w'.heap[gb171]? = some (.cells #[.int .i8 a1_0, .int .i8 a1_1, .int .i8 a1_2, .int .i8 a1_3, .int .i8 a1_4, .int .i8 a1_5] 38 (0, 0))) ∧ Aside0 (IsS28 w0 w' g t173 t174 t175) ∧ Aside0 (KeepBut w w' g none) ∧ Aside0 (Below w0.heap.size w0 w'))
    case atStart => exact ⟨(0), vv, H', ⟨Nat.le_refl _⟩, ⟨kb BK171⟩, ⟨si28 HI0⟩, ⟨ke HK⟩, ⟨be HB⟩⟩
    case round =>
      clear H'
      try clear c1
      try clear p2
      try clear c4
      try clear c4b0
      try clear c6
      try clear p6
      try clear c11
      try clear hcz12_0
      try clear hcz12_1
      try clear hcz12_2
      try clear hcz12_3
      try clear hcz12_4
      try clear hcz12_5
      try clear hcz14_0
      try clear hcz14_1
      try clear hcz14_2
      try clear hcz14_3
      try clear hcz14_4
      try clear hcz14_5
      try clear hcz7_0
      try clear hcz7_1
      try clear hcz7_2
      try clear hcz7_3
      try clear hcz7_4
      try clear hcz7_5
      try clear hcz9_0
      try clear hcz9_1
      try clear hcz9_2
      try clear hcz9_3
      try clear hcz9_4
      try clear hcz9_5
      try clear hfz12_0
      try clear hfz12_1
      try clear hfz12_2
      try clear hfz12_3
      try clear hfz12_4
      try clear hfz12_5
      try clear hfz14_0
      try clear hfz14_1
      try clear hfz14_2
      try clear hfz14_3
      try clear hfz14_4
      try clear hfz14_5
      try clear hfz7_0
      try clear hfz7_1
      try clear hfz7_2
      try clear hfz7_3
      try clear hfz7_4
      try clear hfz7_5
      try clear hfz9_0
      try clear hfz9_1
      try clear hfz9_2
      try clear hfz9_3
      try clear hfz9_4
      try clear hfz9_5
      obtain ⟨x7_1, rfl, HA, HK1, BK171, HI0, HK, HB⟩ := hrel
      cases gk with
      | zero => exact absurd HA.out (by simp [spec_l01Reach.l0])
      | succ k1 =>
        have H := HA.out
        clear HA
        simp only [spec_l01Reach.l0] at H
        by_cases c15 : (wrap64 ((wrap64 (x7_1 + 1)) * (wrap64 (x7_1 + 1)))) ≤ (wrap64 ((wrap64 ((wrap64 (a1_2)) * (wrap64 (a1_2)))) - (wrap64 (t172 * t172))))
        · rw [if_pos c15] at H
          have c15b0 : decide ((wrap64 ((wrap64 (x7_1 + 1)) * (wrap64 (x7_1 + 1)))) ≤ (wrap64 ((wrap64 ((wrap64 (a1_2)) * (wrap64 (a1_2)))) - (wrap64 (t172 * t172))))) = true := decide_eq_true c15
          clear c15
          have H' := am H
          clear H
          go_wp2
          go_roundg k1
          case measure => have := HK1.out; omega
          case rel => exact ⟨(wrap64 (x7_1 + 1)), vv, H', ⟨by have := HK1.out; omega⟩, ⟨kb BK171⟩, ⟨si28 HI0⟩, ⟨ke HK⟩, ⟨be HB⟩⟩
        · rw [if_neg c15] at H
          have c15b0 : decide ((wrap64 ((wrap64 (x7_1 + 1)) * (wrap64 (x7_1 + 1)))) ≤ (wrap64 ((wrap64 ((wrap64 (a1_2)) * (wrap64 (a1_2)))) - (wrap64 (t172 * t172))))) = false := decide_eq_false c15
          clear c15
          simp only [Option.some.injEq, Prod.mk.injEq] at H
          obtain ⟨rfl, rfl, rfl, rfl⟩ := H
          go_wp2
          go_ret
          exact ⟨by first | rfl | (simp [errW_none, errW_some] <;> rfl) | (simp [*, errW_none, errW_some] <;> rfl), si28 HI0, be HB, ke HK⟩

/-! ### spec_l01Safe: function 120 -/
def spec_l01Safe.f (k : Nat) (s0_0 : Int) (s0_1 : Int) (s0_2 : (Nat → Int)) (a1_0 : Int) (a1_1 : Int) (a1_2 : Int) (a1_3 : Int) (a1_4 : Int) (a1_5 : Int) : Option (Bool × Int × Int × (Nat → Int)) := (spec_l01Reach.f k s0_0 s0_1 s0_2 a1_0 a1_1 a1_2 a1_3 a1_4 a1_5).bind fun bt177 => (if bt177.1 < 0 then (some (false, bt177.2.1, bt177.2.2.1, bt177.2.2.2)) else (if (wrap64 (a1_0)) < (wrap64 (bt177.1 + (wrap64 (a1_3)))) then (some (false, bt177.2.1, bt177.2.2.1, bt177.2.2.2)) else (if (wrap64 (a1_1)) < (wrap64 (bt177.1 + (wrap64 (a1_3)))) then (some (false, bt177.2.1, bt177.2.2.1, bt177.2.2.2)) else (if (wrap64 ((wrap64 (a1_0)) + (wrap64 (bt177.1 + (wrap64 (a1_3)))))) ≥ (wrap64 (bt177.2.1)) then (some (false, bt177.2.1, bt177.2.2.1, bt177.2.2.2)) else (if (wrap64 ((wrap64 (a1_1)) + (wrap64 (bt177.1 + (wrap64 (a1_3)))))) ≥ (wrap64 (bt177.2.2.1)) then (some (false, bt177.2.1, bt177.2.2.1, bt177.2.2.2)) else ((spec_l01Over.f k bt177.2.1 bt177.2.2.1 bt177.2.2.2 a1_0 a1_1 (wrap64 (bt177.1 + (wrap64 (a1_3)))) (wrap64 (a1_4))).bind fun bt181 => (some (((bt181.1.length : Int) == 0), bt181.2.1, bt181.2.2.1, bt181.2.2.2))))))))
set_option maxHeartbeats 8000000 in
set_option maxRecDepth 100000 in
theorem spec_l01Safe.calls (k : Nat) (g : Nat) (s0_0 : Int) (s0_1 : Int) (s0_2 : (Nat → Int)) (a1_0 : Int) (a1_1 : Int) (a1_2 : Int) (a1_3 : Int) (a1_4 : Int) (a1_5 : Int) (r1 : Bool) (r2 : Int) (r3 : Int) (r4 : (Nat → Int)) (w0 w : World) (hI : IsS28 w0 w g s0_0 s0_1 s0_2) (hB : Below w0.heap.size w0 w) (h : spec_l01Safe.f k s0_0 s0_1 s0_2 a1_0 a1_1 a1_2 a1_3 a1_4 a1_5 = some (r1, r2, r3, r4)) :
    Calls Try.prog 120 #[.pointer (some ⟨g, 0, none⟩), .agg #[.int .i8 a1_0, .int .i8 a1_1, .int .i8 a1_2, .int .i8 a1_3, .int .i8 a1_4, .int .i8 a1_5]] w fun e w' => e = .returned (.bool r1) ∧ IsS28 w0 w' g r2 r3 r4 ∧ Below w0.heap.size w0 w' ∧ KeepBut w w' g none := by
  have hu38 := Try.underlying38
  have hu36 := Try.underlying36
  have HI0 := am hI
  have HK := am (KeepBut.refl w g none)
  have HL := am hB.size
  clear hI
  have HW0 := am hB.size
  have HB := am hB
  clear hB
  have H : ((spec_l01Reach.f k s0_0 s0_1 s0_2 a1_0 a1_1 a1_2 a1_3 a1_4 a1_5).bind fun bt177 => (if bt177.1 < 0 then (some (false, bt177.2.1, bt177.2.2.1, bt177.2.2.2)) else (if (wrap64 (a1_0)) < (wrap64 (bt177.1 + (wrap64 (a1_3)))) then (some (false, bt177.2.1, bt177.2.2.1, bt177.2.2.2)) else (if (wrap64 (a1_1)) < (wrap64 (bt177.1 + (wrap64 (a1_3)))) then (some (false, bt177.2.1, bt177.2.2.1, bt177.2.2.2)) else (if (wrap64 ((wrap64 (a1_0)) + (wrap64 (bt177.1 + (wrap64 (a1_3)))))) ≥ (wrap64 (bt177.2.1)) then (some (false, bt177.2.1, bt177.2.2.1, bt177.2.2.2)) else (if (wrap64 ((wrap64 (a1_1)) + (wrap64 (bt177.1 + (wrap64 (a1_3)))))) ≥ (wrap64 (bt177.2.2.1)) then (some (false, bt177.2.1, bt177.2.2.1, bt177.2.2.2)) else ((spec_l01Over.f k bt177.2.1 bt177.2.2.1 bt177.2.2.2 a1_0 a1_1 (wrap64 (bt177.1 + (wrap64 (a1_3)))) (wrap64 (a1_4))).bind fun bt181 => (some (((bt181.1.length : Int) == 0), bt181.2.1, bt181.2.2.1, bt181.2.2.2))))))))) = some (r1, r2, r3, r4) := h
  clear h
  replace H := Option.bind_eq_some_iff.mp H
  obtain ⟨⟨t177, t178, t179, t180⟩, A30, H⟩ := H
  try dsimp only at H
  have A3 := am A30
  clear A30
  by_cases c4 : t177 < 0
  · rw [if_pos c4] at H
    have c4b0 : decide (t177 < 0) = true := decide_eq_true c4
    clear c4
    simp only [Option.some.injEq, Prod.mk.injEq] at H
    obtain ⟨rfl, rfl, rfl, rfl⟩ := H
    go_enter Try.func120, Try.ntmps120
    go_wp2_with (first | ((with_reducible refine gate_dst (N := 3) rfl ?_); refine bxe (N := 3) (cs := #[.int .i8 a1_0, .int .i8 a1_1, .int .i8 a1_2, .int .i8 a1_3, .int .i8 a1_4, .int .i8 a1_5]) (t := 38) ?_; intro gb176 hg w5 hbox hb; have BK176 := am (hbox); have GW176 := am (gN hg (keep_size (w := w) (g := g) (row := none) (ke HK))); have GE176 := am (Nat.le_trans HW0.out (gN hg (keep_size (w := w) (g := g) (row := none) (ke HK)))); have NB0_176 := am (nLi hg (IsS28.lt (show IsS28 w0 _ g s0_0 s0_1 s0_2 from si28 HI0))); have NB176_0 := am (nRi hg (IsS28.lt (show IsS28 w0 _ g s0_0 s0_1 s0_2 from si28 HI0))); replace HI0 := am (IsS28.below (si28 HI0) hb); replace HK := am (KeepBut.trans (ke HK) (KeepBut.of_below hb g none) (.inl rfl)); replace HB := am (below_step (be HB) hb); clear hb hbox hg; have hnb6 := NB176_0.out; have hnc6 := NB0_176.out; obtain ⟨hcz7_0, hcz7_1, hcz7_2, hcz7_3, hcz7_4, hcz7_5, hfz7_0, hfz7_1, hfz7_2, hfz7_3, hfz7_4, hfz7_5⟩ := bx6 BK176) | ((with_reducible refine gate_callee (f := 168) rfl ?_); refine gL (some 11) Try.func168 #[.pointer (some ⟨g, 0, none⟩), .agg #[.int .i8 a1_0, .int .i8 a1_1, .int .i8 a1_2, .int .i8 a1_3, .int .i8 a1_4, .int .i8 a1_5]] ?_; (with_reducible refine (spec_l01Reach.calls k g s0_0 s0_1 s0_2 a1_0 a1_1 a1_2 a1_3 a1_4 a1_5 t177 t178 t179 t180 w0 _ ?side1 ?side2 A3.out).mono ?_); (case side1 => exact si28 HI0); (case side2 => exact be HB); rintro e w8 ⟨rfl, hi, hb, hk⟩; refine ⟨_, rfl, ?_⟩; replace BK176 := am (KeepBut.blk hk (g' := gb176) (o := .cells #[.int .i8 a1_0, .int .i8 a1_1, .int .i8 a1_2, .int .i8 a1_3, .int .i8 a1_4, .int .i8 a1_5] 38 (0, 0)) (kb BK176) NB176_0.out (by simp)); replace HK := am (KeepBut.trans (ke HK) hk (.inl rfl)); replace HB := am (hb); replace HI0 := am (hi); (try clear hb); (try clear hb2); (try clear hk); (try clear hi)))
    go_ret
    exact ⟨by first | rfl | (simp [errW_none, errW_some] <;> rfl) | (simp [*, errW_none, errW_some] <;> rfl), si28 HI0, be HB, ke HK⟩
  · rw [if_neg c4] at H
    have c4b0 : decide (t177 < 0) = false := decide_eq_false c4
    clear c4
    by_cases c9 : (wrap64 (a1_0)) < (wrap64 (t177 + (wrap64 (a1_3))))
    · rw [if_pos c9] at H
      have c9b0 : decide ((wrap64 (a1_0)) < (wrap64 (t177 + (wrap64 (a1_3))))) = true := decide_eq_true c9
      clear c9
      simp only [Option.some.injEq, Prod.mk.injEq] at H
      obtain ⟨rfl, rfl, rfl, rfl⟩ := H
      go_enter Try.func120, Try.ntmps120
      go_wp2_with (first | ((with_reducible refine gate_dst (N := 3) rfl ?_); refine bxe (N := 3) (cs := #[.int .i8 a1_0, .int .i8 a1_1, .int .i8 a1_2, .int .i8 a1_3, .int .i8 a1_4, .int .i8 a1_5]) (t := 38) ?_; intro gb176 hg w10 hbox hb; have BK176 := am (hbox); have GW176 := am (gN hg (keep_size (w := w) (g := g) (row := none) (ke HK))); have GE176 := am (Nat.le_trans HW0.out (gN hg (keep_size (w := w) (g := g) (row := none) (ke HK)))); have NB0_176 := am (nLi hg (IsS28.lt (show IsS28 w0 _ g s0_0 s0_1 s0_2 from si28 HI0))); have NB176_0 := am (nRi hg (IsS28.lt (show IsS28 w0 _ g s0_0 s0_1 s0_2 from si28 HI0))); replace HI0 := am (IsS28.below (si28 HI0) hb); replace HK := am (KeepBut.trans (ke HK) (KeepBut.of_below hb g none) (.inl rfl)); replace HB := am (below_step (be HB) hb); clear hb hbox hg; have hnb11 := NB176_0.out; have hnc11 := NB0_176.out; obtain ⟨hcz12_0, hcz12_1, hcz12_2, hcz12_3, hcz12_4, hcz12_5, hfz12_0, hfz12_1, hfz12_2, hfz12_3, hfz12_4, hfz12_5⟩ := bx6 BK176) | ((with_reducible refine gate_callee (f := 168) rfl ?_); refine gL (some 11) Try.func168 #[.pointer (some ⟨g, 0, none⟩), .agg #[.int .i8 a1_0, .int .i8 a1_1, .int .i8 a1_2, .int .i8 a1_3, .int .i8 a1_4, .int .i8 a1_5]] ?_; (with_reducible refine (spec_l01Reach.calls k g s0_0 s0_1 s0_2 a1_0 a1_1 a1_2 a1_3 a1_4 a1_5 t177 t178 t179 t180 w0 _ ?side1 ?side2 A3.out).mono ?_); (case side1 => exact si28 HI0); (case side2 => exact be HB); rintro e w13 ⟨rfl, hi, hb, hk⟩; refine ⟨_, rfl, ?_⟩; replace BK176 := am (KeepBut.blk hk (g' := gb176) (o := .cells #[.int .i8 a1_0, .int .i8 a1_1, .int .i8 a1_2, .int .i8 a1_3, .int .i8 a1_4, .int .i8 a1_5] 38 (0, 0)) (kb BK176) NB176_0.out (by simp)); replace HK := am (KeepBut.trans (ke HK) hk (.inl rfl)); replace HB := am (hb); replace HI0 := am (hi); (try clear hb); (try clear hb2); (try clear hk); (try clear hi); obtain ⟨hcz14_0, hcz14_1, hcz14_2, hcz14_3, hcz14_4, hcz14_5, hfz14_0, hfz14_1, hfz14_2, hfz14_3, hfz14_4, hfz14_5⟩ := bx6 BK176))
      go_ret
      exact ⟨by first | rfl | (simp [errW_none, errW_some] <;> rfl) | (simp [*, errW_none, errW_some] <;> rfl), si28 HI0, be HB, ke HK⟩
    · rw [if_neg c9] at H
      have c9b0 : decide ((wrap64 (a1_0)) < (wrap64 (t177 + (wrap64 (a1_3))))) = false := decide_eq_false c9
      clear c9
      by_cases c15 : (wrap64 (a1_1)) < (wrap64 (t177 + (wrap64 (a1_3))))
      · rw [if_pos c15] at H
        have c15b0 : decide ((wrap64 (a1_1)) < (wrap64 (t177 + (wrap64 (a1_3))))) = true := decide_eq_true c15
        clear c15
        simp only [Option.some.injEq, Prod.mk.injEq] at H
        obtain ⟨rfl, rfl, rfl, rfl⟩ := H
        go_enter Try.func120, Try.ntmps120
        go_wp2_with (first | ((with_reducible refine gate_dst (N := 3) rfl ?_); refine bxe (N := 3) (cs := #[.int .i8 a1_0, .int .i8 a1_1, .int .i8 a1_2, .int .i8 a1_3, .int .i8 a1_4, .int .i8 a1_5]) (t := 38) ?_; intro gb176 hg w16 hbox hb; have BK176 := am (hbox); have GW176 := am (gN hg (keep_size (w := w) (g := g) (row := none) (ke HK))); have GE176 := am (Nat.le_trans HW0.out (gN hg (keep_size (w := w) (g := g) (row := none) (ke HK)))); have NB0_176 := am (nLi hg (IsS28.lt (show IsS28 w0 _ g s0_0 s0_1 s0_2 from si28 HI0))); have NB176_0 := am (nRi hg (IsS28.lt (show IsS28 w0 _ g s0_0 s0_1 s0_2 from si28 HI0))); replace HI0 := am (IsS28.below (si28 HI0) hb); replace HK := am (KeepBut.trans (ke HK) (KeepBut.of_below hb g none) (.inl rfl)); replace HB := am (below_step (be HB) hb); clear hb hbox hg; have hnb17 := NB176_0.out; have hnc17 := NB0_176.out; obtain ⟨hcz18_0, hcz18_1, hcz18_2, hcz18_3, hcz18_4, hcz18_5, hfz18_0, hfz18_1, hfz18_2, hfz18_3, hfz18_4, hfz18_5⟩ := bx6 BK176) | ((with_reducible refine gate_callee (f := 168) rfl ?_); refine gL (some 11) Try.func168 #[.pointer (some ⟨g, 0, none⟩), .agg #[.int .i8 a1_0, .int .i8 a1_1, .int .i8 a1_2, .int .i8 a1_3, .int .i8 a1_4, .int .i8 a1_5]] ?_; (with_reducible refine (spec_l01Reach.calls k g s0_0 s0_1 s0_2 a1_0 a1_1 a1_2 a1_3 a1_4 a1_5 t177 t178 t179 t180 w0 _ ?side1 ?side2 A3.out).mono ?_); (case side1 => exact si28 HI0); (case side2 => exact be HB); rintro e w19 ⟨rfl, hi, hb, hk⟩; refine ⟨_, rfl, ?_⟩; replace BK176 := am (KeepBut.blk hk (g' := gb176) (o := .cells #[.int .i8 a1_0, .int .i8 a1_1, .int .i8 a1_2, .int .i8 a1_3, .int .i8 a1_4, .int .i8 a1_5] 38 (0, 0)) (kb BK176) NB176_0.out (by simp)); replace HK := am (KeepBut.trans (ke HK) hk (.inl rfl)); replace HB := am (hb); replace HI0 := am (hi); (try clear hb); (try clear hb2); (try clear hk); (try clear hi); obtain ⟨hcz20_0, hcz20_1, hcz20_2, hcz20_3, hcz20_4, hcz20_5, hfz20_0, hfz20_1, hfz20_2, hfz20_3, hfz20_4, hfz20_5⟩ := bx6 BK176))
        go_ret
        exact ⟨by first | rfl | (simp [errW_none, errW_some] <;> rfl) | (simp [*, errW_none, errW_some] <;> rfl), si28 HI0, be HB, ke HK⟩
      · rw [if_neg c15] at H
        have c15b0 : decide ((wrap64 (a1_1)) < (wrap64 (t177 + (wrap64 (a1_3))))) = false := decide_eq_false c15
        clear c15
        by_cases c21 : (wrap64 ((wrap64 (a1_0)) + (wrap64 (t177 + (wrap64 (a1_3)))))) ≥ (wrap64 (t178))
        · rw [if_pos c21] at H
          have c21b0 : decide ((wrap64 (t178)) ≤ (wrap64 ((wrap64 (a1_0)) + (wrap64 (t177 + (wrap64 (a1_3))))))) = true := decide_eq_true c21
          clear c21
          simp only [Option.some.injEq, Prod.mk.injEq] at H
          obtain ⟨rfl, rfl, rfl, rfl⟩ := H
          go_enter Try.func120, Try.ntmps120
          go_wp2_with (first | ((with_reducible refine gate_dst (N := 3) rfl ?_); refine bxe (N := 3) (cs := #[.int .i8 a1_0, .int .i8 a1_1, .int .i8 a1_2, .int .i8 a1_3, .int .i8 a1_4, .int .i8 a1_5]) (t := 38) ?_; intro gb176 hg w22 hbox hb; have BK176 := am (hbox); have GW176 := am (gN hg (keep_size (w := w) (g := g) (row := none) (ke HK))); have GE176 := am (Nat.le_trans HW0.out (gN hg (keep_size (w := w) (g := g) (row := none) (ke HK)))); have NB0_176 := am (nLi hg (IsS28.lt (show IsS28 w0 _ g s0_0 s0_1 s0_2 from si28 HI0))); have NB176_0 := am (nRi hg (IsS28.lt (show IsS28 w0 _ g s0_0 s0_1 s0_2 from si28 HI0))); replace HI0 := am (IsS28.below (si28 HI0) hb); replace HK := am (KeepBut.trans (ke HK) (KeepBut.of_below hb g none) (.inl rfl)); replace HB := am (below_step (be HB) hb); clear hb hbox hg; have hnb23 := NB176_0.out; have hnc23 := NB0_176.out; obtain ⟨hcz24_0, hcz24_1, hcz24_2, hcz24_3, hcz24_4, hcz24_5, hfz24_0, hfz24_1, hfz24_2, hfz24_3, hfz24_4, hfz24_5⟩ := bx6 BK176) | ((with_reducible refine gate_callee (f := 168) rfl ?_); refine gL (some 11) Try.func168 #[.pointer (some ⟨g, 0, none⟩), .agg #[.int .i8 a1_0, .int .i8 a1_1, .int .i8 a1_2, .int .i8 a1_3, .int .i8 a1_4, .int .i8 a1_5]] ?_; (with_reducible refine (spec_l01Reach.calls k g s0_0 s0_1 s0_2 a1_0 a1_1 a1_2 a1_3 a1_4 a1_5 t177 t178 t179 t180 w0 _ ?side1 ?side2 A3.out).mono ?_); (case side1 => exact si28 HI0); (case side2 => exact be HB); rintro e w25 ⟨rfl, hi, hb, hk⟩; refine ⟨_, rfl, ?_⟩; replace BK176 := am (KeepBut.blk hk (g' := gb176) (o := .cells #[.int .i8 a1_0, .int .i8 a1_1, .int .i8 a1_2, .int .i8 a1_3, .int .i8 a1_4, .int .i8 a1_5] 38 (0, 0)) (kb BK176) NB176_0.out (by simp)); replace HK := am (KeepBut.trans (ke HK) hk (.inl rfl)); replace HB := am (hb); replace HI0 := am (hi); (try clear hb); (try clear hb2); (try clear hk); (try clear hi); obtain ⟨hcz26_0, hcz26_1, hcz26_2, hcz26_3, hcz26_4, hcz26_5, hfz26_0, hfz26_1, hfz26_2, hfz26_3, hfz26_4, hfz26_5⟩ := bx6 BK176; obtain ⟨HGz27, hgz27⟩ := HI0.out; have hcz27_0 := cellS28_0 HGz27; have hcz27_1 := cellS28_1 HGz27; have hwz27 := lv28_at HGz27; have haz27 := at_cells HGz27; have hyz27 := BayAt28_of HGz27; have hvz27 := lvv_of HGz27; have hfz27_0 := blk_frozen HGz27 0; have hfz27_1 := blk_frozen HGz27 1; have hfz27_2 := blk_frozen HGz27 2; clear HGz27 hgz27))
          go_ret
          exact ⟨by first | rfl | (simp [errW_none, errW_some] <;> rfl) | (simp [*, errW_none, errW_some] <;> rfl), si28 HI0, be HB, ke HK⟩
        · rw [if_neg c21] at H
          have c21b0 : decide ((wrap64 (t178)) ≤ (wrap64 ((wrap64 (a1_0)) + (wrap64 (t177 + (wrap64 (a1_3))))))) = false := decide_eq_false c21
          clear c21
          by_cases c28 : (wrap64 ((wrap64 (a1_1)) + (wrap64 (t177 + (wrap64 (a1_3)))))) ≥ (wrap64 (t179))
          · rw [if_pos c28] at H
            have c28b0 : decide ((wrap64 (t179)) ≤ (wrap64 ((wrap64 (a1_1)) + (wrap64 (t177 + (wrap64 (a1_3))))))) = true := decide_eq_true c28
            clear c28
            simp only [Option.some.injEq, Prod.mk.injEq] at H
            obtain ⟨rfl, rfl, rfl, rfl⟩ := H
            go_enter Try.func120, Try.ntmps120
            go_wp2_with (first | ((with_reducible refine gate_dst (N := 3) rfl ?_); refine bxe (N := 3) (cs := #[.int .i8 a1_0, .int .i8 a1_1, .int .i8 a1_2, .int .i8 a1_3, .int .i8 a1_4, .int .i8 a1_5]) (t := 38) ?_; intro gb176 hg w29 hbox hb; have BK176 := am (hbox); have GW176 := am (gN hg (keep_size (w := w) (g := g) (row := none) (ke HK))); have GE176 := am (Nat.le_trans HW0.out (gN hg (keep_size (w := w) (g := g) (row := none) (ke HK)))); have NB0_176 := am (nLi hg (IsS28.lt (show IsS28 w0 _ g s0_0 s0_1 s0_2 from si28 HI0))); have NB176_0 := am (nRi hg (IsS28.lt (show IsS28 w0 _ g s0_0 s0_1 s0_2 from si28 HI0))); replace HI0 := am (IsS28.below (si28 HI0) hb); replace HK := am (KeepBut.trans (ke HK) (KeepBut.of_below hb g none) (.inl rfl)); replace HB := am (below_step (be HB) hb); clear hb hbox hg; have hnb30 := NB176_0.out; have hnc30 := NB0_176.out; obtain ⟨hcz31_0, hcz31_1, hcz31_2, hcz31_3, hcz31_4, hcz31_5, hfz31_0, hfz31_1, hfz31_2, hfz31_3, hfz31_4, hfz31_5⟩ := bx6 BK176) | ((with_reducible refine gate_callee (f := 168) rfl ?_); refine gL (some 11) Try.func168 #[.pointer (some ⟨g, 0, none⟩), .agg #[.int .i8 a1_0, .int .i8 a1_1, .int .i8 a1_2, .int .i8 a1_3, .int .i8 a1_4, .int .i8 a1_5]] ?_; (with_reducible refine (spec_l01Reach.calls k g s0_0 s0_1 s0_2 a1_0 a1_1 a1_2 a1_3 a1_4 a1_5 t177 t178 t179 t180 w0 _ ?side1 ?side2 A3.out).mono ?_); (case side1 => exact si28 HI0); (case side2 => exact be HB); rintro e w32 ⟨rfl, hi, hb, hk⟩; refine ⟨_, rfl, ?_⟩; replace BK176 := am (KeepBut.blk hk (g' := gb176) (o := .cells #[.int .i8 a1_0, .int .i8 a1_1, .int .i8 a1_2, .int .i8 a1_3, .int .i8 a1_4, .int .i8 a1_5] 38 (0, 0)) (kb BK176) NB176_0.out (by simp)); replace HK := am (KeepBut.trans (ke HK) hk (.inl rfl)); replace HB := am (hb); replace HI0 := am (hi); (try clear hb); (try clear hb2); (try clear hk); (try clear hi); obtain ⟨hcz33_0, hcz33_1, hcz33_2, hcz33_3, hcz33_4, hcz33_5, hfz33_0, hfz33_1, hfz33_2, hfz33_3, hfz33_4, hfz33_5⟩ := bx6 BK176; obtain ⟨HGz34, hgz34⟩ := HI0.out; have hcz34_0 := cellS28_0 HGz34; have hcz34_1 := cellS28_1 HGz34; have hwz34 := lv28_at HGz34; have haz34 := at_cells HGz34; have hyz34 := BayAt28_of HGz34; have hvz34 := lvv_of HGz34; have hfz34_0 := blk_frozen HGz34 0; have hfz34_1 := blk_frozen HGz34 1; have hfz34_2 := blk_frozen HGz34 2; clear HGz34 hgz34))
            go_ret
            exact ⟨by first | rfl | (simp [errW_none, errW_some] <;> rfl) | (simp [*, errW_none, errW_some] <;> rfl), si28 HI0, be HB, ke HK⟩
          · rw [if_neg c28] at H
            have c28b0 : decide ((wrap64 (t179)) ≤ (wrap64 ((wrap64 (a1_1)) + (wrap64 (t177 + (wrap64 (a1_3))))))) = false := decide_eq_false c28
            clear c28
            replace H := Option.bind_eq_some_iff.mp H
            obtain ⟨⟨t181, t184, t185, t186⟩, A350, H⟩ := H
            try dsimp only at H
            have A35 := am A350
            clear A350
            simp only [Option.some.injEq, Prod.mk.injEq] at H
            obtain ⟨rfl, rfl, rfl, rfl⟩ := H
            go_enter Try.func120, Try.ntmps120
            go_wp2_with (first | ((with_reducible refine gate_dst (N := 3) rfl ?_); refine bxe (N := 3) (cs := #[.int .i8 a1_0, .int .i8 a1_1, .int .i8 a1_2, .int .i8 a1_3, .int .i8 a1_4, .int .i8 a1_5]) (t := 38) ?_; intro gb176 hg w36 hbox hb; have BK176 := am (hbox); have GW176 := am (gN hg (keep_size (w := w) (g := g) (row := none) (ke HK))); have GE176 := am (Nat.le_trans HW0.out (gN hg (keep_size (w := w) (g := g) (row := none) (ke HK)))); have NB0_176 := am (nLi hg (IsS28.lt (show IsS28 w0 _ g s0_0 s0_1 s0_2 from si28 HI0))); have NB176_0 := am (nRi hg (IsS28.lt (show IsS28 w0 _ g s0_0 s0_1 s0_2 from si28 HI0))); replace HI0 := am (IsS28.below (si28 HI0) hb); replace HK := am (KeepBut.trans (ke HK) (KeepBut.of_below hb g none) (.inl rfl)); replace HB := am (below_step (be HB) hb); clear hb hbox hg; have hnb37 := NB176_0.out; have hnc37 := NB0_176.out; obtain ⟨hcz38_0, hcz38_1, hcz38_2, hcz38_3, hcz38_4, hcz38_5, hfz38_0, hfz38_1, hfz38_2, hfz38_3, hfz38_4, hfz38_5⟩ := bx6 BK176) | ((with_reducible refine gate_callee (f := 168) rfl ?_); refine gL (some 11) Try.func168 #[.pointer (some ⟨g, 0, none⟩), .agg #[.int .i8 a1_0, .int .i8 a1_1, .int .i8 a1_2, .int .i8 a1_3, .int .i8 a1_4, .int .i8 a1_5]] ?_; (with_reducible refine (spec_l01Reach.calls k g s0_0 s0_1 s0_2 a1_0 a1_1 a1_2 a1_3 a1_4 a1_5 t177 t178 t179 t180 w0 _ ?side1 ?side2 A3.out).mono ?_); (case side1 => exact si28 HI0); (case side2 => exact be HB); rintro e w39 ⟨rfl, hi, hb, hk⟩; refine ⟨_, rfl, ?_⟩; replace BK176 := am (KeepBut.blk hk (g' := gb176) (o := .cells #[.int .i8 a1_0, .int .i8 a1_1, .int .i8 a1_2, .int .i8 a1_3, .int .i8 a1_4, .int .i8 a1_5] 38 (0, 0)) (kb BK176) NB176_0.out (by simp)); replace HK := am (KeepBut.trans (ke HK) hk (.inl rfl)); replace HB := am (hb); replace HI0 := am (hi); (try clear hb); (try clear hb2); (try clear hk); (try clear hi); obtain ⟨hcz40_0, hcz40_1, hcz40_2, hcz40_3, hcz40_4, hcz40_5, hfz40_0, hfz40_1, hfz40_2, hfz40_3, hfz40_4, hfz40_5⟩ := bx6 BK176; obtain ⟨HGz41, hgz41⟩ := HI0.out; have hcz41_0 := cellS28_0 HGz41; have hcz41_1 := cellS28_1 HGz41; have hwz41 := lv28_at HGz41; have haz41 := at_cells HGz41; have hyz41 := BayAt28_of HGz41; have hvz41 := lvv_of HGz41; have hfz41_0 := blk_frozen HGz41 0; have hfz41_1 := blk_frozen HGz41 1; have hfz41_2 := blk_frozen HGz41 2; clear HGz41 hgz41) | ((with_reducible refine gate_callee (f := 122) rfl ?_); refine gL (some 64) Try.func122 #[.pointer (some ⟨g, 0, none⟩), .agg #[.int .i8 a1_0, .int .i8 a1_1], .int .i64 (wrap64 (t177 + (wrap64 (a1_3)))), .int .i64 (wrap64 (a1_4))] ?_; (with_reducible refine (spec_l01Over.calls k g t178 t179 t180 a1_0 a1_1 (wrap64 (t177 + (wrap64 (a1_3)))) (wrap64 (a1_4)) t181 t184 t185 t186 w0 _ ?side1 ?side2 A35.out).mono ?_); (case side1 => exact si28 HI0); (case side2 => exact be HB); rintro e w42 ⟨v182, rfl, ho0, hi, hb, hk⟩; refine ⟨_, rfl, ?_⟩; have HO183 := am (Kd.R_lower ho0 (keep_size (w := w) (g := g) (row := none) (ke HK))); replace BK176 := am (KeepBut.blk hk (g' := gb176) (o := .cells #[.int .i8 a1_0, .int .i8 a1_1, .int .i8 a1_2, .int .i8 a1_3, .int .i8 a1_4, .int .i8 a1_5] 38 (0, 0)) (kb BK176) NB176_0.out (by simp)); replace HK := am (KeepBut.trans (ke HK) hk (.inl rfl)); replace HB := am (hb); replace HI0 := am (hi); (try clear hb); (try clear hb2); (try clear hk); (try clear hi); (try clear ho0); obtain ⟨Ao43, co43, eo43⟩ := Kd.R_slice HO183.out; subst eo43))
            go_ret
            exact ⟨by first | rfl | (simp [errW_none, errW_some] <;> rfl) | (simp [*, errW_none, errW_some] <;> rfl), si28 HI0, be HB, ke HK⟩

/-! ### spec_IsSafe: function 45 -/
def spec_IsSafe.f (k : Nat) (a0_0 : Int) (a0_1 : Int) (a0_2 : (Nat → Int)) (a1_0 : Int) (a1_1 : Int) (a1_2 : Int) (a1_3 : Int) (a1_4 : Int) (a1_5 : Int) : Option (Bool × Int) := (spec_l01Asked.f k a0_0 a0_1 a0_2 (([(⟨(⟨a1_0, a1_1⟩ : S36), a1_2, a1_3, a1_4, a1_5⟩ : S38)] : List (S38)))).bind fun bt192 => (if bt192.1 = 0 then ((spec_l01Safe.f k bt192.2.1 bt192.2.2.1 bt192.2.2.2 a1_0 a1_1 a1_2 a1_3 a1_4 a1_5).bind fun bt196 => (some (bt196.1, 0))) else (some (false, bt192.1)))
set_option maxHeartbeats 8000000 in
set_option maxRecDepth 100000 in
theorem spec_IsSafe.calls (k : Nat) (a0_0 : Int) (a0_1 : Int) (a0_2 : (Nat → Int)) (a1_0 : Int) (a1_1 : Int) (a1_2 : Int) (a1_3 : Int) (a1_4 : Int) (a1_5 : Int) (r1 : Bool) (r2 : Int) (w : World) (h : spec_IsSafe.f k a0_0 a0_1 a0_2 a1_0 a1_1 a1_2 a1_3 a1_4 a1_5 = some (r1, r2)) :
    Calls Try.prog 45 #[.agg (csBay a0_0 a0_1 a0_2), .agg #[.int .i8 a1_0, .int .i8 a1_1, .int .i8 a1_2, .int .i8 a1_3, .int .i8 a1_4, .int .i8 a1_5]] w fun e w' => e = .returned (.tuple #[.bool r1, .int .i64 r2]) ∧ Below w.heap.size w w' := by
  have hu28 := Try.underlying28
  have hu38 := Try.underlying38
  have HB := am (Below.refl w.heap.size w)
  have H : ((spec_l01Asked.f k a0_0 a0_1 a0_2 (([(⟨(⟨a1_0, a1_1⟩ : S36), a1_2, a1_3, a1_4, a1_5⟩ : S38)] : List (S38)))).bind fun bt192 => (if bt192.1 = 0 then ((spec_l01Safe.f k bt192.2.1 bt192.2.2.1 bt192.2.2.2 a1_0 a1_1 a1_2 a1_3 a1_4 a1_5).bind fun bt196 => (some (bt196.1, 0))) else (some (false, bt192.1)))) = some (r1, r2) := h
  clear h
  obtain ⟨y189, hy189⟩ : ∃ y_ : List (S38), y_ = (([(⟨(⟨a1_0, a1_1⟩ : S36), a1_2, a1_3, a1_4, a1_5⟩ : S38)] : List (S38))) := ⟨_, rfl⟩
  replace H : ((spec_l01Asked.f k a0_0 a0_1 a0_2 y189).bind fun bt192 => (if bt192.1 = 0 then ((spec_l01Safe.f k bt192.2.1 bt192.2.2.1 bt192.2.2.2 a1_0 a1_1 a1_2 a1_3 a1_4 a1_5).bind fun bt196 => (some (bt196.1, 0))) else (some (false, bt192.1)))) = some (r1, r2) := by first | (rw [hy189]; with_reducible exact H) | (have H2_ := (Option.bind_some _ _).symm.trans H; rw [hy189]; with_reducible exact H2_) | (have H2_ := (Option.bind_some _ _).symm.trans H; with_reducible exact H2_) | with_reducible exact H | (rw [hy189]; exact H) | exact H
  have Ny189 := am hy189
  clear hy189
  replace H := Option.bind_eq_some_iff.mp H
  obtain ⟨⟨t192, t193, t194, t195⟩, A30, H⟩ := H
  try dsimp only at H
  have A3 := am A30
  clear A30
  by_cases c4 : t192 = 0
  · rw [if_pos c4] at H
    have c4b0 : (t192 == 0) = true := beq_iff_eq.mpr c4
    have c4b1 : (t192 != 0) = false := bne_eq_false_iff_eq.mpr c4
    clear c4
    replace H := Option.bind_eq_some_iff.mp H
    obtain ⟨⟨t196, t197, t198, t199⟩, A50, H⟩ := H
    try dsimp only at H
    have A5 := am A50
    clear A50
    simp only [Option.some.injEq, Prod.mk.injEq] at H
    obtain ⟨rfl, rfl⟩ := H
    go_enter Try.func45, Try.ntmps45
    go_wp2_with (first | ((with_reducible refine gate_dst (N := 2) rfl ?_); refine bxe (N := 2) (cs := (csBay a0_0 a0_1 a0_2)) (t := 28) ?_; intro gb187 hg w6 hbox hb; have HI187 := am ((show IsS28 w w6 gb187 a0_0 a0_1 a0_2 from ⟨hbox, by rw [hg]; exact (below_size (be HB))⟩)); have GW187 := am (gN hg (below_size (be HB))); have GE187 := am (gN hg (below_size (be HB))); replace HB := am (below_step (be HB) hb); clear hb hbox hg) | ((with_reducible refine gate_dst (N := 3) rfl ?_); refine bxe (N := 3) (cs := #[.int .i8 a1_0, .int .i8 a1_1, .int .i8 a1_2, .int .i8 a1_3, .int .i8 a1_4, .int .i8 a1_5]) (t := 38) ?_; intro gb188 hg w7 hbox hb; have BK188 := am (hbox); have GW188 := am (gN hg (below_size (be HB))); have GE188 := am (gN hg (below_size (be HB))); have NB187_188 := am (nLi hg (IsS28.lt (show IsS28 w _ gb187 a0_0 a0_1 a0_2 from si28 HI187))); have NB188_187 := am (nRi hg (IsS28.lt (show IsS28 w _ gb187 a0_0 a0_1 a0_2 from si28 HI187))); replace HI187 := am (IsS28.below (si28 HI187) hb); replace HB := am (below_step (be HB) hb); clear hb hbox hg; have hnb8 := NB188_187.out; have hnc8 := NB187_188.out; obtain ⟨hcz9_0, hcz9_1, hcz9_2, hcz9_3, hcz9_4, hcz9_5, hfz9_0, hfz9_1, hfz9_2, hfz9_3, hfz9_4, hfz9_5⟩ := bx6 BK188) | ((with_reducible refine gate_dst (N := 8) rfl ?_); refine Kd.R_lit k38 _ 38 ?hg (N := 8) ?hd (xs := ([(⟨(⟨a1_0, a1_1⟩ : S36), a1_2, a1_3, a1_4, a1_5⟩ : S38)] : List (S38))) (inner := [.int .i8 a1_0, .int .i8 a1_1, .int .i8 a1_2, .int .i8 a1_3, .int .i8 a1_4, .int .i8 a1_5]) (ok := fun _ => True) (okp := fun _ => True) ?hr ?hp (fun _ hk => hk) trivial (Below.refl _ _) (Nat.le_refl _) (by simp) ?_; (case hd => rfl); (case hg => rfl); (case hr => first | (go_simp; done) | (go_simp; rfl)); (case hp => exact (Reps.c6 (show Kd.M k38 _ _ _ (⟨(⟨a1_0, a1_1⟩ : S36), a1_2, a1_3, a1_4, a1_5⟩ : S38) [.int .i8 a1_0, .int .i8 a1_1, .int .i8 a1_2, .int .i8 a1_3, .int .i8 a1_4, .int .i8 a1_5] from (k38_mkM _ _ _ (⟨(⟨a1_0, a1_1⟩ : S36), a1_2, a1_3, a1_4, a1_5⟩ : S38) )) (Reps.none _ _))); intro v190 w10 ho11 hb hg_ hnew_; clear hg_ hnew_; (first | rw [← Ny189.out] at ho11 | (simp only [Int.reduceToNat] at ho11; rw [← Ny189.out] at ho11)); have HO191 := am (Kd.R_lower (Kd.R_newB ho11 (g := gb188) (o := .cells #[.int .i8 a1_0, .int .i8 a1_1, .int .i8 a1_2, .int .i8 a1_3, .int .i8 a1_4, .int .i8 a1_5] 38 (0, 0)) (kb BK188)) (below_size (be HB))); replace HI187 := am (IsS28.below (si28 HI187) hb); replace BK188 := bB BK188 hb; replace HB := am (below_step (be HB) hb); clear hb ho11; obtain ⟨Ao12, co12, eo12⟩ := Kd.R_slice HO191.out; subst eo12) | ((with_reducible refine gate_callee (f := 117) rfl ?_); refine gL (some 9) Try.func117 #[.pointer (some ⟨gb187, 0, none⟩), .slice Ao12 y189.length co12] ?_; (with_reducible refine (spec_l01Asked.calls k gb187 a0_0 a0_1 a0_2 _ _ y189 t192 t193 t194 t195 w _ ?side1 ?side2 ?side3 ?side4 A3.out).mono ?_); (case side1 => exact si28 HI187); (case side2 => exact be HB); (case side3 => exact Kd.C_foot_own (IsS28.apart (show IsS28 w _ gb187 a0_0 a0_1 a0_2 from si28 HI187) (kr HO191) (by decide)) (fun _ h_ => h_.2)); (case side4 => exact (Kd.R_reads' HO191.out).2.1); rintro e w13 ⟨rfl, hi, hb, hk⟩; refine ⟨_, rfl, ?_⟩; replace BK188 := am (KeepBut.blk hk (g' := gb188) (o := .cells #[.int .i8 a1_0, .int .i8 a1_1, .int .i8 a1_2, .int .i8 a1_3, .int .i8 a1_4, .int .i8 a1_5] 38 (0, 0)) (kb BK188) NB188_187.out (by simp)); replace HO191 := am (Kd.R_mono (Kd.R_keep (IsS28.apart (show IsS28 w _ gb187 a0_0 a0_1 a0_2 from si28 HI187) (kr HO191) (by decide)) hk (fun _ h => h.2)) (fun _ h => h.1)); replace HB := am (hb); replace HI187 := am (hi); (try clear hb); (try clear hb2); (try clear hk); (try clear hi); obtain ⟨hcz14_0, hcz14_1, hcz14_2, hcz14_3, hcz14_4, hcz14_5, hfz14_0, hfz14_1, hfz14_2, hfz14_3, hfz14_4, hfz14_5⟩ := bx6 BK188) | ((with_reducible refine gate_callee (f := 120) rfl ?_); refine gL (some 14) Try.func120 #[.pointer (some ⟨gb187, 0, none⟩), .agg #[.int .i8 a1_0, .int .i8 a1_1, .int .i8 a1_2, .int .i8 a1_3, .int .i8 a1_4, .int .i8 a1_5]] ?_; (with_reducible refine (spec_l01Safe.calls k gb187 t193 t194 t195 a1_0 a1_1 a1_2 a1_3 a1_4 a1_5 t196 t197 t198 t199 w _ ?side1 ?side2 A5.out).mono ?_); (case side1 => exact si28 HI187); (case side2 => exact be HB); rintro e w15 ⟨rfl, hi, hb, hk⟩; refine ⟨_, rfl, ?_⟩; replace BK188 := am (KeepBut.blk hk (g' := gb188) (o := .cells #[.int .i8 a1_0, .int .i8 a1_1, .int .i8 a1_2, .int .i8 a1_3, .int .i8 a1_4, .int .i8 a1_5] 38 (0, 0)) (kb BK188) NB188_187.out (by simp)); replace HO191 := am (Kd.R_mono (Kd.R_keep (IsS28.apart (show IsS28 w _ gb187 t193 t194 t195 from si28 HI187) (kr HO191) (by decide)) hk (fun _ h => h.2)) (fun _ h => h.1)); replace HB := am (hb); replace HI187 := am (hi); (try clear hb); (try clear hb2); (try clear hk); (try clear hi)))
    go_ret2
    exact ⟨by first | rfl | (simp [errW_none, errW_some] <;> rfl) | (simp [*, errW_none, errW_some] <;> rfl), be HB⟩
  · rw [if_neg c4] at H
    have c4b0 : (t192 == 0) = false := beq_eq_false_iff_ne.mpr c4
    have c4b1 : (t192 != 0) = true := bne_iff_ne.mpr c4
    simp only [Option.some.injEq, Prod.mk.injEq] at H
    obtain ⟨rfl, rfl⟩ := H
    go_enter Try.func45, Try.ntmps45
    go_wp2_with (first | ((with_reducible refine gate_dst (N := 2) rfl ?_); refine bxe (N := 2) (cs := (csBay a0_0 a0_1 a0_2)) (t := 28) ?_; intro gb187 hg w16 hbox hb; have HI187 := am ((show IsS28 w w16 gb187 a0_0 a0_1 a0_2 from ⟨hbox, by rw [hg]; exact (below_size (be HB))⟩)); have GW187 := am (gN hg (below_size (be HB))); have GE187 := am (gN hg (below_size (be HB))); replace HB := am (below_step (be HB) hb); clear hb hbox hg) | ((with_reducible refine gate_dst (N := 3) rfl ?_); refine bxe (N := 3) (cs := #[.int .i8 a1_0, .int .i8 a1_1, .int .i8 a1_2, .int .i8 a1_3, .int .i8 a1_4, .int .i8 a1_5]) (t := 38) ?_; intro gb188 hg w17 hbox hb; have BK188 := am (hbox); have GW188 := am (gN hg (below_size (be HB))); have GE188 := am (gN hg (below_size (be HB))); have NB187_188 := am (nLi hg (IsS28.lt (show IsS28 w _ gb187 a0_0 a0_1 a0_2 from si28 HI187))); have NB188_187 := am (nRi hg (IsS28.lt (show IsS28 w _ gb187 a0_0 a0_1 a0_2 from si28 HI187))); replace HI187 := am (IsS28.below (si28 HI187) hb); replace HB := am (below_step (be HB) hb); clear hb hbox hg; have hnb18 := NB188_187.out; have hnc18 := NB187_188.out; obtain ⟨hcz19_0, hcz19_1, hcz19_2, hcz19_3, hcz19_4, hcz19_5, hfz19_0, hfz19_1, hfz19_2, hfz19_3, hfz19_4, hfz19_5⟩ := bx6 BK188) | ((with_reducible refine gate_dst (N := 8) rfl ?_); refine Kd.R_lit k38 _ 38 ?hg (N := 8) ?hd (xs := ([(⟨(⟨a1_0, a1_1⟩ : S36), a1_2, a1_3, a1_4, a1_5⟩ : S38)] : List (S38))) (inner := [.int .i8 a1_0, .int .i8 a1_1, .int .i8 a1_2, .int .i8 a1_3, .int .i8 a1_4, .int .i8 a1_5]) (ok := fun _ => True) (okp := fun _ => True) ?hr ?hp (fun _ hk => hk) trivial (Below.refl _ _) (Nat.le_refl _) (by simp) ?_; (case hd => rfl); (case hg => rfl); (case hr => first | (go_simp; done) | (go_simp; rfl)); (case hp => exact (Reps.c6 (show Kd.M k38 _ _ _ (⟨(⟨a1_0, a1_1⟩ : S36), a1_2, a1_3, a1_4, a1_5⟩ : S38) [.int .i8 a1_0, .int .i8 a1_1, .int .i8 a1_2, .int .i8 a1_3, .int .i8 a1_4, .int .i8 a1_5] from (k38_mkM _ _ _ (⟨(⟨a1_0, a1_1⟩ : S36), a1_2, a1_3, a1_4, a1_5⟩ : S38) )) (Reps.none _ _))); intro v190 w20 ho21 hb hg_ hnew_; clear hg_ hnew_; (first | rw [← Ny189.out] at ho21 | (simp only [Int.reduceToNat] at ho21; rw [← Ny189.out] at ho21)); have HO191 := am (Kd.R_lower (Kd.R_newB ho21 (g := gb188) (o := .cells #[.int .i8 a1_0, .int .i8 a1_1, .int .i8 a1_2, .int .i8 a1_3, .int .i8 a1_4, .int .i8 a1_5] 38 (0, 0)) (kb BK188)) (below_size (be HB))); replace HI187 := am (IsS28.below (si28 HI187) hb); replace BK188 := bB BK188 hb; replace HB := am (below_step (be HB) hb); clear hb ho21; obtain ⟨Ao22, co22, eo22⟩ := Kd.R_slice HO191.out; subst eo22) | ((with_reducible refine gate_callee (f := 117) rfl ?_); refine gL (some 9) Try.func117 #[.pointer (some ⟨gb187, 0, none⟩), .slice Ao22 y189.length co22] ?_; (with_reducible refine (spec_l01Asked.calls k gb187 a0_0 a0_1 a0_2 _ _ y189 t192 t193 t194 t195 w _ ?side1 ?side2 ?side3 ?side4 A3.out).mono ?_); (case side1 => exact si28 HI187); (case side2 => exact be HB); (case side3 => exact Kd.C_foot_own (IsS28.apart (show IsS28 w _ gb187 a0_0 a0_1 a0_2 from si28 HI187) (kr HO191) (by decide)) (fun _ h_ => h_.2)); (case side4 => exact (Kd.R_reads' HO191.out).2.1); rintro e w23 ⟨rfl, hi, hb, hk⟩; refine ⟨_, rfl, ?_⟩; replace BK188 := am (KeepBut.blk hk (g' := gb188) (o := .cells #[.int .i8 a1_0, .int .i8 a1_1, .int .i8 a1_2, .int .i8 a1_3, .int .i8 a1_4, .int .i8 a1_5] 38 (0, 0)) (kb BK188) NB188_187.out (by simp)); replace HO191 := am (Kd.R_mono (Kd.R_keep (IsS28.apart (show IsS28 w _ gb187 a0_0 a0_1 a0_2 from si28 HI187) (kr HO191) (by decide)) hk (fun _ h => h.2)) (fun _ h => h.1)); replace HB := am (hb); replace HI187 := am (hi); (try clear hb); (try clear hb2); (try clear hk); (try clear hi)))
    go_ret2
    exact ⟨by first | rfl | (simp [errW_none, errW_some] <;> rfl) | (simp [*, errW_none, errW_some] <;> rfl), be HB⟩

/-! ### impl_ValidBay: function 27 -/
def impl_ValidBay.f (a0_0 : Int) (a0_1 : Int) (a0_2 : (Nat → Int)) : Option (Bool) := some (decide (Go.Proofs.Ytcollbifdfhfoaa.BayIn.okBay a0_0 a0_1 a0_2))
theorem impl_ValidBay.calls (a0_0 : Int) (a0_1 : Int) (a0_2 : (Nat → Int)) (r : Bool) (w : World) (h : impl_ValidBay.f a0_0 a0_1 a0_2 = some r) :
    Calls Try.prog 27 #[.agg (csBay a0_0 a0_1 a0_2)] w fun e w' => e = .returned (.bool r) ∧ Below w.heap.size w w' := by
  obtain rfl := Option.some.inj h
  exact Go.Proofs.Ytcollbifdfhfoaa.BayIn.validBay_calls _ _ _ w

/-! ### impl_depth: function 112 -/
def impl_depth.f (a0_0 : Int) (a0_1 : Int) (a0_2 : (Nat → Int)) (a1_0 : Int) (a1_1 : Int) : Option (Int) := if 0 ≤ a1_1 then (if a1_1 < 16 then (if 0 ≤ a1_0 then (if a1_0 < 16 then (some (wrap64 (a0_2 (16 * (a1_1 : Int).toNat + (a1_0 : Int).toNat)))) else (none)) else (none)) else (none)) else (none)
set_option maxHeartbeats 8000000 in
set_option maxRecDepth 100000 in
theorem impl_depth.calls (a0_0 : Int) (a0_1 : Int) (a0_2 : (Nat → Int)) (a1_0 : Int) (a1_1 : Int) (r : Int) (w : World) (h : impl_depth.f a0_0 a0_1 a0_2 a1_0 a1_1 = some r) :
    Calls Try.prog 112 #[.agg (csBay a0_0 a0_1 a0_2), .agg #[.int .i8 a1_0, .int .i8 a1_1]] w fun e w' => e = .returned (.int .i64 r) ∧ Below w.heap.size w w' := by
  have hu28 := Try.underlying28
  have hu36 := Try.underlying36
  have HB := am (Below.refl w.heap.size w)
  have H : (if 0 ≤ a1_1 then (if a1_1 < 16 then (if 0 ≤ a1_0 then (if a1_0 < 16 then (some (wrap64 (a0_2 (16 * (a1_1 : Int).toNat + (a1_0 : Int).toNat)))) else (none)) else (none)) else (none)) else (none)) = some r := h
  clear h
  by_cases c3 : 0 ≤ a1_1
  · rw [if_pos c3] at H
    have c3b0 : decide (0 ≤ a1_1) = true := decide_eq_true c3
    have c3b1 : 0 ≤ a1_1 := c3
    clear c3
    by_cases c4 : a1_1 < 16
    · rw [if_pos c4] at H
      have c4b0 : decide (a1_1 < 16) = true := decide_eq_true c4
      have c4b1 : a1_1 < 16 := c4
      clear c4
      by_cases c5 : 0 ≤ a1_0
      · rw [if_pos c5] at H
        have c5b0 : decide (0 ≤ a1_0) = true := decide_eq_true c5
        have c5b1 : 0 ≤ a1_0 := c5
        clear c5
        by_cases c6 : a1_0 < 16
        · rw [if_pos c6] at H
          have c6b0 : decide (a1_0 < 16) = true := decide_eq_true c6
          have c6b1 : a1_0 < 16 := c6
          clear c6
          obtain rfl := Option.some.inj H
          go_enter Try.func112, Try.ntmps112
          go_wp2_with (first | ((with_reducible refine gate_dst (N := 2) rfl ?_); refine bxe (N := 2) (cs := (csBay a0_0 a0_1 a0_2)) (t := 28) ?_; intro gb200 hg w7 hbox hb; have BK200 := am (hbox); have GW200 := am (gN hg (below_size (be HB))); have GE200 := am (gN hg (below_size (be HB))); replace HB := am (below_step (be HB) hb); clear hb hbox hg) | ((with_reducible refine gate_dst (N := 3) rfl ?_); refine bxe (N := 3) (cs := #[.int .i8 a1_0, .int .i8 a1_1]) (t := 36) ?_; intro gb201 hg w8 hbox hb; have BK201 := am (hbox); have GW201 := am (gN hg (below_size (be HB))); have GE201 := am (gN hg (below_size (be HB))); have NB200_201 := nL BK200 hg; have NB201_200 := nR BK200 hg; replace BK200 := bB BK200 hb; replace HB := am (below_step (be HB) hb); clear hb hbox hg; have hnb9 := NB201_200.out; have hnc9 := NB200_201.out; obtain ⟨hcz10_0, hcz10_1, hfz10_0, hfz10_1⟩ := bx2 BK201; have hcz11_0 : w8.cell? ⟨gb200, 0, none⟩ = some (.int .i8 a0_0) := (blk_cell BK200.out 0).trans rfl; have hcz11_1 : w8.cell? ⟨gb200, 1, none⟩ = some (.int .i8 a0_1) := (blk_cell BK200.out 1).trans rfl; have hwz11 := lv28_at BK200.out; have haz11 := at_cells BK200.out; have hyz11 := BayAt28_of BK200.out; have hvz11 := lvv_of BK200.out; have hfz11_0 := blk_frozen BK200.out 0; have hfz11_1 := blk_frozen BK200.out 1; have hfz11_2 := blk_frozen BK200.out 2))
          repeat (go_quiet (first | ((with_reducible refine gate_dst (N := 2) rfl ?_); refine bxe (N := 2) (cs := (csBay a0_0 a0_1 a0_2)) (t := 28) ?_; intro gb200 hg w7 hbox hb; have BK200 := am (hbox); have GW200 := am (gN hg (below_size (be HB))); have GE200 := am (gN hg (below_size (be HB))); replace HB := am (below_step (be HB) hb); clear hb hbox hg) | ((with_reducible refine gate_dst (N := 3) rfl ?_); refine bxe (N := 3) (cs := #[.int .i8 a1_0, .int .i8 a1_1]) (t := 36) ?_; intro gb201 hg w8 hbox hb; have BK201 := am (hbox); have GW201 := am (gN hg (below_size (be HB))); have GE201 := am (gN hg (below_size (be HB))); have NB200_201 := nL BK200 hg; have NB201_200 := nR BK200 hg; replace BK200 := bB BK200 hb; replace HB := am (below_step (be HB) hb); clear hb hbox hg; have hnb9 := NB201_200.out; have hnc9 := NB200_201.out; obtain ⟨hcz10_0, hcz10_1, hfz10_0, hfz10_1⟩ := bx2 BK201; have hcz11_0 : w8.cell? ⟨gb200, 0, none⟩ = some (.int .i8 a0_0) := (blk_cell BK200.out 0).trans rfl; have hcz11_1 : w8.cell? ⟨gb200, 1, none⟩ = some (.int .i8 a0_1) := (blk_cell BK200.out 1).trans rfl; have hwz11 := lv28_at BK200.out; have haz11 := at_cells BK200.out; have hyz11 := BayAt28_of BK200.out; have hvz11 := lvv_of BK200.out; have hfz11_0 := blk_frozen BK200.out 0; have hfz11_1 := blk_frozen BK200.out 1; have hfz11_2 := blk_frozen BK200.out 2)); try go_wp2_with (first | ((with_reducible refine gate_dst (N := 2) rfl ?_); refine bxe (N := 2) (cs := (csBay a0_0 a0_1 a0_2)) (t := 28) ?_; intro gb200 hg w7 hbox hb; have BK200 := am (hbox); have GW200 := am (gN hg (below_size (be HB))); have GE200 := am (gN hg (below_size (be HB))); replace HB := am (below_step (be HB) hb); clear hb hbox hg) | ((with_reducible refine gate_dst (N := 3) rfl ?_); refine bxe (N := 3) (cs := #[.int .i8 a1_0, .int .i8 a1_1]) (t := 36) ?_; intro gb201 hg w8 hbox hb; have BK201 := am (hbox); have GW201 := am (gN hg (below_size (be HB))); have GE201 := am (gN hg (below_size (be HB))); have NB200_201 := nL BK200 hg; have NB201_200 := nR BK200 hg; replace BK200 := bB BK200 hb; replace HB := am (below_step (be HB) hb); clear hb hbox hg; have hnb9 := NB201_200.out; have hnc9 := NB200_201.out; obtain ⟨hcz10_0, hcz10_1, hfz10_0, hfz10_1⟩ := bx2 BK201; have hcz11_0 : w8.cell? ⟨gb200, 0, none⟩ = some (.int .i8 a0_0) := (blk_cell BK200.out 0).trans rfl; have hcz11_1 : w8.cell? ⟨gb200, 1, none⟩ = some (.int .i8 a0_1) := (blk_cell BK200.out 1).trans rfl; have hwz11 := lv28_at BK200.out; have haz11 := at_cells BK200.out; have hyz11 := BayAt28_of BK200.out; have hvz11 := lvv_of BK200.out; have hfz11_0 := blk_frozen BK200.out 0; have hfz11_1 := blk_frozen BK200.out 1; have hfz11_2 := blk_frozen BK200.out 2)))
          go_ret
          exact ⟨by first | rfl | (simp [errW_none, errW_some] <;> rfl) | (simp [*, errW_none, errW_some] <;> rfl), be HB⟩
        · rw [if_neg c6] at H
          exact absurd H (by simp)
      · rw [if_neg c5] at H
        exact absurd H (by simp)
    · rw [if_neg c4] at H
      exact absurd H (by simp)
  · rw [if_neg c3] at H
    exact absurd H (by simp)

/-! ### impl_isPlace: function 178 -/
def impl_isPlace.f (a0_0 : Int) (a0_1 : Int) (a0_2 : (Nat → Int)) (a1_0 : Int) (a1_1 : Int) : Option (Bool) := if a1_0 ≥ 0 then (if a1_0 < a0_0 then (if a1_1 ≥ 0 then (some (decide (a1_1 < a0_1))) else (some false)) else (some false)) else (some false)
set_option maxHeartbeats 8000000 in
set_option maxRecDepth 100000 in
theorem impl_isPlace.calls (a0_0 : Int) (a0_1 : Int) (a0_2 : (Nat → Int)) (a1_0 : Int) (a1_1 : Int) (r : Bool) (w : World) (h : impl_isPlace.f a0_0 a0_1 a0_2 a1_0 a1_1 = some r) :
    Calls Try.prog 178 #[.agg (csBay a0_0 a0_1 a0_2), .agg #[.int .i8 a1_0, .int .i8 a1_1]] w fun e w' => e = .returned (.bool r) ∧ Below w.heap.size w w' := by
  have hu28 := Try.underlying28
  have hu36 := Try.underlying36
  have HB := am (Below.refl w.heap.size w)
  have H : (if a1_0 ≥ 0 then (if a1_0 < a0_0 then (if a1_1 ≥ 0 then (some (decide (a1_1 < a0_1))) else (some false)) else (some false)) else (some false)) = some r := h
  clear h
  by_cases c3 : a1_0 ≥ 0
  · rw [if_pos c3] at H
    have c3b0 : decide (0 ≤ a1_0) = true := decide_eq_true c3
    have c3b1 : 0 ≤ a1_0 := c3
    clear c3
    by_cases c4 : a1_0 < a0_0
    · rw [if_pos c4] at H
      have c4b0 : decide (a1_0 < a0_0) = true := decide_eq_true c4
      clear c4
      by_cases c5 : a1_1 ≥ 0
      · rw [if_pos c5] at H
        have c5b0 : decide (0 ≤ a1_1) = true := decide_eq_true c5
        have c5b1 : 0 ≤ a1_1 := c5
        clear c5
        obtain rfl := Option.some.inj H
        go_enter Try.func178, Try.ntmps178
        go_wp2_with (first | ((with_reducible refine gate_dst (N := 2) rfl ?_); refine bxe (N := 2) (cs := (csBay a0_0 a0_1 a0_2)) (t := 28) ?_; intro gb202 hg w6 hbox hb; have BK202 := am (hbox); have GW202 := am (gN hg (below_size (be HB))); have GE202 := am (gN hg (below_size (be HB))); replace HB := am (below_step (be HB) hb); clear hb hbox hg) | ((with_reducible refine gate_dst (N := 3) rfl ?_); refine bxe (N := 3) (cs := #[.int .i8 a1_0, .int .i8 a1_1]) (t := 36) ?_; intro gb203 hg w7 hbox hb; have BK203 := am (hbox); have GW203 := am (gN hg (below_size (be HB))); have GE203 := am (gN hg (below_size (be HB))); have NB202_203 := nL BK202 hg; have NB203_202 := nR BK202 hg; replace BK202 := bB BK202 hb; replace HB := am (below_step (be HB) hb); clear hb hbox hg; have hnb8 := NB203_202.out; have hnc8 := NB202_203.out; obtain ⟨hcz9_0, hcz9_1, hfz9_0, hfz9_1⟩ := bx2 BK203; have hcz10_0 : w7.cell? ⟨gb202, 0, none⟩ = some (.int .i8 a0_0) := (blk_cell BK202.out 0).trans rfl; have hcz10_1 : w7.cell? ⟨gb202, 1, none⟩ = some (.int .i8 a0_1) := (blk_cell BK202.out 1).trans rfl; have hwz10 := lv28_at BK202.out; have haz10 := at_cells BK202.out; have hyz10 := BayAt28_of BK202.out; have hvz10 := lvv_of BK202.out; have hfz10_0 := blk_frozen BK202.out 0; have hfz10_1 := blk_frozen BK202.out 1; have hfz10_2 := blk_frozen BK202.out 2))
        go_ret
        exact ⟨by first | rfl | (simp [errW_none, errW_some] <;> rfl) | (simp [*, errW_none, errW_some] <;> rfl), be HB⟩
      · rw [if_neg c5] at H
        have c5b0 : decide (0 ≤ a1_1) = false := decide_eq_false c5
        clear c5
        obtain rfl := Option.some.inj H
        go_enter Try.func178, Try.ntmps178
        go_wp2_with (first | ((with_reducible refine gate_dst (N := 2) rfl ?_); refine bxe (N := 2) (cs := (csBay a0_0 a0_1 a0_2)) (t := 28) ?_; intro gb202 hg w11 hbox hb; have BK202 := am (hbox); have GW202 := am (gN hg (below_size (be HB))); have GE202 := am (gN hg (below_size (be HB))); replace HB := am (below_step (be HB) hb); clear hb hbox hg) | ((with_reducible refine gate_dst (N := 3) rfl ?_); refine bxe (N := 3) (cs := #[.int .i8 a1_0, .int .i8 a1_1]) (t := 36) ?_; intro gb203 hg w12 hbox hb; have BK203 := am (hbox); have GW203 := am (gN hg (below_size (be HB))); have GE203 := am (gN hg (below_size (be HB))); have NB202_203 := nL BK202 hg; have NB203_202 := nR BK202 hg; replace BK202 := bB BK202 hb; replace HB := am (below_step (be HB) hb); clear hb hbox hg; have hnb13 := NB203_202.out; have hnc13 := NB202_203.out; obtain ⟨hcz14_0, hcz14_1, hfz14_0, hfz14_1⟩ := bx2 BK203; have hcz15_0 : w12.cell? ⟨gb202, 0, none⟩ = some (.int .i8 a0_0) := (blk_cell BK202.out 0).trans rfl; have hcz15_1 : w12.cell? ⟨gb202, 1, none⟩ = some (.int .i8 a0_1) := (blk_cell BK202.out 1).trans rfl; have hwz15 := lv28_at BK202.out; have haz15 := at_cells BK202.out; have hyz15 := BayAt28_of BK202.out; have hvz15 := lvv_of BK202.out; have hfz15_0 := blk_frozen BK202.out 0; have hfz15_1 := blk_frozen BK202.out 1; have hfz15_2 := blk_frozen BK202.out 2))
        go_ret
        exact ⟨by first | rfl | (simp [errW_none, errW_some] <;> rfl) | (simp [*, errW_none, errW_some] <;> rfl), be HB⟩
    · rw [if_neg c4] at H
      have c4b0 : decide (a1_0 < a0_0) = false := decide_eq_false c4
      clear c4
      obtain rfl := Option.some.inj H
      go_enter Try.func178, Try.ntmps178
      go_wp2_with (first | ((with_reducible refine gate_dst (N := 2) rfl ?_); refine bxe (N := 2) (cs := (csBay a0_0 a0_1 a0_2)) (t := 28) ?_; intro gb202 hg w16 hbox hb; have BK202 := am (hbox); have GW202 := am (gN hg (below_size (be HB))); have GE202 := am (gN hg (below_size (be HB))); replace HB := am (below_step (be HB) hb); clear hb hbox hg) | ((with_reducible refine gate_dst (N := 3) rfl ?_); refine bxe (N := 3) (cs := #[.int .i8 a1_0, .int .i8 a1_1]) (t := 36) ?_; intro gb203 hg w17 hbox hb; have BK203 := am (hbox); have GW203 := am (gN hg (below_size (be HB))); have GE203 := am (gN hg (below_size (be HB))); have NB202_203 := nL BK202 hg; have NB203_202 := nR BK202 hg; replace BK202 := bB BK202 hb; replace HB := am (below_step (be HB) hb); clear hb hbox hg; have hnb18 := NB203_202.out; have hnc18 := NB202_203.out; obtain ⟨hcz19_0, hcz19_1, hfz19_0, hfz19_1⟩ := bx2 BK203; have hcz20_0 : w17.cell? ⟨gb202, 0, none⟩ = some (.int .i8 a0_0) := (blk_cell BK202.out 0).trans rfl; have hcz20_1 : w17.cell? ⟨gb202, 1, none⟩ = some (.int .i8 a0_1) := (blk_cell BK202.out 1).trans rfl; have hwz20 := lv28_at BK202.out; have haz20 := at_cells BK202.out; have hyz20 := BayAt28_of BK202.out; have hvz20 := lvv_of BK202.out; have hfz20_0 := blk_frozen BK202.out 0; have hfz20_1 := blk_frozen BK202.out 1; have hfz20_2 := blk_frozen BK202.out 2))
      go_ret
      exact ⟨by first | rfl | (simp [errW_none, errW_some] <;> rfl) | (simp [*, errW_none, errW_some] <;> rfl), be HB⟩
  · rw [if_neg c3] at H
    have c3b0 : decide (0 ≤ a1_0) = false := decide_eq_false c3
    clear c3
    obtain rfl := Option.some.inj H
    go_enter Try.func178, Try.ntmps178
    go_wp2_with (first | ((with_reducible refine gate_dst (N := 2) rfl ?_); refine bxe (N := 2) (cs := (csBay a0_0 a0_1 a0_2)) (t := 28) ?_; intro gb202 hg w21 hbox hb; have BK202 := am (hbox); have GW202 := am (gN hg (below_size (be HB))); have GE202 := am (gN hg (below_size (be HB))); replace HB := am (below_step (be HB) hb); clear hb hbox hg) | ((with_reducible refine gate_dst (N := 3) rfl ?_); refine bxe (N := 3) (cs := #[.int .i8 a1_0, .int .i8 a1_1]) (t := 36) ?_; intro gb203 hg w22 hbox hb; have BK203 := am (hbox); have GW203 := am (gN hg (below_size (be HB))); have GE203 := am (gN hg (below_size (be HB))); have NB202_203 := nL BK202 hg; have NB203_202 := nR BK202 hg; replace BK202 := bB BK202 hb; replace HB := am (below_step (be HB) hb); clear hb hbox hg; have hnb23 := NB203_202.out; have hnc23 := NB202_203.out; obtain ⟨hcz24_0, hcz24_1, hfz24_0, hfz24_1⟩ := bx2 BK203))
    go_ret
    exact ⟨by first | rfl | (simp [errW_none, errW_some] <;> rfl) | (simp [*, errW_none, errW_some] <;> rfl), be HB⟩

/-! ### impl_isWater: function 167 -/
def impl_isWater.f (a0_0 : Int) (a0_1 : Int) (a0_2 : (Nat → Int)) (a1_0 : Int) (a1_1 : Int) : Option (Bool) := (impl_isPlace.f a0_0 a0_1 a0_2 a1_0 a1_1).bind fun t206 => (if t206 = true then ((impl_depth.f a0_0 a0_1 a0_2 a1_0 a1_1).bind fun t207 => (some (decide (t207 > 0)))) else (some false))
set_option maxHeartbeats 8000000 in
set_option maxRecDepth 100000 in
theorem impl_isWater.calls (a0_0 : Int) (a0_1 : Int) (a0_2 : (Nat → Int)) (a1_0 : Int) (a1_1 : Int) (r : Bool) (w : World) (h : impl_isWater.f a0_0 a0_1 a0_2 a1_0 a1_1 = some r) :
    Calls Try.prog 167 #[.agg (csBay a0_0 a0_1 a0_2), .agg #[.int .i8 a1_0, .int .i8 a1_1]] w fun e w' => e = .returned (.bool r) ∧ Below w.heap.size w w' := by
  have hu28 := Try.underlying28
  have hu36 := Try.underlying36
  have HB := am (Below.refl w.heap.size w)
  have H : ((impl_isPlace.f a0_0 a0_1 a0_2 a1_0 a1_1).bind fun t206 => (if t206 = true then ((impl_depth.f a0_0 a0_1 a0_2 a1_0 a1_1).bind fun t207 => (some (decide (t207 > 0)))) else (some false))) = some r := h
  clear h
  replace H := Option.bind_eq_some_iff.mp H
  obtain ⟨t206, A30, H⟩ := H
  try dsimp only at H
  have A3 := am A30
  clear A30
  by_cases c4 : t206 = true
  · subst c4
    rw [if_pos rfl] at H
    replace H := Option.bind_eq_some_iff.mp H
    obtain ⟨t207, A50, H⟩ := H
    try dsimp only at H
    have A5 := am A50
    clear A50
    obtain rfl := Option.some.inj H
    go_enter Try.func167, Try.ntmps167
    go_wp2_with (first | ((with_reducible refine gate_dst (N := 2) rfl ?_); refine bxe (N := 2) (cs := (csBay a0_0 a0_1 a0_2)) (t := 28) ?_; intro gb204 hg w6 hbox hb; have BK204 := am (hbox); have GW204 := am (gN hg (below_size (be HB))); have GE204 := am (gN hg (below_size (be HB))); replace HB := am (below_step (be HB) hb); clear hb hbox hg) | ((with_reducible refine gate_dst (N := 3) rfl ?_); refine bxe (N := 3) (cs := #[.int .i8 a1_0, .int .i8 a1_1]) (t := 36) ?_; intro gb205 hg w7 hbox hb; have BK205 := am (hbox); have GW205 := am (gN hg (below_size (be HB))); have GE205 := am (gN hg (below_size (be HB))); have NB204_205 := nL BK204 hg; have NB205_204 := nR BK204 hg; replace BK204 := bB BK204 hb; replace HB := am (below_step (be HB) hb); clear hb hbox hg; have hnb8 := NB204_205.out; have hnc8 := NB205_204.out; have hcz9_0 : w7.cell? ⟨gb204, 0, none⟩ = some (.int .i8 a0_0) := (blk_cell BK204.out 0).trans rfl; have hcz9_1 : w7.cell? ⟨gb204, 1, none⟩ = some (.int .i8 a0_1) := (blk_cell BK204.out 1).trans rfl; have hwz9 := lv28_at BK204.out; have haz9 := at_cells BK204.out; have hyz9 := BayAt28_of BK204.out; have hvz9 := lvv_of BK204.out; have hfz9_0 := blk_frozen BK204.out 0; have hfz9_1 := blk_frozen BK204.out 1; have hfz9_2 := blk_frozen BK204.out 2; obtain ⟨hcz10_0, hcz10_1, hfz10_0, hfz10_1⟩ := bx2 BK205) | ((with_reducible refine gate_callee (f := 178) rfl ?_); refine gL (some 7) Try.func178 #[.agg (csBay a0_0 a0_1 a0_2), .agg #[.int .i8 a1_0, .int .i8 a1_1]] ?_; (with_reducible refine (impl_isPlace.calls a0_0 a0_1 a0_2 a1_0 a1_1 true _ A3.out).mono ?_); rintro e w11 ⟨rfl, hb⟩; refine ⟨_, rfl, ?_⟩; replace BK204 := bB BK204 hb; replace BK205 := bB BK205 hb; replace HB := am (below_step (be HB) hb); (try clear hb); (try clear hb2); (try clear hk); (try clear hi); have hcz12_0 : w11.cell? ⟨gb204, 0, none⟩ = some (.int .i8 a0_0) := (blk_cell BK204.out 0).trans rfl; have hcz12_1 : w11.cell? ⟨gb204, 1, none⟩ = some (.int .i8 a0_1) := (blk_cell BK204.out 1).trans rfl; have hwz12 := lv28_at BK204.out; have haz12 := at_cells BK204.out; have hyz12 := BayAt28_of BK204.out; have hvz12 := lvv_of BK204.out; have hfz12_0 := blk_frozen BK204.out 0; have hfz12_1 := blk_frozen BK204.out 1; have hfz12_2 := blk_frozen BK204.out 2; obtain ⟨hcz13_0, hcz13_1, hfz13_0, hfz13_1⟩ := bx2 BK205) | (go_at_call 112; (with_reducible refine (impl_depth.calls a0_0 a0_1 a0_2 a1_0 a1_1 t207 _ A5.out).mono ?_); rintro e w14 ⟨rfl, hb⟩; replace BK204 := bB BK204 hb; replace BK205 := bB BK205 hb; replace HB := am (below_step (be HB) hb); (try clear hb); (try clear hb2); (try clear hk); (try clear hi)))
    go_ret
    exact ⟨by first | rfl | (simp [errW_none, errW_some] <;> rfl) | (simp [*, errW_none, errW_some] <;> rfl), be HB⟩
  · replace c4 := Bool.eq_false_iff.mpr c4
    subst c4
    have H1 : (some false) = some r := by rw [if_neg (show ¬ (false = true) by decide)] at H; exact H
    clear H
    have H := H1
    clear H1
    obtain rfl := Option.some.inj H
    go_enter Try.func167, Try.ntmps167
    go_wp2_with (first | ((with_reducible refine gate_dst (N := 2) rfl ?_); refine bxe (N := 2) (cs := (csBay a0_0 a0_1 a0_2)) (t := 28) ?_; intro gb204 hg w15 hbox hb; have BK204 := am (hbox); have GW204 := am (gN hg (below_size (be HB))); have GE204 := am (gN hg (below_size (be HB))); replace HB := am (below_step (be HB) hb); clear hb hbox hg) | ((with_reducible refine gate_dst (N := 3) rfl ?_); refine bxe (N := 3) (cs := #[.int .i8 a1_0, .int .i8 a1_1]) (t := 36) ?_; intro gb205 hg w16 hbox hb; have BK205 := am (hbox); have GW205 := am (gN hg (below_size (be HB))); have GE205 := am (gN hg (below_size (be HB))); have NB204_205 := nL BK204 hg; have NB205_204 := nR BK204 hg; replace BK204 := bB BK204 hb; replace HB := am (below_step (be HB) hb); clear hb hbox hg; have hnb17 := NB204_205.out; have hnc17 := NB205_204.out; have hcz18_0 : w16.cell? ⟨gb204, 0, none⟩ = some (.int .i8 a0_0) := (blk_cell BK204.out 0).trans rfl; have hcz18_1 : w16.cell? ⟨gb204, 1, none⟩ = some (.int .i8 a0_1) := (blk_cell BK204.out 1).trans rfl; have hwz18 := lv28_at BK204.out; have haz18 := at_cells BK204.out; have hyz18 := BayAt28_of BK204.out; have hvz18 := lvv_of BK204.out; have hfz18_0 := blk_frozen BK204.out 0; have hfz18_1 := blk_frozen BK204.out 1; have hfz18_2 := blk_frozen BK204.out 2; obtain ⟨hcz19_0, hcz19_1, hfz19_0, hfz19_1⟩ := bx2 BK205) | ((with_reducible refine gate_callee (f := 178) rfl ?_); refine gL (some 7) Try.func178 #[.agg (csBay a0_0 a0_1 a0_2), .agg #[.int .i8 a1_0, .int .i8 a1_1]] ?_; (with_reducible refine (impl_isPlace.calls a0_0 a0_1 a0_2 a1_0 a1_1 false _ A3.out).mono ?_); rintro e w20 ⟨rfl, hb⟩; refine ⟨_, rfl, ?_⟩; replace BK204 := bB BK204 hb; replace BK205 := bB BK205 hb; replace HB := am (below_step (be HB) hb); (try clear hb); (try clear hb2); (try clear hk); (try clear hi)))
    go_ret
    exact ⟨by first | rfl | (simp [errW_none, errW_some] <;> rfl) | (simp [*, errW_none, errW_some] <;> rfl), be HB⟩

/-! ### impl_isBoat: function 107 -/
def impl_isBoat.f (a0_0 : Int) (a0_1 : Int) (a0_2 : (Nat → Int)) (a1_0 : Int) (a1_1 : Int) (a1_2 : Int) (a1_3 : Int) (a1_4 : Int) (a1_5 : Int) : Option (Bool) := (impl_isWater.f a0_0 a0_1 a0_2 a1_0 a1_1).bind fun t210 => (if t210 = true then (if a1_2 ≥ 1 then (if a1_2 ≤ 60 then (if a1_3 ≥ 0 then (if a1_3 ≤ 5 then (if a1_4 ≥ 1 then (if a1_4 ≤ 30 then (if a1_5 ≥ 0 then (some (decide (a1_5 ≤ 9))) else (some false)) else (some false)) else (some false)) else (some false)) else (some false)) else (some false)) else (some false)) else (some false))
set_option maxHeartbeats 8000000 in
set_option maxRecDepth 100000 in
theorem impl_isBoat.calls (a0_0 : Int) (a0_1 : Int) (a0_2 : (Nat → Int)) (a1_0 : Int) (a1_1 : Int) (a1_2 : Int) (a1_3 : Int) (a1_4 : Int) (a1_5 : Int) (r : Bool) (w : World) (h : impl_isBoat.f a0_0 a0_1 a0_2 a1_0 a1_1 a1_2 a1_3 a1_4 a1_5 = some r) :
    Calls Try.prog 107 #[.agg (csBay a0_0 a0_1 a0_2), .agg #[.int .i8 a1_0, .int .i8 a1_1, .int .i8 a1_2, .int .i8 a1_3, .int .i8 a1_4, .int .i8 a1_5]] w fun e w' => e = .returned (.bool r) ∧ Below w.heap.size w w' := by
  have hu28 := Try.underlying28
  have hu38 := Try.underlying38
  have hu36 := Try.underlying36
  have HB := am (Below.refl w.heap.size w)
  have H : ((impl_isWater.f a0_0 a0_1 a0_2 a1_0 a1_1).bind fun t210 => (if t210 = true then (if a1_2 ≥ 1 then (if a1_2 ≤ 60 then (if a1_3 ≥ 0 then (if a1_3 ≤ 5 then (if a1_4 ≥ 1 then (if a1_4 ≤ 30 then (if a1_5 ≥ 0 then (some (decide (a1_5 ≤ 9))) else (some false)) else (some false)) else (some false)) else (some false)) else (some false)) else (some false)) else (some false)) else (some false))) = some r := h
  clear h
  replace H := Option.bind_eq_some_iff.mp H
  obtain ⟨t210, A30, H⟩ := H
  try dsimp only at H
  have A3 := am A30
  clear A30
  by_cases c4 : t210 = true
  · subst c4
    rw [if_pos rfl] at H
    by_cases c5 : a1_2 ≥ 1
    · rw [if_pos c5] at H
      have c5b0 : decide (1 ≤ a1_2) = true := decide_eq_true c5
      clear c5
      by_cases c6 : a1_2 ≤ 60
      · rw [if_pos c6] at H
        have c6b0 : decide (a1_2 ≤ 60) = true := decide_eq_true c6
        clear c6
        by_cases c7 : a1_3 ≥ 0
        · rw [if_pos c7] at H
          have c7b0 : decide (0 ≤ a1_3) = true := decide_eq_true c7
          have c7b1 : 0 ≤ a1_3 := c7
          clear c7
          by_cases c8 : a1_3 ≤ 5
          · rw [if_pos c8] at H
            have c8b0 : decide (a1_3 ≤ 5) = true := decide_eq_true c8
            clear c8
            by_cases c9 : a1_4 ≥ 1
            · rw [if_pos c9] at H
              have c9b0 : decide (1 ≤ a1_4) = true := decide_eq_true c9
              clear c9
              by_cases c10 : a1_4 ≤ 30
              · rw [if_pos c10] at H
                have c10b0 : decide (a1_4 ≤ 30) = true := decide_eq_true c10
                clear c10
                by_cases c11 : a1_5 ≥ 0
                · rw [if_pos c11] at H
                  have c11b0 : decide (0 ≤ a1_5) = true := decide_eq_true c11
                  have c11b1 : 0 ≤ a1_5 := c11
                  clear c11
                  obtain rfl := Option.some.inj H
                  go_enter Try.func107, Try.ntmps107
                  go_wp2_with (first | ((with_reducible refine gate_dst (N := 2) rfl ?_); refine bxe (N := 2) (cs := (csBay a0_0 a0_1 a0_2)) (t := 28) ?_; intro gb208 hg w12 hbox hb; have BK208 := am (hbox); have GW208 := am (gN hg (below_size (be HB))); have GE208 := am (gN hg (below_size (be HB))); replace HB := am (below_step (be HB) hb); clear hb hbox hg) | ((with_reducible refine gate_dst (N := 3) rfl ?_); refine bxe (N := 3) (cs := #[.int .i8 a1_0, .int .i8 a1_1, .int .i8 a1_2, .int .i8 a1_3, .int .i8 a1_4, .int .i8 a1_5]) (t := 38) ?_; intro gb209 hg w13 hbox hb; have BK209 := am (hbox); have GW209 := am (gN hg (below_size (be HB))); have GE209 := am (gN hg (below_size (be HB))); have NB208_209 := nL BK208 hg; have NB209_208 := nR BK208 hg; replace BK208 := bB BK208 hb; replace HB := am (below_step (be HB) hb); clear hb hbox hg; have hnb14 := NB208_209.out; have hnc14 := NB209_208.out; have hcz15_0 : w13.cell? ⟨gb208, 0, none⟩ = some (.int .i8 a0_0) := (blk_cell BK208.out 0).trans rfl; have hcz15_1 : w13.cell? ⟨gb208, 1, none⟩ = some (.int .i8 a0_1) := (blk_cell BK208.out 1).trans rfl; have hwz15 := lv28_at BK208.out; have haz15 := at_cells BK208.out; have hyz15 := BayAt28_of BK208.out; have hvz15 := lvv_of BK208.out; have hfz15_0 := blk_frozen BK208.out 0; have hfz15_1 := blk_frozen BK208.out 1; have hfz15_2 := blk_frozen BK208.out 2; obtain ⟨hcz16_0, hcz16_1, hcz16_2, hcz16_3, hcz16_4, hcz16_5, hfz16_0, hfz16_1, hfz16_2, hfz16_3, hfz16_4, hfz16_5⟩ := bx6 BK209) | ((with_reducible refine gate_callee (f := 167) rfl ?_); refine gL (some 8) Try.func167 #[.agg (csBay a0_0 a0_1 a0_2), .agg #[.int .i8 a1_0, .int .i8 a1_1]] ?_; (with_reducible refine (impl_isWater.calls a0_0 a0_1 a0_2 a1_0 a1_1 true _ A3.out).mono ?_); rintro e w17 ⟨rfl, hb⟩; refine ⟨_, rfl, ?_⟩; replace BK208 := bB BK208 hb; replace BK209 := bB BK209 hb; replace HB := am (below_step (be HB) hb); (try clear hb); (try clear hb2); (try clear hk); (try clear hi); obtain ⟨hcz18_0, hcz18_1, hcz18_2, hcz18_3, hcz18_4, hcz18_5, hfz18_0, hfz18_1, hfz18_2, hfz18_3, hfz18_4, hfz18_5⟩ := bx6 BK209))
                  go_ret
                  exact ⟨by first | rfl | (simp [errW_none, errW_some] <;> rfl) | (simp [*, errW_none, errW_some] <;> rfl), be HB⟩
                · rw [if_neg c11] at H
                  have c11b0 : decide (0 ≤ a1_5) = false := decide_eq_false c11
                  clear c11
                  obtain rfl := Option.some.inj H
                  go_enter Try.func107, Try.ntmps107
                  go_wp2_with (first | ((with_reducible refine gate_dst (N := 2) rfl ?_); refine bxe (N := 2) (cs := (csBay a0_0 a0_1 a0_2)) (t := 28) ?_; intro gb208 hg w19 hbox hb; have BK208 := am (hbox); have GW208 := am (gN hg (below_size (be HB))); have GE208 := am (gN hg (below_size (be HB))); replace HB := am (below_step (be HB) hb); clear hb hbox hg) | ((with_reducible refine gate_dst (N := 3) rfl ?_); refine bxe (N := 3) (cs := #[.int .i8 a1_0, .int .i8 a1_1, .int .i8 a1_2, .int .i8 a1_3, .int .i8 a1_4, .int .i8 a1_5]) (t := 38) ?_; intro gb209 hg w20 hbox hb; have BK209 := am (hbox); have GW209 := am (gN hg (below_size (be HB))); have GE209 := am (gN hg (below_size (be HB))); have NB208_209 := nL BK208 hg; have NB209_208 := nR BK208 hg; replace BK208 := bB BK208 hb; replace HB := am (below_step (be HB) hb); clear hb hbox hg; have hnb21 := NB208_209.out; have hnc21 := NB209_208.out; have hcz22_0 : w20.cell? ⟨gb208, 0, none⟩ = some (.int .i8 a0_0) := (blk_cell BK208.out 0).trans rfl; have hcz22_1 : w20.cell? ⟨gb208, 1, none⟩ = some (.int .i8 a0_1) := (blk_cell BK208.out 1).trans rfl; have hwz22 := lv28_at BK208.out; have haz22 := at_cells BK208.out; have hyz22 := BayAt28_of BK208.out; have hvz22 := lvv_of BK208.out; have hfz22_0 := blk_frozen BK208.out 0; have hfz22_1 := blk_frozen BK208.out 1; have hfz22_2 := blk_frozen BK208.out 2; obtain ⟨hcz23_0, hcz23_1, hcz23_2, hcz23_3, hcz23_4, hcz23_5, hfz23_0, hfz23_1, hfz23_2, hfz23_3, hfz23_4, hfz23_5⟩ := bx6 BK209) | ((with_reducible refine gate_callee (f := 167) rfl ?_); refine gL (some 8) Try.func167 #[.agg (csBay a0_0 a0_1 a0_2), .agg #[.int .i8 a1_0, .int .i8 a1_1]] ?_; (with_reducible refine (impl_isWater.calls a0_0 a0_1 a0_2 a1_0 a1_1 true _ A3.out).mono ?_); rintro e w24 ⟨rfl, hb⟩; refine ⟨_, rfl, ?_⟩; replace BK208 := bB BK208 hb; replace BK209 := bB BK209 hb; replace HB := am (below_step (be HB) hb); (try clear hb); (try clear hb2); (try clear hk); (try clear hi); obtain ⟨hcz25_0, hcz25_1, hcz25_2, hcz25_3, hcz25_4, hcz25_5, hfz25_0, hfz25_1, hfz25_2, hfz25_3, hfz25_4, hfz25_5⟩ := bx6 BK209))
                  go_ret
                  exact ⟨by first | rfl | (simp [errW_none, errW_some] <;> rfl) | (simp [*, errW_none, errW_some] <;> rfl), be HB⟩
              · rw [if_neg c10] at H
                have c10b0 : decide (a1_4 ≤ 30) = false := decide_eq_false c10
                clear c10
                obtain rfl := Option.some.inj H
                go_enter Try.func107, Try.ntmps107
                go_wp2_with (first | ((with_reducible refine gate_dst (N := 2) rfl ?_); refine bxe (N := 2) (cs := (csBay a0_0 a0_1 a0_2)) (t := 28) ?_; intro gb208 hg w26 hbox hb; have BK208 := am (hbox); have GW208 := am (gN hg (below_size (be HB))); have GE208 := am (gN hg (below_size (be HB))); replace HB := am (below_step (be HB) hb); clear hb hbox hg) | ((with_reducible refine gate_dst (N := 3) rfl ?_); refine bxe (N := 3) (cs := #[.int .i8 a1_0, .int .i8 a1_1, .int .i8 a1_2, .int .i8 a1_3, .int .i8 a1_4, .int .i8 a1_5]) (t := 38) ?_; intro gb209 hg w27 hbox hb; have BK209 := am (hbox); have GW209 := am (gN hg (below_size (be HB))); have GE209 := am (gN hg (below_size (be HB))); have NB208_209 := nL BK208 hg; have NB209_208 := nR BK208 hg; replace BK208 := bB BK208 hb; replace HB := am (below_step (be HB) hb); clear hb hbox hg; have hnb28 := NB208_209.out; have hnc28 := NB209_208.out; have hcz29_0 : w27.cell? ⟨gb208, 0, none⟩ = some (.int .i8 a0_0) := (blk_cell BK208.out 0).trans rfl; have hcz29_1 : w27.cell? ⟨gb208, 1, none⟩ = some (.int .i8 a0_1) := (blk_cell BK208.out 1).trans rfl; have hwz29 := lv28_at BK208.out; have haz29 := at_cells BK208.out; have hyz29 := BayAt28_of BK208.out; have hvz29 := lvv_of BK208.out; have hfz29_0 := blk_frozen BK208.out 0; have hfz29_1 := blk_frozen BK208.out 1; have hfz29_2 := blk_frozen BK208.out 2; obtain ⟨hcz30_0, hcz30_1, hcz30_2, hcz30_3, hcz30_4, hcz30_5, hfz30_0, hfz30_1, hfz30_2, hfz30_3, hfz30_4, hfz30_5⟩ := bx6 BK209) | ((with_reducible refine gate_callee (f := 167) rfl ?_); refine gL (some 8) Try.func167 #[.agg (csBay a0_0 a0_1 a0_2), .agg #[.int .i8 a1_0, .int .i8 a1_1]] ?_; (with_reducible refine (impl_isWater.calls a0_0 a0_1 a0_2 a1_0 a1_1 true _ A3.out).mono ?_); rintro e w31 ⟨rfl, hb⟩; refine ⟨_, rfl, ?_⟩; replace BK208 := bB BK208 hb; replace BK209 := bB BK209 hb; replace HB := am (below_step (be HB) hb); (try clear hb); (try clear hb2); (try clear hk); (try clear hi); obtain ⟨hcz32_0, hcz32_1, hcz32_2, hcz32_3, hcz32_4, hcz32_5, hfz32_0, hfz32_1, hfz32_2, hfz32_3, hfz32_4, hfz32_5⟩ := bx6 BK209))
                go_ret
                exact ⟨by first | rfl | (simp [errW_none, errW_some] <;> rfl) | (simp [*, errW_none, errW_some] <;> rfl), be HB⟩
            · rw [if_neg c9] at H
              have c9b0 : decide (1 ≤ a1_4) = false := decide_eq_false c9
              clear c9
              obtain rfl := Option.some.inj H
              go_enter Try.func107, Try.ntmps107
              go_wp2_with (first | ((with_reducible refine gate_dst (N := 2) rfl ?_); refine bxe (N := 2) (cs := (csBay a0_0 a0_1 a0_2)) (t := 28) ?_; intro gb208 hg w33 hbox hb; have BK208 := am (hbox); have GW208 := am (gN hg (below_size (be HB))); have GE208 := am (gN hg (below_size (be HB))); replace HB := am (below_step (be HB) hb); clear hb hbox hg) | ((with_reducible refine gate_dst (N := 3) rfl ?_); refine bxe (N := 3) (cs := #[.int .i8 a1_0, .int .i8 a1_1, .int .i8 a1_2, .int .i8 a1_3, .int .i8 a1_4, .int .i8 a1_5]) (t := 38) ?_; intro gb209 hg w34 hbox hb; have BK209 := am (hbox); have GW209 := am (gN hg (below_size (be HB))); have GE209 := am (gN hg (below_size (be HB))); have NB208_209 := nL BK208 hg; have NB209_208 := nR BK208 hg; replace BK208 := bB BK208 hb; replace HB := am (below_step (be HB) hb); clear hb hbox hg; have hnb35 := NB208_209.out; have hnc35 := NB209_208.out; have hcz36_0 : w34.cell? ⟨gb208, 0, none⟩ = some (.int .i8 a0_0) := (blk_cell BK208.out 0).trans rfl; have hcz36_1 : w34.cell? ⟨gb208, 1, none⟩ = some (.int .i8 a0_1) := (blk_cell BK208.out 1).trans rfl; have hwz36 := lv28_at BK208.out; have haz36 := at_cells BK208.out; have hyz36 := BayAt28_of BK208.out; have hvz36 := lvv_of BK208.out; have hfz36_0 := blk_frozen BK208.out 0; have hfz36_1 := blk_frozen BK208.out 1; have hfz36_2 := blk_frozen BK208.out 2; obtain ⟨hcz37_0, hcz37_1, hcz37_2, hcz37_3, hcz37_4, hcz37_5, hfz37_0, hfz37_1, hfz37_2, hfz37_3, hfz37_4, hfz37_5⟩ := bx6 BK209) | ((with_reducible refine gate_callee (f := 167) rfl ?_); refine gL (some 8) Try.func167 #[.agg (csBay a0_0 a0_1 a0_2), .agg #[.int .i8 a1_0, .int .i8 a1_1]] ?_; (with_reducible refine (impl_isWater.calls a0_0 a0_1 a0_2 a1_0 a1_1 true _ A3.out).mono ?_); rintro e w38 ⟨rfl, hb⟩; refine ⟨_, rfl, ?_⟩; replace BK208 := bB BK208 hb; replace BK209 := bB BK209 hb; replace HB := am (below_step (be HB) hb); (try clear hb); (try clear hb2); (try clear hk); (try clear hi); obtain ⟨hcz39_0, hcz39_1, hcz39_2, hcz39_3, hcz39_4, hcz39_5, hfz39_0, hfz39_1, hfz39_2, hfz39_3, hfz39_4, hfz39_5⟩ := bx6 BK209))
              go_ret
              exact ⟨by first | rfl | (simp [errW_none, errW_some] <;> rfl) | (simp [*, errW_none, errW_some] <;> rfl), be HB⟩
          · rw [if_neg c8] at H
            have c8b0 : decide (a1_3 ≤ 5) = false := decide_eq_false c8
            clear c8
            obtain rfl := Option.some.inj H
            go_enter Try.func107, Try.ntmps107
            go_wp2_with (first | ((with_reducible refine gate_dst (N := 2) rfl ?_); refine bxe (N := 2) (cs := (csBay a0_0 a0_1 a0_2)) (t := 28) ?_; intro gb208 hg w40 hbox hb; have BK208 := am (hbox); have GW208 := am (gN hg (below_size (be HB))); have GE208 := am (gN hg (below_size (be HB))); replace HB := am (below_step (be HB) hb); clear hb hbox hg) | ((with_reducible refine gate_dst (N := 3) rfl ?_); refine bxe (N := 3) (cs := #[.int .i8 a1_0, .int .i8 a1_1, .int .i8 a1_2, .int .i8 a1_3, .int .i8 a1_4, .int .i8 a1_5]) (t := 38) ?_; intro gb209 hg w41 hbox hb; have BK209 := am (hbox); have GW209 := am (gN hg (below_size (be HB))); have GE209 := am (gN hg (below_size (be HB))); have NB208_209 := nL BK208 hg; have NB209_208 := nR BK208 hg; replace BK208 := bB BK208 hb; replace HB := am (below_step (be HB) hb); clear hb hbox hg; have hnb42 := NB208_209.out; have hnc42 := NB209_208.out; have hcz43_0 : w41.cell? ⟨gb208, 0, none⟩ = some (.int .i8 a0_0) := (blk_cell BK208.out 0).trans rfl; have hcz43_1 : w41.cell? ⟨gb208, 1, none⟩ = some (.int .i8 a0_1) := (blk_cell BK208.out 1).trans rfl; have hwz43 := lv28_at BK208.out; have haz43 := at_cells BK208.out; have hyz43 := BayAt28_of BK208.out; have hvz43 := lvv_of BK208.out; have hfz43_0 := blk_frozen BK208.out 0; have hfz43_1 := blk_frozen BK208.out 1; have hfz43_2 := blk_frozen BK208.out 2; obtain ⟨hcz44_0, hcz44_1, hcz44_2, hcz44_3, hcz44_4, hcz44_5, hfz44_0, hfz44_1, hfz44_2, hfz44_3, hfz44_4, hfz44_5⟩ := bx6 BK209) | ((with_reducible refine gate_callee (f := 167) rfl ?_); refine gL (some 8) Try.func167 #[.agg (csBay a0_0 a0_1 a0_2), .agg #[.int .i8 a1_0, .int .i8 a1_1]] ?_; (with_reducible refine (impl_isWater.calls a0_0 a0_1 a0_2 a1_0 a1_1 true _ A3.out).mono ?_); rintro e w45 ⟨rfl, hb⟩; refine ⟨_, rfl, ?_⟩; replace BK208 := bB BK208 hb; replace BK209 := bB BK209 hb; replace HB := am (below_step (be HB) hb); (try clear hb); (try clear hb2); (try clear hk); (try clear hi); obtain ⟨hcz46_0, hcz46_1, hcz46_2, hcz46_3, hcz46_4, hcz46_5, hfz46_0, hfz46_1, hfz46_2, hfz46_3, hfz46_4, hfz46_5⟩ := bx6 BK209))
            go_ret
            exact ⟨by first | rfl | (simp [errW_none, errW_some] <;> rfl) | (simp [*, errW_none, errW_some] <;> rfl), be HB⟩
        · rw [if_neg c7] at H
          have c7b0 : decide (0 ≤ a1_3) = false := decide_eq_false c7
          clear c7
          obtain rfl := Option.some.inj H
          go_enter Try.func107, Try.ntmps107
          go_wp2_with (first | ((with_reducible refine gate_dst (N := 2) rfl ?_); refine bxe (N := 2) (cs := (csBay a0_0 a0_1 a0_2)) (t := 28) ?_; intro gb208 hg w47 hbox hb; have BK208 := am (hbox); have GW208 := am (gN hg (below_size (be HB))); have GE208 := am (gN hg (below_size (be HB))); replace HB := am (below_step (be HB) hb); clear hb hbox hg) | ((with_reducible refine gate_dst (N := 3) rfl ?_); refine bxe (N := 3) (cs := #[.int .i8 a1_0, .int .i8 a1_1, .int .i8 a1_2, .int .i8 a1_3, .int .i8 a1_4, .int .i8 a1_5]) (t := 38) ?_; intro gb209 hg w48 hbox hb; have BK209 := am (hbox); have GW209 := am (gN hg (below_size (be HB))); have GE209 := am (gN hg (below_size (be HB))); have NB208_209 := nL BK208 hg; have NB209_208 := nR BK208 hg; replace BK208 := bB BK208 hb; replace HB := am (below_step (be HB) hb); clear hb hbox hg; have hnb49 := NB208_209.out; have hnc49 := NB209_208.out; have hcz50_0 : w48.cell? ⟨gb208, 0, none⟩ = some (.int .i8 a0_0) := (blk_cell BK208.out 0).trans rfl; have hcz50_1 : w48.cell? ⟨gb208, 1, none⟩ = some (.int .i8 a0_1) := (blk_cell BK208.out 1).trans rfl; have hwz50 := lv28_at BK208.out; have haz50 := at_cells BK208.out; have hyz50 := BayAt28_of BK208.out; have hvz50 := lvv_of BK208.out; have hfz50_0 := blk_frozen BK208.out 0; have hfz50_1 := blk_frozen BK208.out 1; have hfz50_2 := blk_frozen BK208.out 2; obtain ⟨hcz51_0, hcz51_1, hcz51_2, hcz51_3, hcz51_4, hcz51_5, hfz51_0, hfz51_1, hfz51_2, hfz51_3, hfz51_4, hfz51_5⟩ := bx6 BK209) | ((with_reducible refine gate_callee (f := 167) rfl ?_); refine gL (some 8) Try.func167 #[.agg (csBay a0_0 a0_1 a0_2), .agg #[.int .i8 a1_0, .int .i8 a1_1]] ?_; (with_reducible refine (impl_isWater.calls a0_0 a0_1 a0_2 a1_0 a1_1 true _ A3.out).mono ?_); rintro e w52 ⟨rfl, hb⟩; refine ⟨_, rfl, ?_⟩; replace BK208 := bB BK208 hb; replace BK209 := bB BK209 hb; replace HB := am (below_step (be HB) hb); (try clear hb); (try clear hb2); (try clear hk); (try clear hi); obtain ⟨hcz53_0, hcz53_1, hcz53_2, hcz53_3, hcz53_4, hcz53_5, hfz53_0, hfz53_1, hfz53_2, hfz53_3, hfz53_4, hfz53_5⟩ := bx6 BK209))
          go_ret
          exact ⟨by first | rfl | (simp [errW_none, errW_some] <;> rfl) | (simp [*, errW_none, errW_some] <;> rfl), be HB⟩
      · rw [if_neg c6] at H
        have c6b0 : decide (a1_2 ≤ 60) = false := decide_eq_false c6
        clear c6
        obtain rfl := Option.some.inj H
        go_enter Try.func107, Try.ntmps107
        go_wp2_with (first | ((with_reducible refine gate_dst (N := 2) rfl ?_); refine bxe (N := 2) (cs := (csBay a0_0 a0_1 a0_2)) (t := 28) ?_; intro gb208 hg w54 hbox hb; have BK208 := am (hbox); have GW208 := am (gN hg (below_size (be HB))); have GE208 := am (gN hg (below_size (be HB))); replace HB := am (below_step (be HB) hb); clear hb hbox hg) | ((with_reducible refine gate_dst (N := 3) rfl ?_); refine bxe (N := 3) (cs := #[.int .i8 a1_0, .int .i8 a1_1, .int .i8 a1_2, .int .i8 a1_3, .int .i8 a1_4, .int .i8 a1_5]) (t := 38) ?_; intro gb209 hg w55 hbox hb; have BK209 := am (hbox); have GW209 := am (gN hg (below_size (be HB))); have GE209 := am (gN hg (below_size (be HB))); have NB208_209 := nL BK208 hg; have NB209_208 := nR BK208 hg; replace BK208 := bB BK208 hb; replace HB := am (below_step (be HB) hb); clear hb hbox hg; have hnb56 := NB208_209.out; have hnc56 := NB209_208.out; have hcz57_0 : w55.cell? ⟨gb208, 0, none⟩ = some (.int .i8 a0_0) := (blk_cell BK208.out 0).trans rfl; have hcz57_1 : w55.cell? ⟨gb208, 1, none⟩ = some (.int .i8 a0_1) := (blk_cell BK208.out 1).trans rfl; have hwz57 := lv28_at BK208.out; have haz57 := at_cells BK208.out; have hyz57 := BayAt28_of BK208.out; have hvz57 := lvv_of BK208.out; have hfz57_0 := blk_frozen BK208.out 0; have hfz57_1 := blk_frozen BK208.out 1; have hfz57_2 := blk_frozen BK208.out 2; obtain ⟨hcz58_0, hcz58_1, hcz58_2, hcz58_3, hcz58_4, hcz58_5, hfz58_0, hfz58_1, hfz58_2, hfz58_3, hfz58_4, hfz58_5⟩ := bx6 BK209) | ((with_reducible refine gate_callee (f := 167) rfl ?_); refine gL (some 8) Try.func167 #[.agg (csBay a0_0 a0_1 a0_2), .agg #[.int .i8 a1_0, .int .i8 a1_1]] ?_; (with_reducible refine (impl_isWater.calls a0_0 a0_1 a0_2 a1_0 a1_1 true _ A3.out).mono ?_); rintro e w59 ⟨rfl, hb⟩; refine ⟨_, rfl, ?_⟩; replace BK208 := bB BK208 hb; replace BK209 := bB BK209 hb; replace HB := am (below_step (be HB) hb); (try clear hb); (try clear hb2); (try clear hk); (try clear hi); obtain ⟨hcz60_0, hcz60_1, hcz60_2, hcz60_3, hcz60_4, hcz60_5, hfz60_0, hfz60_1, hfz60_2, hfz60_3, hfz60_4, hfz60_5⟩ := bx6 BK209))
        go_ret
        exact ⟨by first | rfl | (simp [errW_none, errW_some] <;> rfl) | (simp [*, errW_none, errW_some] <;> rfl), be HB⟩
    · rw [if_neg c5] at H
      have c5b0 : decide (1 ≤ a1_2) = false := decide_eq_false c5
      clear c5
      obtain rfl := Option.some.inj H
      go_enter Try.func107, Try.ntmps107
      go_wp2_with (first | ((with_reducible refine gate_dst (N := 2) rfl ?_); refine bxe (N := 2) (cs := (csBay a0_0 a0_1 a0_2)) (t := 28) ?_; intro gb208 hg w61 hbox hb; have BK208 := am (hbox); have GW208 := am (gN hg (below_size (be HB))); have GE208 := am (gN hg (below_size (be HB))); replace HB := am (below_step (be HB) hb); clear hb hbox hg) | ((with_reducible refine gate_dst (N := 3) rfl ?_); refine bxe (N := 3) (cs := #[.int .i8 a1_0, .int .i8 a1_1, .int .i8 a1_2, .int .i8 a1_3, .int .i8 a1_4, .int .i8 a1_5]) (t := 38) ?_; intro gb209 hg w62 hbox hb; have BK209 := am (hbox); have GW209 := am (gN hg (below_size (be HB))); have GE209 := am (gN hg (below_size (be HB))); have NB208_209 := nL BK208 hg; have NB209_208 := nR BK208 hg; replace BK208 := bB BK208 hb; replace HB := am (below_step (be HB) hb); clear hb hbox hg; have hnb63 := NB208_209.out; have hnc63 := NB209_208.out; have hcz64_0 : w62.cell? ⟨gb208, 0, none⟩ = some (.int .i8 a0_0) := (blk_cell BK208.out 0).trans rfl; have hcz64_1 : w62.cell? ⟨gb208, 1, none⟩ = some (.int .i8 a0_1) := (blk_cell BK208.out 1).trans rfl; have hwz64 := lv28_at BK208.out; have haz64 := at_cells BK208.out; have hyz64 := BayAt28_of BK208.out; have hvz64 := lvv_of BK208.out; have hfz64_0 := blk_frozen BK208.out 0; have hfz64_1 := blk_frozen BK208.out 1; have hfz64_2 := blk_frozen BK208.out 2; obtain ⟨hcz65_0, hcz65_1, hcz65_2, hcz65_3, hcz65_4, hcz65_5, hfz65_0, hfz65_1, hfz65_2, hfz65_3, hfz65_4, hfz65_5⟩ := bx6 BK209) | ((with_reducible refine gate_callee (f := 167) rfl ?_); refine gL (some 8) Try.func167 #[.agg (csBay a0_0 a0_1 a0_2), .agg #[.int .i8 a1_0, .int .i8 a1_1]] ?_; (with_reducible refine (impl_isWater.calls a0_0 a0_1 a0_2 a1_0 a1_1 true _ A3.out).mono ?_); rintro e w66 ⟨rfl, hb⟩; refine ⟨_, rfl, ?_⟩; replace BK208 := bB BK208 hb; replace BK209 := bB BK209 hb; replace HB := am (below_step (be HB) hb); (try clear hb); (try clear hb2); (try clear hk); (try clear hi); obtain ⟨hcz67_0, hcz67_1, hcz67_2, hcz67_3, hcz67_4, hcz67_5, hfz67_0, hfz67_1, hfz67_2, hfz67_3, hfz67_4, hfz67_5⟩ := bx6 BK209))
      go_ret
      exact ⟨by first | rfl | (simp [errW_none, errW_some] <;> rfl) | (simp [*, errW_none, errW_some] <;> rfl), be HB⟩
  · replace c4 := Bool.eq_false_iff.mpr c4
    subst c4
    have H1 : (some false) = some r := by rw [if_neg (show ¬ (false = true) by decide)] at H; exact H
    clear H
    have H := H1
    clear H1
    obtain rfl := Option.some.inj H
    go_enter Try.func107, Try.ntmps107
    go_wp2_with (first | ((with_reducible refine gate_dst (N := 2) rfl ?_); refine bxe (N := 2) (cs := (csBay a0_0 a0_1 a0_2)) (t := 28) ?_; intro gb208 hg w68 hbox hb; have BK208 := am (hbox); have GW208 := am (gN hg (below_size (be HB))); have GE208 := am (gN hg (below_size (be HB))); replace HB := am (below_step (be HB) hb); clear hb hbox hg) | ((with_reducible refine gate_dst (N := 3) rfl ?_); refine bxe (N := 3) (cs := #[.int .i8 a1_0, .int .i8 a1_1, .int .i8 a1_2, .int .i8 a1_3, .int .i8 a1_4, .int .i8 a1_5]) (t := 38) ?_; intro gb209 hg w69 hbox hb; have BK209 := am (hbox); have GW209 := am (gN hg (below_size (be HB))); have GE209 := am (gN hg (below_size (be HB))); have NB208_209 := nL BK208 hg; have NB209_208 := nR BK208 hg; replace BK208 := bB BK208 hb; replace HB := am (below_step (be HB) hb); clear hb hbox hg; have hnb70 := NB208_209.out; have hnc70 := NB209_208.out; have hcz71_0 : w69.cell? ⟨gb208, 0, none⟩ = some (.int .i8 a0_0) := (blk_cell BK208.out 0).trans rfl; have hcz71_1 : w69.cell? ⟨gb208, 1, none⟩ = some (.int .i8 a0_1) := (blk_cell BK208.out 1).trans rfl; have hwz71 := lv28_at BK208.out; have haz71 := at_cells BK208.out; have hyz71 := BayAt28_of BK208.out; have hvz71 := lvv_of BK208.out; have hfz71_0 := blk_frozen BK208.out 0; have hfz71_1 := blk_frozen BK208.out 1; have hfz71_2 := blk_frozen BK208.out 2; obtain ⟨hcz72_0, hcz72_1, hcz72_2, hcz72_3, hcz72_4, hcz72_5, hfz72_0, hfz72_1, hfz72_2, hfz72_3, hfz72_4, hfz72_5⟩ := bx6 BK209) | ((with_reducible refine gate_callee (f := 167) rfl ?_); refine gL (some 8) Try.func167 #[.agg (csBay a0_0 a0_1 a0_2), .agg #[.int .i8 a1_0, .int .i8 a1_1]] ?_; (with_reducible refine (impl_isWater.calls a0_0 a0_1 a0_2 a1_0 a1_1 false _ A3.out).mono ?_); rintro e w73 ⟨rfl, hb⟩; refine ⟨_, rfl, ?_⟩; replace BK208 := bB BK208 hb; replace BK209 := bB BK209 hb; replace HB := am (below_step (be HB) hb); (try clear hb); (try clear hb2); (try clear hk); (try clear hi)))
    go_ret
    exact ⟨by first | rfl | (simp [errW_none, errW_some] <;> rfl) | (simp [*, errW_none, errW_some] <;> rfl), be HB⟩

/-! ### impl_ValidBoat: function 30 -/
def impl_ValidBoat.f (a0_0 : Int) (a0_1 : Int) (a0_2 : (Nat → Int)) (a1_0 : Int) (a1_1 : Int) (a1_2 : Int) (a1_3 : Int) (a1_4 : Int) (a1_5 : Int) : Option (Bool) := (impl_ValidBay.f a0_0 a0_1 a0_2).bind fun t213 => (if t213 = true then ((impl_isBoat.f a0_0 a0_1 a0_2 a1_0 a1_1 a1_2 a1_3 a1_4 a1_5).bind fun t214 => (some t214)) else (some false))
set_option maxHeartbeats 8000000 in
set_option maxRecDepth 100000 in
theorem impl_ValidBoat.calls (a0_0 : Int) (a0_1 : Int) (a0_2 : (Nat → Int)) (a1_0 : Int) (a1_1 : Int) (a1_2 : Int) (a1_3 : Int) (a1_4 : Int) (a1_5 : Int) (r : Bool) (w : World) (h : impl_ValidBoat.f a0_0 a0_1 a0_2 a1_0 a1_1 a1_2 a1_3 a1_4 a1_5 = some r) :
    Calls Try.prog 30 #[.agg (csBay a0_0 a0_1 a0_2), .agg #[.int .i8 a1_0, .int .i8 a1_1, .int .i8 a1_2, .int .i8 a1_3, .int .i8 a1_4, .int .i8 a1_5]] w fun e w' => e = .returned (.bool r) ∧ Below w.heap.size w w' := by
  have hu28 := Try.underlying28
  have hu38 := Try.underlying38
  have HB := am (Below.refl w.heap.size w)
  have H : ((impl_ValidBay.f a0_0 a0_1 a0_2).bind fun t213 => (if t213 = true then ((impl_isBoat.f a0_0 a0_1 a0_2 a1_0 a1_1 a1_2 a1_3 a1_4 a1_5).bind fun t214 => (some t214)) else (some false))) = some r := h
  clear h
  replace H := Option.bind_eq_some_iff.mp H
  obtain ⟨t213, A30, H⟩ := H
  try dsimp only at H
  have A3 := am A30
  clear A30
  by_cases c4 : t213 = true
  · subst c4
    rw [if_pos rfl] at H
    replace H := Option.bind_eq_some_iff.mp H
    obtain ⟨t214, A50, H⟩ := H
    try dsimp only at H
    have A5 := am A50
    clear A50
    obtain rfl := Option.some.inj H
    go_enter Try.func30, Try.ntmps30
    go_wp2_with (first | ((with_reducible refine gate_dst (N := 2) rfl ?_); refine bxe (N := 2) (cs := (csBay a0_0 a0_1 a0_2)) (t := 28) ?_; intro gb211 hg w6 hbox hb; have BK211 := am (hbox); have GW211 := am (gN hg (below_size (be HB))); have GE211 := am (gN hg (below_size (be HB))); replace HB := am (below_step (be HB) hb); clear hb hbox hg) | ((with_reducible refine gate_dst (N := 3) rfl ?_); refine bxe (N := 3) (cs := #[.int .i8 a1_0, .int .i8 a1_1, .int .i8 a1_2, .int .i8 a1_3, .int .i8 a1_4, .int .i8 a1_5]) (t := 38) ?_; intro gb212 hg w7 hbox hb; have BK212 := am (hbox); have GW212 := am (gN hg (below_size (be HB))); have GE212 := am (gN hg (below_size (be HB))); have NB211_212 := nL BK211 hg; have NB212_211 := nR BK211 hg; replace BK211 := bB BK211 hb; replace HB := am (below_step (be HB) hb); clear hb hbox hg; have hnb8 := NB211_212.out; have hnc8 := NB212_211.out; have hcz9_0 : w7.cell? ⟨gb211, 0, none⟩ = some (.int .i8 a0_0) := (blk_cell BK211.out 0).trans rfl; have hcz9_1 : w7.cell? ⟨gb211, 1, none⟩ = some (.int .i8 a0_1) := (blk_cell BK211.out 1).trans rfl; have hwz9 := lv28_at BK211.out; have haz9 := at_cells BK211.out; have hyz9 := BayAt28_of BK211.out; have hvz9 := lvv_of BK211.out; have hfz9_0 := blk_frozen BK211.out 0; have hfz9_1 := blk_frozen BK211.out 1; have hfz9_2 := blk_frozen BK211.out 2) | ((with_reducible refine gate_callee (f := 27) rfl ?_); refine gL (some 6) Try.func27 #[.agg (csBay a0_0 a0_1 a0_2)] ?_; (with_reducible refine (impl_ValidBay.calls a0_0 a0_1 a0_2 true _ A3.out).mono ?_); rintro e w10 ⟨rfl, hb⟩; refine ⟨_, rfl, ?_⟩; replace BK211 := bB BK211 hb; replace BK212 := bB BK212 hb; replace HB := am (below_step (be HB) hb); (try clear hb); (try clear hb2); (try clear hk); (try clear hi); have hcz11_0 : w10.cell? ⟨gb211, 0, none⟩ = some (.int .i8 a0_0) := (blk_cell BK211.out 0).trans rfl; have hcz11_1 : w10.cell? ⟨gb211, 1, none⟩ = some (.int .i8 a0_1) := (blk_cell BK211.out 1).trans rfl; have hwz11 := lv28_at BK211.out; have haz11 := at_cells BK211.out; have hyz11 := BayAt28_of BK211.out; have hvz11 := lvv_of BK211.out; have hfz11_0 := blk_frozen BK211.out 0; have hfz11_1 := blk_frozen BK211.out 1; have hfz11_2 := blk_frozen BK211.out 2; obtain ⟨hcz12_0, hcz12_1, hcz12_2, hcz12_3, hcz12_4, hcz12_5, hfz12_0, hfz12_1, hfz12_2, hfz12_3, hfz12_4, hfz12_5⟩ := bx6 BK212) | (go_at_call 107; (with_reducible refine (impl_isBoat.calls a0_0 a0_1 a0_2 a1_0 a1_1 a1_2 a1_3 a1_4 a1_5 t214 _ A5.out).mono ?_); rintro e w13 ⟨rfl, hb⟩; replace BK211 := bB BK211 hb; replace BK212 := bB BK212 hb; replace HB := am (below_step (be HB) hb); (try clear hb); (try clear hb2); (try clear hk); (try clear hi)))
    go_ret
    exact ⟨by first | rfl | (simp [errW_none, errW_some] <;> rfl) | (simp [*, errW_none, errW_some] <;> rfl), be HB⟩
  · replace c4 := Bool.eq_false_iff.mpr c4
    subst c4
    have H1 : (some false) = some r := by rw [if_neg (show ¬ (false = true) by decide)] at H; exact H
    clear H
    have H := H1
    clear H1
    obtain rfl := Option.some.inj H
    go_enter Try.func30, Try.ntmps30
    go_wp2_with (first | ((with_reducible refine gate_dst (N := 2) rfl ?_); refine bxe (N := 2) (cs := (csBay a0_0 a0_1 a0_2)) (t := 28) ?_; intro gb211 hg w14 hbox hb; have BK211 := am (hbox); have GW211 := am (gN hg (below_size (be HB))); have GE211 := am (gN hg (below_size (be HB))); replace HB := am (below_step (be HB) hb); clear hb hbox hg) | ((with_reducible refine gate_dst (N := 3) rfl ?_); refine bxe (N := 3) (cs := #[.int .i8 a1_0, .int .i8 a1_1, .int .i8 a1_2, .int .i8 a1_3, .int .i8 a1_4, .int .i8 a1_5]) (t := 38) ?_; intro gb212 hg w15 hbox hb; have BK212 := am (hbox); have GW212 := am (gN hg (below_size (be HB))); have GE212 := am (gN hg (below_size (be HB))); have NB211_212 := nL BK211 hg; have NB212_211 := nR BK211 hg; replace BK211 := bB BK211 hb; replace HB := am (below_step (be HB) hb); clear hb hbox hg; have hnb16 := NB211_212.out; have hnc16 := NB212_211.out; have hcz17_0 : w15.cell? ⟨gb211, 0, none⟩ = some (.int .i8 a0_0) := (blk_cell BK211.out 0).trans rfl; have hcz17_1 : w15.cell? ⟨gb211, 1, none⟩ = some (.int .i8 a0_1) := (blk_cell BK211.out 1).trans rfl; have hwz17 := lv28_at BK211.out; have haz17 := at_cells BK211.out; have hyz17 := BayAt28_of BK211.out; have hvz17 := lvv_of BK211.out; have hfz17_0 := blk_frozen BK211.out 0; have hfz17_1 := blk_frozen BK211.out 1; have hfz17_2 := blk_frozen BK211.out 2) | ((with_reducible refine gate_callee (f := 27) rfl ?_); refine gL (some 6) Try.func27 #[.agg (csBay a0_0 a0_1 a0_2)] ?_; (with_reducible refine (impl_ValidBay.calls a0_0 a0_1 a0_2 false _ A3.out).mono ?_); rintro e w18 ⟨rfl, hb⟩; refine ⟨_, rfl, ?_⟩; replace BK211 := bB BK211 hb; replace BK212 := bB BK212 hb; replace HB := am (below_step (be HB) hb); (try clear hb); (try clear hb2); (try clear hk); (try clear hi)))
    go_ret
    exact ⟨by first | rfl | (simp [errW_none, errW_some] <;> rfl) | (simp [*, errW_none, errW_some] <;> rfl), be HB⟩

/-! ### impl_root: function 169 -/
def impl_root.l0 : Nat → Int → Int → Option (Int)
  | 0, _, _ => none
  | k + 1, x0, x3 => if (wrap64 ((wrap64 (x3 + 1)) * (wrap64 (x3 + 1)))) ≤ x0 then (impl_root.l0 k x0 (wrap64 (x3 + 1))) else (some x3)
def impl_root.f (k : Nat) (a0 : Int) : Option (Int) := impl_root.l0 k a0 0
set_option maxHeartbeats 8000000 in
set_option maxRecDepth 100000 in
theorem impl_root.calls (k : Nat) (a0 : Int) (r : Int) (w : World) (h : impl_root.f k a0 = some r) :
    Calls Try.prog 169 #[.int .i64 a0] w fun e w' => e = .returned (.int .i64 r) ∧ Drawn0 w w' := by
  have H : (impl_root.l0 k a0 0) = some r := h
  clear h
  have H' := am H
  clear H
  go_enter Try.func169, Try.ntmps169
  go_wp2
  go_loopg [3] k (fun kq v3 w' => ∃ (x3_1 : Int), v3 = .int .i64 x3_1 ∧ Aside0 (impl_root.l0 kq a0 x3_1 = some r) ∧ Aside0 (kq ≤ k) ∧ Drawn0 w w')
  case atStart => exact ⟨(0), vv, H', ⟨Nat.le_refl _⟩, by repeat (first | exact Drawn0.refl _ | apply Drawn0.step)⟩
  case round =>
    clear H'
    try clear c1
    obtain ⟨x3_1, rfl, HA, HK1, ⟨m1, rfl⟩⟩ := hrel
    cases gk with
    | zero => exact absurd HA.out (by simp [impl_root.l0])
    | succ k1 =>
      have H := HA.out
      clear HA
      simp only [impl_root.l0] at H
      by_cases c2 : (wrap64 ((wrap64 (x3_1 + 1)) * (wrap64 (x3_1 + 1)))) ≤ a0
      · rw [if_pos c2] at H
        have c2b0 : decide ((wrap64 ((wrap64 (x3_1 + 1)) * (wrap64 (x3_1 + 1)))) ≤ a0) = true := decide_eq_true c2
        clear c2
        have H' := am H
        clear H
        go_wp2
        go_roundg k1
        case measure => have := HK1.out; omega
        case rel => exact ⟨(wrap64 (x3_1 + 1)), vv, H', ⟨by have := HK1.out; omega⟩, by repeat (first | exact Drawn0.refl _ | apply Drawn0.step)⟩
      · rw [if_neg c2] at H
        have c2b0 : decide ((wrap64 ((wrap64 (x3_1 + 1)) * (wrap64 (x3_1 + 1)))) ≤ a0) = false := decide_eq_false c2
        clear c2
        obtain rfl := Option.some.inj H
        go_wp2
        go_ret
        exact ⟨by first | rfl | (simp; done) | (simp [*]; done), by repeat (first | exact Drawn0.refl _ | apply Drawn0.step)⟩

/-! ### impl_reachOf: function 116 -/
def impl_reachOf.f (k : Nat) (a0_0 : Int) (a0_1 : Int) (a0_2 : (Nat → Int)) (a1_0 : Int) (a1_1 : Int) (a1_2 : Int) (a1_3 : Int) (a1_4 : Int) (a1_5 : Int) : Option (Int) := (impl_depth.f a0_0 a0_1 a0_2 a1_0 a1_1).bind fun t217 => (if (wrap64 ((wrap64 ((wrap64 (a1_2)) * (wrap64 (a1_2)))) - (wrap64 (t217 * t217)))) < 0 then (some (-1)) else ((impl_root.f k (wrap64 ((wrap64 ((wrap64 (a1_2)) * (wrap64 (a1_2)))) - (wrap64 (t217 * t217))))).bind fun t218 => (some t218)))
set_option maxHeartbeats 8000000 in
set_option maxRecDepth 100000 in
theorem impl_reachOf.calls (k : Nat) (a0_0 : Int) (a0_1 : Int) (a0_2 : (Nat → Int)) (a1_0 : Int) (a1_1 : Int) (a1_2 : Int) (a1_3 : Int) (a1_4 : Int) (a1_5 : Int) (r : Int) (w : World) (h : impl_reachOf.f k a0_0 a0_1 a0_2 a1_0 a1_1 a1_2 a1_3 a1_4 a1_5 = some r) :
    Calls Try.prog 116 #[.agg (csBay a0_0 a0_1 a0_2), .agg #[.int .i8 a1_0, .int .i8 a1_1, .int .i8 a1_2, .int .i8 a1_3, .int .i8 a1_4, .int .i8 a1_5]] w fun e w' => e = .returned (.int .i64 r) ∧ Below w.heap.size w w' := by
  have hu28 := Try.underlying28
  have hu38 := Try.underlying38
  have hu36 := Try.underlying36
  have HB := am (Below.refl w.heap.size w)
  have H : ((impl_depth.f a0_0 a0_1 a0_2 a1_0 a1_1).bind fun t217 => (if (wrap64 ((wrap64 ((wrap64 (a1_2)) * (wrap64 (a1_2)))) - (wrap64 (t217 * t217)))) < 0 then (some (-1)) else ((impl_root.f k (wrap64 ((wrap64 ((wrap64 (a1_2)) * (wrap64 (a1_2)))) - (wrap64 (t217 * t217))))).bind fun t218 => (some t218)))) = some r := h
  clear h
  replace H := Option.bind_eq_some_iff.mp H
  obtain ⟨t217, A30, H⟩ := H
  try dsimp only at H
  have A3 := am A30
  clear A30
  by_cases c4 : (wrap64 ((wrap64 ((wrap64 (a1_2)) * (wrap64 (a1_2)))) - (wrap64 (t217 * t217)))) < 0
  · rw [if_pos c4] at H
    have c4b0 : decide ((wrap64 ((wrap64 ((wrap64 (a1_2)) * (wrap64 (a1_2)))) - (wrap64 (t217 * t217)))) < 0) = true := decide_eq_true c4
    clear c4
    obtain rfl := Option.some.inj H
    go_enter Try.func116, Try.ntmps116
    go_wp2_with (first | ((with_reducible refine gate_dst (N := 2) rfl ?_); refine bxe (N := 2) (cs := (csBay a0_0 a0_1 a0_2)) (t := 28) ?_; intro gb215 hg w5 hbox hb; have BK215 := am (hbox); have GW215 := am (gN hg (below_size (be HB))); have GE215 := am (gN hg (below_size (be HB))); replace HB := am (below_step (be HB) hb); clear hb hbox hg) | ((with_reducible refine gate_dst (N := 3) rfl ?_); refine bxe (N := 3) (cs := #[.int .i8 a1_0, .int .i8 a1_1, .int .i8 a1_2, .int .i8 a1_3, .int .i8 a1_4, .int .i8 a1_5]) (t := 38) ?_; intro gb216 hg w6 hbox hb; have BK216 := am (hbox); have GW216 := am (gN hg (below_size (be HB))); have GE216 := am (gN hg (below_size (be HB))); have NB215_216 := nL BK215 hg; have NB216_215 := nR BK215 hg; replace BK215 := bB BK215 hb; replace HB := am (below_step (be HB) hb); clear hb hbox hg; have hnb7 := NB215_216.out; have hnc7 := NB216_215.out; have hcz8_0 : w6.cell? ⟨gb215, 0, none⟩ = some (.int .i8 a0_0) := (blk_cell BK215.out 0).trans rfl; have hcz8_1 : w6.cell? ⟨gb215, 1, none⟩ = some (.int .i8 a0_1) := (blk_cell BK215.out 1).trans rfl; have hwz8 := lv28_at BK215.out; have haz8 := at_cells BK215.out; have hyz8 := BayAt28_of BK215.out; have hvz8 := lvv_of BK215.out; have hfz8_0 := blk_frozen BK215.out 0; have hfz8_1 := blk_frozen BK215.out 1; have hfz8_2 := blk_frozen BK215.out 2; obtain ⟨hcz9_0, hcz9_1, hcz9_2, hcz9_3, hcz9_4, hcz9_5, hfz9_0, hfz9_1, hfz9_2, hfz9_3, hfz9_4, hfz9_5⟩ := bx6 BK216) | ((with_reducible refine gate_callee (f := 112) rfl ?_); refine gL (some 10) Try.func112 #[.agg (csBay a0_0 a0_1 a0_2), .agg #[.int .i8 a1_0, .int .i8 a1_1]] ?_; (with_reducible refine (impl_depth.calls a0_0 a0_1 a0_2 a1_0 a1_1 t217 _ A3.out).mono ?_); rintro e w10 ⟨rfl, hb⟩; refine ⟨_, rfl, ?_⟩; replace BK215 := bB BK215 hb; replace BK216 := bB BK216 hb; replace HB := am (below_step (be HB) hb); (try clear hb); (try clear hb2); (try clear hk); (try clear hi); obtain ⟨hcz11_0, hcz11_1, hcz11_2, hcz11_3, hcz11_4, hcz11_5, hfz11_0, hfz11_1, hfz11_2, hfz11_3, hfz11_4, hfz11_5⟩ := bx6 BK216))
    go_ret
    exact ⟨by first | rfl | (simp [errW_none, errW_some] <;> rfl) | (simp [*, errW_none, errW_some] <;> rfl), be HB⟩
  · rw [if_neg c4] at H
    have c4b0 : decide ((wrap64 ((wrap64 ((wrap64 (a1_2)) * (wrap64 (a1_2)))) - (wrap64 (t217 * t217)))) < 0) = false := decide_eq_false c4
    clear c4
    replace H := Option.bind_eq_some_iff.mp H
    obtain ⟨t218, A120, H⟩ := H
    try dsimp only at H
    have A12 := am A120
    clear A120
    obtain rfl := Option.some.inj H
    go_enter Try.func116, Try.ntmps116
    go_wp2_with (first | ((with_reducible refine gate_dst (N := 2) rfl ?_); refine bxe (N := 2) (cs := (csBay a0_0 a0_1 a0_2)) (t := 28) ?_; intro gb215 hg w13 hbox hb; have BK215 := am (hbox); have GW215 := am (gN hg (below_size (be HB))); have GE215 := am (gN hg (below_size (be HB))); replace HB := am (below_step (be HB) hb); clear hb hbox hg) | ((with_reducible refine gate_dst (N := 3) rfl ?_); refine bxe (N := 3) (cs := #[.int .i8 a1_0, .int .i8 a1_1, .int .i8 a1_2, .int .i8 a1_3, .int .i8 a1_4, .int .i8 a1_5]) (t := 38) ?_; intro gb216 hg w14 hbox hb; have BK216 := am (hbox); have GW216 := am (gN hg (below_size (be HB))); have GE216 := am (gN hg (below_size (be HB))); have NB215_216 := nL BK215 hg; have NB216_215 := nR BK215 hg; replace BK215 := bB BK215 hb; replace HB := am (below_step (be HB) hb); clear hb hbox hg; have hnb15 := NB215_216.out; have hnc15 := NB216_215.out; have hcz16_0 : w14.cell? ⟨gb215, 0, none⟩ = some (.int .i8 a0_0) := (blk_cell BK215.out 0).trans rfl; have hcz16_1 : w14.cell? ⟨gb215, 1, none⟩ = some (.int .i8 a0_1) := (blk_cell BK215.out 1).trans rfl; have hwz16 := lv28_at BK215.out; have haz16 := at_cells BK215.out; have hyz16 := BayAt28_of BK215.out; have hvz16 := lvv_of BK215.out; have hfz16_0 := blk_frozen BK215.out 0; have hfz16_1 := blk_frozen BK215.out 1; have hfz16_2 := blk_frozen BK215.out 2; obtain ⟨hcz17_0, hcz17_1, hcz17_2, hcz17_3, hcz17_4, hcz17_5, hfz17_0, hfz17_1, hfz17_2, hfz17_3, hfz17_4, hfz17_5⟩ := bx6 BK216) | ((with_reducible refine gate_callee (f := 112) rfl ?_); refine gL (some 10) Try.func112 #[.agg (csBay a0_0 a0_1 a0_2), .agg #[.int .i8 a1_0, .int .i8 a1_1]] ?_; (with_reducible refine (impl_depth.calls a0_0 a0_1 a0_2 a1_0 a1_1 t217 _ A3.out).mono ?_); rintro e w18 ⟨rfl, hb⟩; refine ⟨_, rfl, ?_⟩; replace BK215 := bB BK215 hb; replace BK216 := bB BK216 hb; replace HB := am (below_step (be HB) hb); (try clear hb); (try clear hb2); (try clear hk); (try clear hi); obtain ⟨hcz19_0, hcz19_1, hcz19_2, hcz19_3, hcz19_4, hcz19_5, hfz19_0, hfz19_1, hfz19_2, hfz19_3, hfz19_4, hfz19_5⟩ := bx6 BK216) | ((with_reducible refine gate_callee (f := 169) rfl ?_); refine gL (some 25) Try.func169 #[.int .i64 (wrap64 ((wrap64 ((wrap64 (a1_2)) * (wrap64 (a1_2)))) - (wrap64 (t217 * t217))))] ?_; (with_reducible refine (impl_root.calls k (wrap64 ((wrap64 ((wrap64 (a1_2)) * (wrap64 (a1_2)))) - (wrap64 (t217 * t217)))) t218 _ A12.out).mono ?_); rintro e w' ⟨rfl, ⟨nd, rfl⟩⟩; refine ⟨_, rfl, ?_⟩))
    go_ret
    exact ⟨by first | rfl | (simp [errW_none, errW_some] <;> rfl) | (simp [*, errW_none, errW_some] <;> rfl), be HB⟩

end Go.Proofs.Ytcollbifdfhfoaa.PFnExactIsSafe
