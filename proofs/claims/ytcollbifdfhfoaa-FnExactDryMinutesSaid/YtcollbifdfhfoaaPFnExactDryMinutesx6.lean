-- Written by a program out of this seat's translation (functions, and that the code comes to them).
import Derived.Test.YtcollbifdfhfoaaPFnExactDryMinutesx0
import Derived.Test.YtcollbifdfhfoaaPFnExactDryMinutesx5
namespace Go.Proofs.Ytcollbifdfhfoaa.PFnExactDryMinutes
open Go.RowKit Go.Proofs.YtcollbifdfhfoaaW.PrintWords Go.Proofs.YtcollbifdfhfoaaW.PrintLast Go.Proofs.YtcollbifdfhfoaaW.PrintMore
attribute [local go_sem] max2_int min2_int max_two min_two max_three min_three max_four min_four   -- for this text's walks alone
open Go.Proofs.Ytcollbifdfhfoaa.Bay Go.Proofs.Ytcollbifdfhfoaa.Short
attribute [local go_sem ↓] lv26_eq lv28_eq
attribute [local go_sem] lvv_set lvv_drewN lvv_drew lv26_run BayAt26_set BayAt26_drewN BayAt26_drew lv28_run BayAt28_set BayAt28_drewN BayAt28_drew
set_option linter.unusedVariables false
set_option linter.unusedSimpArgs false

/-! ### impl_ValidTides: function 148 -/
mutual
def impl_ValidTides.j0 : Nat → List (S103) → Bool → Option (Bool)
 | 0, _, _ => none
 | k + 1, x0, x13 => if x13 = true then (some false) else (impl_ValidTides.l0 k x0 x0 (x0.length : Int) 0)
def impl_ValidTides.l0 : Nat → List (S103) → List (S103) → Int → Int → Option (Bool)
 | 0, _, _, _, _ => none
 | k + 1, x0, x14, x15, x16 => if x16 < x15 then (if 0 ≤ x16 then (if x16 < (x14.length : Int) then (if ((rd_T103 x14 x16).f0) < 0 then (impl_ValidTides.j2 k x0 x16 x14 x15 x16 true ((rd_T103 x14 x16).f0) ((rd_T103 x14 x16).f1)) else (if ((rd_T103 x14 x16).f0) > 3000 then (impl_ValidTides.j2 k x0 x16 x14 x15 x16 true ((rd_T103 x14 x16).f0) ((rd_T103 x14 x16).f1)) else (if ((rd_T103 x14 x16).f1) < 0 then (impl_ValidTides.j2 k x0 x16 x14 x15 x16 true ((rd_T103 x14 x16).f0) ((rd_T103 x14 x16).f1)) else (impl_ValidTides.j2 k x0 x16 x14 x15 x16 (decide (((rd_T103 x14 x16).f1) > 100)) ((rd_T103 x14 x16).f0) ((rd_T103 x14 x16).f1))))) else (none)) else (none)) else (some true)
def impl_ValidTides.j2 : Nat → List (S103) → Int → List (S103) → Int → Int → Bool → Int → Int → Option (Bool)
 | 0, _, _, _, _, _, _, _, _ => none
 | k + 1, x0, x3, x14, x15, x16, x38, x229000, x229001 => if x38 = true then (some false) else (if x3 = 0 then (impl_ValidTides.l0 k x0 x14 x15 (wrap64 (x16 + 1))) else (if 0 ≤ (wrap64 (x3 - 1)) then (if (wrap64 (x3 - 1)) < (x0.length : Int) then (if x229000 < (IntKind.i16.wrap (((rd_T103 x0 (wrap64 (x3 - 1))).f0) + 6)) then (some false) else (if x229001 = ((rd_T103 x0 (wrap64 (x3 - 1))).f1) then (some false) else (if x3 > 1 then (if 0 ≤ (wrap64 (x3 - 2)) then (if (wrap64 (x3 - 2)) < (x0.length : Int) then (if ((decide (x229001 > ((rd_T103 x0 (wrap64 (x3 - 1))).f1))) == (decide (((rd_T103 x0 (wrap64 (x3 - 1))).f1) > ((rd_T103 x0 (wrap64 (x3 - 2))).f1)))) = true then (some false) else (impl_ValidTides.l0 k x0 x14 x15 (wrap64 (x16 + 1)))) else (none)) else (none)) else (impl_ValidTides.l0 k x0 x14 x15 (wrap64 (x16 + 1)))))) else (none)) else (none)))
end
def impl_ValidTides.f (k : Nat) (l0 : List (S103)) : Option (Bool) := if (l0.length : Int) < 2 then (impl_ValidTides.j0 k l0 true) else (impl_ValidTides.j0 k l0 (decide ((l0.length : Int) > 8)))
set_option maxHeartbeats 8000000 in
set_option maxRecDepth 100000 in
theorem impl_ValidTides.calls (k : Nat) (A0 : Option Addr) (c0 : Nat) (l0 : List (S103)) (r : Bool) (w : World) (hr0 : Kd.C k103 w A0 l0.length l0) (hc0 : l0.length ≤ c0) (h : impl_ValidTides.f k l0 = some r) :
  Calls Try.prog 148 #[.slice A0 l0.length c0] w fun e w' => e = .returned (.bool r) ∧ Below w.heap.size w w' := by
 have hu103 := Try.underlying103
 have HR0 := am hr0
 have HC0 := am hc0
 clear hr0 hc0
 have HB := am (Below.refl w.heap.size w)
 have H : (if (l0.length : Int) < 2 then (impl_ValidTides.j0 k l0 true) else (impl_ValidTides.j0 k l0 (decide ((l0.length : Int) > 8)))) = some r := h
 clear h
 have HC2 := am H
 clear H
 go_enter Try.func148, Try.ntmps148
 go_upto_region 1 with (fail)
 repeat (go_quiet (fail); go_upto_region 1 with (fail))
 go_cut [13] (fun v13 wc => ∃ (kq : Nat) (x13_1 : Bool), v13 = .bool x13_1 ∧ Aside0 (impl_ValidTides.j0 kq l0 x13_1 = some r) ∧ Aside0 (kq ≤ k) ∧ Aside0 (Below w.heap.size w wc))
 case first =>
  have H := HC2.out
  clear HC2
  by_cases c3 : (l0.length : Int) < 2
  ·rw [if_pos c3] at H
   have c3b0 : decide ((l0.length : Int) < 2) = true := decide_eq_true c3
   have c3b1 : decide (l0.length < 2) = true := decide_eq_true (by omega)
   clear c3
   (first | rw [c3b0] | (simp only [i64_w, i32_w]; rw [c3b0]) | skip)
   have H' := am H
   clear H
   go_wp2
   repeat (go_quiet (fail); try go_wp2)
   go_meet
   case rel => exact ⟨_, (true), vv, H', ⟨by first | omega | exact Nat.le_refl _⟩, ⟨be HB⟩⟩
  ·rw [if_neg c3] at H
   have c3b0 : decide ((l0.length : Int) < 2) = false := decide_eq_false c3
   have c3b1 : decide (l0.length < 2) = false := decide_eq_false (by omega)
   clear c3
   (first | rw [c3b0] | (simp only [i64_w, i32_w]; rw [c3b0]) | skip)
   have H' := am H
   clear H
   go_wp2
   repeat (go_quiet (fail); try go_wp2)
   go_meet
   case rel => exact ⟨_, (decide ((l0.length : Int) > 8)), vv, H', ⟨by first | omega | exact Nat.le_refl _⟩, ⟨be HB⟩⟩
 case rest =>
  clear HC2
  try clear c1
  try clear p2
  try clear c3
  try clear c3b0
  try clear c3b1
  obtain ⟨kq, x13_1, rfl, HA, HJ1, HB⟩ := hcut
  cases kq with
  | zero => exact absurd HA.out (by simp [impl_ValidTides.j0])
  | succ kj1 =>
   have H := HA.out
   clear HA
   simp only [impl_ValidTides.j0] at H
   by_cases c4 : x13_1 = true
   ·subst c4
    rw [if_pos rfl] at H
    obtain rfl := Option.some.inj H
    go_wp2
    repeat (go_quiet (fail); try go_wp2)
    go_ret
    exact ⟨by first | rfl | (simp [errW_none, errW_some] <;> rfl) | (simp [*, errW_none, errW_some] <;> rfl), be HB⟩
   ·replace c4 := Bool.eq_false_iff.mpr c4
    subst c4
    have H1 : (impl_ValidTides.l0 kj1 l0 l0 (l0.length : Int) 0) = some r := by rw [if_neg (show ¬ (false = true) by decide)] at H; exact H
    clear H
    have H := H1
    clear H1
    have H' := am H
    clear H
    go_wp2
    repeat (go_quiet (fail); try go_wp2)
    go_loopg [16] kj1 (fun kq v16 w' => ∃ (x16_2 : Int), v16 = .int .i64 x16_2 ∧ Aside0 (impl_ValidTides.l0 kq l0 l0 (l0.length : Int) x16_2 = some r) ∧ Aside0 (kq ≤ kj1) ∧ Aside0 (Below w.heap.size w w'))
    case atStart => exact ⟨(0), vv, H', ⟨Nat.le_refl _⟩, ⟨be HB⟩⟩
    case round =>
     clear H'
     try clear c1
     try clear p2
     try clear c3
     try clear c3b0
     try clear c3b1
     try clear c4
     try clear p2
     obtain ⟨x16_2, rfl, HA, HK2, HB⟩ := hrel
     cases gk with
     | zero => exact absurd HA.out (by simp [impl_ValidTides.l0])
     | succ k2 =>
      have H := HA.out
      clear HA
      simp only [impl_ValidTides.l0] at H
      by_cases c5 : x16_2 < (l0.length : Int)
      ·rw [if_pos c5] at H
       have c5b0 : decide (x16_2 < (l0.length : Int)) = true := decide_eq_true c5
       clear c5
       by_cases c6 : 0 ≤ x16_2
       ·rw [if_pos c6] at H
        have c6b0 : decide (0 ≤ x16_2) = true := decide_eq_true c6
        have c6b1 : 0 ≤ x16_2 := c6
        clear c6
        by_cases c7 : x16_2 < (l0.length : Int)
        ·rw [if_pos c7] at H
         have c7b0 : decide (x16_2 < (l0.length : Int)) = true := decide_eq_true c7
         clear c7
         have HC8 := am H
         clear H
         have p227 : 0 ≤ (x16_2 : Int) := of_decide_eq_true (by first | (with_reducible assumption) | assumption)
         have q227 : x16_2 < (l0.length : Int) := of_decide_eq_true (by first | (with_reducible assumption) | assumption)
         obtain ⟨ad227, e227, hx227_0, hx227_1⟩ := at_T103 HR0.out x16_2 p227 q227
         cases e227
         replace hx227_0 := (HB.out.cell (World.block_lt_of_cell? w _ hx227_0)).trans hx227_0
         replace hx227_1 := (HB.out.cell (World.block_lt_of_cell? w _ hx227_1)).trans hx227_1
         replace p227 := eq_true p227
         replace q227 := eq_true q227
         go_upto_region 6 with (first | ((with_reducible refine gate_dst (N := 4) rfl ?_); (try (refine gate_guard (by rfl) ?_; dsimp only)); refine bxe (N := 4) (cs := #[.int .i16 0, .int .i8 0]) (t := 103) ?_; intro gb228 hg w9 hbox hb; have BK228 := am (hbox); have GW228 := am (gN hg (below_size (be HB))); have GE228 := am (gN hg (below_size (be HB))); replace HB := am (below_step (be HB) hb); clear hb hbox hg; obtain ⟨hcz10_0, hcz10_1, hfz10_0, hfz10_1⟩ := bx2 BK228))
         repeat (go_quiet (first | ((with_reducible refine gate_dst (N := 4) rfl ?_); (try (refine gate_guard (by rfl) ?_; dsimp only)); refine bxe (N := 4) (cs := #[.int .i16 0, .int .i8 0]) (t := 103) ?_; intro gb228 hg w9 hbox hb; have BK228 := am (hbox); have GW228 := am (gN hg (below_size (be HB))); have GE228 := am (gN hg (below_size (be HB))); replace HB := am (below_step (be HB) hb); clear hb hbox hg; obtain ⟨hcz10_0, hcz10_1, hfz10_0, hfz10_1⟩ := bx2 BK228)); go_upto_region 6 with (first | ((with_reducible refine gate_dst (N := 4) rfl ?_); (try (refine gate_guard (by rfl) ?_; dsimp only)); refine bxe (N := 4) (cs := #[.int .i16 0, .int .i8 0]) (t := 103) ?_; intro gb228 hg w9 hbox hb; have BK228 := am (hbox); have GW228 := am (gN hg (below_size (be HB))); have GE228 := am (gN hg (below_size (be HB))); replace HB := am (below_step (be HB) hb); clear hb hbox hg; obtain ⟨hcz10_0, hcz10_1, hfz10_0, hfz10_1⟩ := bx2 BK228)))
         (try simp only [Act.put, List.setIfInBounds_toArray, List.set_cons_zero, List.set_cons_succ])
         go_cut [38] (fun v38 wc => ∃ (kq : Nat) (x38_7 : Bool), v38 = .bool x38_7 ∧ Aside0 (impl_ValidTides.j2 kq l0 x16_2 l0 (l0.length : Int) x16_2 x38_7 ((rd_T103 l0 x16_2).f0) ((rd_T103 l0 x16_2).f1) = some r) ∧ Aside0 (kq ≤ k2) ∧ Aside0 (wc.heap[gb228]? = some (.cells #[.int .i16 ((rd_T103 l0 x16_2).f0), .int .i8 ((rd_T103 l0 x16_2).f1)] 103 (0, 0))) ∧ Aside0 (Below w.heap.size w wc))
         case first =>
          have H := HC8.out
          clear HC8
          by_cases c11 : ((rd_T103 l0 x16_2).f0) < 0
          ·rw [if_pos c11] at H
           have c11b0 : decide (((rd_T103 l0 x16_2).f0) < 0) = true := decide_eq_true c11
           clear c11
           (first | rw [c11b0] | (simp only [i64_w, i32_w]; rw [c11b0]) | skip)
           have H' := am H
           clear H
           obtain ⟨hcz12_0, hcz12_1, hfz12_0, hfz12_1⟩ := bx2 BK228
           go_wp2
           repeat (go_quiet (fail); try go_wp2)
           go_meet
           case rel => exact ⟨_, (true), vv, H', ⟨by have := HJ1.out; have := HK2.out; first | omega | exact Nat.le_refl _⟩, ⟨by (with_reducible repeat (first | refine blk_drewN ?_ _ | refine blk_drew ?_ | refine blk_alloc ?_ _)); refine blk_put (cs := #[.int .i16 ((rd_T103 l0 x16_2).f0), .int .i8 0]) ?_ 1 _ rfl; (with_reducible repeat (first | refine blk_drewN ?_ _ | refine blk_drew ?_ | refine blk_alloc ?_ _)); refine blk_put (cs := #[.int .i16 0, .int .i8 0]) ?_ 0 _ rfl; exact kb BK228⟩, ⟨be HB⟩⟩
          ·rw [if_neg c11] at H
           have c11b0 : decide (((rd_T103 l0 x16_2).f0) < 0) = false := decide_eq_false c11
           clear c11
           (first | rw [c11b0] | (simp only [i64_w, i32_w]; rw [c11b0]) | skip)
           by_cases c13 : ((rd_T103 l0 x16_2).f0) > 3000
           ·rw [if_pos c13] at H
            have c13b0 : decide (3000 < ((rd_T103 l0 x16_2).f0)) = true := decide_eq_true c13
            clear c13
            have H' := am H
            clear H
            obtain ⟨hcz14_0, hcz14_1, hfz14_0, hfz14_1⟩ := bx2 BK228
            go_wp2
            repeat (go_quiet (fail); try go_wp2)
            go_meet
            case rel => exact ⟨_, (true), vv, H', ⟨by have := HJ1.out; have := HK2.out; first | omega | exact Nat.le_refl _⟩, ⟨by (with_reducible repeat (first | refine blk_drewN ?_ _ | refine blk_drew ?_ | refine blk_alloc ?_ _)); refine blk_put (cs := #[.int .i16 ((rd_T103 l0 x16_2).f0), .int .i8 0]) ?_ 1 _ rfl; (with_reducible repeat (first | refine blk_drewN ?_ _ | refine blk_drew ?_ | refine blk_alloc ?_ _)); refine blk_put (cs := #[.int .i16 0, .int .i8 0]) ?_ 0 _ rfl; exact kb BK228⟩, ⟨be HB⟩⟩
           ·rw [if_neg c13] at H
            have c13b0 : decide (3000 < ((rd_T103 l0 x16_2).f0)) = false := decide_eq_false c13
            clear c13
            by_cases c15 : ((rd_T103 l0 x16_2).f1) < 0
            ·rw [if_pos c15] at H
             have c15b0 : decide (((rd_T103 l0 x16_2).f1) < 0) = true := decide_eq_true c15
             clear c15
             have H' := am H
             clear H
             obtain ⟨hcz16_0, hcz16_1, hfz16_0, hfz16_1⟩ := bx2 BK228
             go_wp2
             repeat (go_quiet (fail); try go_wp2)
             go_meet
             case rel => exact ⟨_, (true), vv, H', ⟨by have := HJ1.out; have := HK2.out; first | omega | exact Nat.le_refl _⟩, ⟨by (with_reducible repeat (first | refine blk_drewN ?_ _ | refine blk_drew ?_ | refine blk_alloc ?_ _)); refine blk_put (cs := #[.int .i16 ((rd_T103 l0 x16_2).f0), .int .i8 0]) ?_ 1 _ rfl; (with_reducible repeat (first | refine blk_drewN ?_ _ | refine blk_drew ?_ | refine blk_alloc ?_ _)); refine blk_put (cs := #[.int .i16 0, .int .i8 0]) ?_ 0 _ rfl; exact kb BK228⟩, ⟨be HB⟩⟩
            ·rw [if_neg c15] at H
             have c15b0 : decide (((rd_T103 l0 x16_2).f1) < 0) = false := decide_eq_false c15
             clear c15
             have H' := am H
             clear H
             obtain ⟨hcz17_0, hcz17_1, hfz17_0, hfz17_1⟩ := bx2 BK228
             go_wp2
             repeat (go_quiet (fail); try go_wp2)
             go_meet
             case rel => exact ⟨_, (decide (((rd_T103 l0 x16_2).f1) > 100)), vv, H', ⟨by have := HJ1.out; have := HK2.out; first | omega | exact Nat.le_refl _⟩, ⟨by (with_reducible repeat (first | refine blk_drewN ?_ _ | refine blk_drew ?_ | refine blk_alloc ?_ _)); refine blk_put (cs := #[.int .i16 ((rd_T103 l0 x16_2).f0), .int .i8 0]) ?_ 1 _ rfl; (with_reducible repeat (first | refine blk_drewN ?_ _ | refine blk_drew ?_ | refine blk_alloc ?_ _)); refine blk_put (cs := #[.int .i16 0, .int .i8 0]) ?_ 0 _ rfl; exact kb BK228⟩, ⟨be HB⟩⟩
         case rest =>
          clear HC8
          try clear c1
          try clear p2
          try clear q2
          try clear hx2
          try clear c3
          try clear c3b0
          try clear c3b1
          try clear c4
          try clear c5
          try clear c5b0
          try clear c6
          try clear c6b0
          try clear c6b1
          try clear c7
          try clear c7b0
          try clear c11
          try clear c11b0
          try clear c13
          try clear c13b0
          try clear c14
          try clear c15
          try clear c15b0
          try clear hcz10_0
          try clear hcz10_1
          try clear hcz12_0
          try clear hcz12_1
          try clear hcz14_0
          try clear hcz14_1
          try clear hcz16_0
          try clear hcz16_1
          try clear hcz17_0
          try clear hcz17_1
          try clear hfz10_0
          try clear hfz10_1
          try clear hfz12_0
          try clear hfz12_1
          try clear hfz14_0
          try clear hfz14_1
          try clear hfz16_0
          try clear hfz16_1
          try clear hfz17_0
          try clear hfz17_1
          try clear hx227_0
          try clear hx227_1
          try clear p2
          try clear p227
          try clear q227
          obtain ⟨kq, x38_7, rfl, HA, HJ7, BK228, HB⟩ := hcut
          cases kq with
          | zero => exact absurd HA.out (by simp [impl_ValidTides.j2])
          | succ kj7 =>
           have H := HA.out
           clear HA
           simp only [impl_ValidTides.j2] at H
           by_cases c18 : x38_7 = true
           ·subst c18
            rw [if_pos rfl] at H
            obtain rfl := Option.some.inj H
            go_wp2
            repeat (go_quiet (fail); try go_wp2)
            go_ret
            exact ⟨by first | rfl | (simp [errW_none, errW_some] <;> rfl) | (simp [*, errW_none, errW_some] <;> rfl), be HB⟩
           ·replace c18 := Bool.eq_false_iff.mpr c18
            subst c18
            have H1 : (if x16_2 = 0 then (impl_ValidTides.l0 kj7 l0 l0 (l0.length : Int) (wrap64 (x16_2 + 1))) else (if 0 ≤ (wrap64 (x16_2 - 1)) then (if (wrap64 (x16_2 - 1)) < (l0.length : Int) then (if ((rd_T103 l0 x16_2).f0) < (IntKind.i16.wrap (((rd_T103 l0 (wrap64 (x16_2 - 1))).f0) + 6)) then (some false) else (if ((rd_T103 l0 x16_2).f1) = ((rd_T103 l0 (wrap64 (x16_2 - 1))).f1) then (some false) else (if x16_2 > 1 then (if 0 ≤ (wrap64 (x16_2 - 2)) then (if (wrap64 (x16_2 - 2)) < (l0.length : Int) then (if ((decide (((rd_T103 l0 x16_2).f1) > ((rd_T103 l0 (wrap64 (x16_2 - 1))).f1))) == (decide (((rd_T103 l0 (wrap64 (x16_2 - 1))).f1) > ((rd_T103 l0 (wrap64 (x16_2 - 2))).f1)))) = true then (some false) else (impl_ValidTides.l0 kj7 l0 l0 (l0.length : Int) (wrap64 (x16_2 + 1)))) else (none)) else (none)) else (impl_ValidTides.l0 kj7 l0 l0 (l0.length : Int) (wrap64 (x16_2 + 1)))))) else (none)) else (none))) = some r := by rw [if_neg (show ¬ (false = true) by decide)] at H; exact H
            clear H
            have H := H1
            clear H1
            by_cases c19 : x16_2 = 0
            ·rw [if_pos c19] at H
             have c19b0 : (x16_2 == 0) = true := beq_iff_eq.mpr c19
             have c19b1 : (x16_2 != 0) = false := bne_eq_false_iff_eq.mpr c19
             clear c19
             have H' := am H
             clear H
             go_wp2
             repeat (go_quiet (fail); try go_wp2)
             go_roundg kj7
             case measure => have := HJ1.out; have := HK2.out; have := HJ7.out; omega
             case rel => exact ⟨(wrap64 (x16_2 + 1)), vv, H', ⟨by have := HJ1.out; have := HK2.out; have := HJ7.out; omega⟩, ⟨be HB⟩⟩
            ·rw [if_neg c19] at H
             have c19b0 : (x16_2 == 0) = false := beq_eq_false_iff_ne.mpr c19
             have c19b1 : (x16_2 != 0) = true := bne_iff_ne.mpr c19
             obtain ⟨ji20, hji20⟩ : ∃ j_ : Int, (wrap64 (x16_2 - 1)) = j_ := ⟨_, rfl⟩
             replace H : (if 0 ≤ (ji20) then (if (ji20) < (l0.length : Int) then (if ((rd_T103 l0 x16_2).f0) < (IntKind.i16.wrap (((rd_T103 l0 (ji20)).f0) + 6)) then (some false) else (if ((rd_T103 l0 x16_2).f1) = ((rd_T103 l0 (ji20)).f1) then (some false) else (if x16_2 > 1 then (if 0 ≤ (wrap64 (x16_2 - 2)) then (if (wrap64 (x16_2 - 2)) < (l0.length : Int) then (if ((decide (((rd_T103 l0 x16_2).f1) > ((rd_T103 l0 (ji20)).f1))) == (decide (((rd_T103 l0 (ji20)).f1) > ((rd_T103 l0 (wrap64 (x16_2 - 2))).f1)))) = true then (some false) else (impl_ValidTides.l0 kj7 l0 l0 (l0.length : Int) (wrap64 (x16_2 + 1)))) else (none)) else (none)) else (impl_ValidTides.l0 kj7 l0 l0 (l0.length : Int) (wrap64 (x16_2 + 1)))))) else (none)) else (none)) = some r := by first | (rw [hji20] at H; exact H) | (simp only [hji20] at H ⊢; exact H)
             have hji20w : (IntKind.i64.wrap (x16_2 - 1)) = ji20 := (i64_w _).trans hji20
             by_cases c21 : 0 ≤ (ji20)
             ·rw [if_pos c21] at H
              have c21b0 : decide (0 ≤ (ji20)) = true := decide_eq_true c21
              have c21b1 : 0 ≤ (ji20) := c21
              clear c21
              by_cases c22 : (ji20) < (l0.length : Int)
              ·rw [if_pos c22] at H
               have c22b0 : decide ((ji20) < (l0.length : Int)) = true := decide_eq_true c22
               clear c22
               by_cases c23 : ((rd_T103 l0 x16_2).f0) < (IntKind.i16.wrap (((rd_T103 l0 (ji20)).f0) + 6))
               ·rw [if_pos c23] at H
                have c23b0 : decide (((rd_T103 l0 x16_2).f0) < (IntKind.i16.wrap (((rd_T103 l0 (ji20)).f0) + 6))) = true := decide_eq_true c23
                clear c23
                obtain rfl := Option.some.inj H
                have p229 : 0 ≤ ((ji20) : Int) := of_decide_eq_true (by first | (with_reducible assumption) | assumption)
                have q229 : (ji20) < (l0.length : Int) := of_decide_eq_true (by first | (with_reducible assumption) | assumption)
                obtain ⟨ad229, e229, hx229_0, hx229_1⟩ := at_T103 HR0.out (ji20) p229 q229
                obtain rfl : ad227 = ad229 := (by injection e229)
                replace hx229_0 := (HB.out.cell (World.block_lt_of_cell? w _ hx229_0)).trans hx229_0
                replace hx229_1 := (HB.out.cell (World.block_lt_of_cell? w _ hx229_1)).trans hx229_1
                replace p229 := eq_true p229
                replace q229 := eq_true q229
                go_wp2_with (first | ((with_reducible refine gate_dst (N := 5) rfl ?_); (try (refine gate_guard (by rfl) ?_; dsimp only)); refine bxe (N := 5) (cs := #[.int .i16 0, .int .i8 0]) (t := 103) ?_; intro gb230 hg w24 hbox hb; have BK230 := am (hbox); have GW230 := am (gN hg (below_size (be HB))); have GE230 := am (gN hg (below_size (be HB))); have NB228_230 := nL BK228 hg; have NB230_228 := nR BK228 hg; replace BK228 := bB BK228 hb; replace HB := am (below_step (be HB) hb); clear hb hbox hg; have hnb25 := NB230_228.out; have hnc25 := NB228_230.out; obtain ⟨hcz26_0, hcz26_1, hfz26_0, hfz26_1⟩ := bx2 BK230; obtain ⟨hcz27_0, hcz27_1, hfz27_0, hfz27_1⟩ := bx2 BK228))
                repeat (go_quiet (first | ((with_reducible refine gate_dst (N := 5) rfl ?_); (try (refine gate_guard (by rfl) ?_; dsimp only)); refine bxe (N := 5) (cs := #[.int .i16 0, .int .i8 0]) (t := 103) ?_; intro gb230 hg w24 hbox hb; have BK230 := am (hbox); have GW230 := am (gN hg (below_size (be HB))); have GE230 := am (gN hg (below_size (be HB))); have NB228_230 := nL BK228 hg; have NB230_228 := nR BK228 hg; replace BK228 := bB BK228 hb; replace HB := am (below_step (be HB) hb); clear hb hbox hg; have hnb25 := NB230_228.out; have hnc25 := NB228_230.out; obtain ⟨hcz26_0, hcz26_1, hfz26_0, hfz26_1⟩ := bx2 BK230; obtain ⟨hcz27_0, hcz27_1, hfz27_0, hfz27_1⟩ := bx2 BK228)); try go_wp2_with (first | ((with_reducible refine gate_dst (N := 5) rfl ?_); (try (refine gate_guard (by rfl) ?_; dsimp only)); refine bxe (N := 5) (cs := #[.int .i16 0, .int .i8 0]) (t := 103) ?_; intro gb230 hg w24 hbox hb; have BK230 := am (hbox); have GW230 := am (gN hg (below_size (be HB))); have GE230 := am (gN hg (below_size (be HB))); have NB228_230 := nL BK228 hg; have NB230_228 := nR BK228 hg; replace BK228 := bB BK228 hb; replace HB := am (below_step (be HB) hb); clear hb hbox hg; have hnb25 := NB230_228.out; have hnc25 := NB228_230.out; obtain ⟨hcz26_0, hcz26_1, hfz26_0, hfz26_1⟩ := bx2 BK230; obtain ⟨hcz27_0, hcz27_1, hfz27_0, hfz27_1⟩ := bx2 BK228)))
                go_ret
                exact ⟨by first | rfl | (simp [errW_none, errW_some] <;> rfl) | (simp only [← hji20]; first | rfl | (simp [errW_none, errW_some] <;> rfl)) | (simp [*, errW_none, errW_some] <;> rfl), be HB⟩
               ·rw [if_neg c23] at H
                have c23b0 : decide (((rd_T103 l0 x16_2).f0) < (IntKind.i16.wrap (((rd_T103 l0 (ji20)).f0) + 6))) = false := decide_eq_false c23
                clear c23
                by_cases c28 : ((rd_T103 l0 x16_2).f1) = ((rd_T103 l0 (ji20)).f1)
                ·rw [if_pos c28] at H
                 have c28b0 : (((rd_T103 l0 x16_2).f1) == ((rd_T103 l0 (ji20)).f1)) = true := beq_iff_eq.mpr c28
                 have c28b1 : (((rd_T103 l0 x16_2).f1) != ((rd_T103 l0 (ji20)).f1)) = false := bne_eq_false_iff_eq.mpr c28
                 clear c28
                 obtain rfl := Option.some.inj H
                 have p229 : 0 ≤ ((ji20) : Int) := of_decide_eq_true (by first | (with_reducible assumption) | assumption)
                 have q229 : (ji20) < (l0.length : Int) := of_decide_eq_true (by first | (with_reducible assumption) | assumption)
                 obtain ⟨ad229, e229, hx229_0, hx229_1⟩ := at_T103 HR0.out (ji20) p229 q229
                 obtain rfl : ad227 = ad229 := (by injection e229)
                 replace hx229_0 := (HB.out.cell (World.block_lt_of_cell? w _ hx229_0)).trans hx229_0
                 replace hx229_1 := (HB.out.cell (World.block_lt_of_cell? w _ hx229_1)).trans hx229_1
                 replace p229 := eq_true p229
                 replace q229 := eq_true q229
                 go_wp2_with (first | ((with_reducible refine gate_dst (N := 5) rfl ?_); (try (refine gate_guard (by rfl) ?_; dsimp only)); refine bxe (N := 5) (cs := #[.int .i16 0, .int .i8 0]) (t := 103) ?_; intro gb230 hg w29 hbox hb; have BK230 := am (hbox); have GW230 := am (gN hg (below_size (be HB))); have GE230 := am (gN hg (below_size (be HB))); have NB228_230 := nL BK228 hg; have NB230_228 := nR BK228 hg; replace BK228 := bB BK228 hb; replace HB := am (below_step (be HB) hb); clear hb hbox hg; have hnb30 := NB230_228.out; have hnc30 := NB228_230.out; obtain ⟨hcz31_0, hcz31_1, hfz31_0, hfz31_1⟩ := bx2 BK230; obtain ⟨hcz32_0, hcz32_1, hfz32_0, hfz32_1⟩ := bx2 BK228))
                 repeat (go_quiet (first | ((with_reducible refine gate_dst (N := 5) rfl ?_); (try (refine gate_guard (by rfl) ?_; dsimp only)); refine bxe (N := 5) (cs := #[.int .i16 0, .int .i8 0]) (t := 103) ?_; intro gb230 hg w29 hbox hb; have BK230 := am (hbox); have GW230 := am (gN hg (below_size (be HB))); have GE230 := am (gN hg (below_size (be HB))); have NB228_230 := nL BK228 hg; have NB230_228 := nR BK228 hg; replace BK228 := bB BK228 hb; replace HB := am (below_step (be HB) hb); clear hb hbox hg; have hnb30 := NB230_228.out; have hnc30 := NB228_230.out; obtain ⟨hcz31_0, hcz31_1, hfz31_0, hfz31_1⟩ := bx2 BK230; obtain ⟨hcz32_0, hcz32_1, hfz32_0, hfz32_1⟩ := bx2 BK228)); try go_wp2_with (first | ((with_reducible refine gate_dst (N := 5) rfl ?_); (try (refine gate_guard (by rfl) ?_; dsimp only)); refine bxe (N := 5) (cs := #[.int .i16 0, .int .i8 0]) (t := 103) ?_; intro gb230 hg w29 hbox hb; have BK230 := am (hbox); have GW230 := am (gN hg (below_size (be HB))); have GE230 := am (gN hg (below_size (be HB))); have NB228_230 := nL BK228 hg; have NB230_228 := nR BK228 hg; replace BK228 := bB BK228 hb; replace HB := am (below_step (be HB) hb); clear hb hbox hg; have hnb30 := NB230_228.out; have hnc30 := NB228_230.out; obtain ⟨hcz31_0, hcz31_1, hfz31_0, hfz31_1⟩ := bx2 BK230; obtain ⟨hcz32_0, hcz32_1, hfz32_0, hfz32_1⟩ := bx2 BK228)))
                 go_ret
                 exact ⟨by first | rfl | (simp [errW_none, errW_some] <;> rfl) | (simp only [← hji20]; first | rfl | (simp [errW_none, errW_some] <;> rfl)) | (simp [*, errW_none, errW_some] <;> rfl), be HB⟩
                ·rw [if_neg c28] at H
                 have c28b0 : (((rd_T103 l0 x16_2).f1) == ((rd_T103 l0 (ji20)).f1)) = false := beq_eq_false_iff_ne.mpr c28
                 have c28b1 : (((rd_T103 l0 x16_2).f1) != ((rd_T103 l0 (ji20)).f1)) = true := bne_iff_ne.mpr c28
                 by_cases c33 : x16_2 > 1
                 ·rw [if_pos c33] at H
                  have c33b0 : decide (1 < x16_2) = true := decide_eq_true c33
                  clear c33
                  obtain ⟨ji34, hji34⟩ : ∃ j_ : Int, (wrap64 (x16_2 - 2)) = j_ := ⟨_, rfl⟩
                  replace H : (if 0 ≤ (ji34) then (if (ji34) < (l0.length : Int) then (if ((decide (((rd_T103 l0 x16_2).f1) > ((rd_T103 l0 (ji20)).f1))) == (decide (((rd_T103 l0 (ji20)).f1) > ((rd_T103 l0 (ji34)).f1)))) = true then (some false) else (impl_ValidTides.l0 kj7 l0 l0 (l0.length : Int) (wrap64 (x16_2 + 1)))) else (none)) else (none)) = some r := by first | (rw [hji34] at H; exact H) | (simp only [hji34] at H ⊢; exact H)
                  have hji34w : (IntKind.i64.wrap (x16_2 - 2)) = ji34 := (i64_w _).trans hji34
                  by_cases c35 : 0 ≤ (ji34)
                  ·rw [if_pos c35] at H
                   have c35b0 : decide (0 ≤ (ji34)) = true := decide_eq_true c35
                   have c35b1 : 0 ≤ (ji34) := c35
                   clear c35
                   by_cases c36 : (ji34) < (l0.length : Int)
                   ·rw [if_pos c36] at H
                    have c36b0 : decide ((ji34) < (l0.length : Int)) = true := decide_eq_true c36
                    clear c36
                    by_cases c37 : ((decide (((rd_T103 l0 x16_2).f1) > ((rd_T103 l0 (ji20)).f1))) == (decide (((rd_T103 l0 (ji20)).f1) > ((rd_T103 l0 (ji34)).f1)))) = true
                    ·rw [if_pos c37] at H
                     have c37b0 : ((decide (((rd_T103 l0 x16_2).f1) > ((rd_T103 l0 (ji20)).f1))) == (decide (((rd_T103 l0 (ji20)).f1) > ((rd_T103 l0 (ji34)).f1)))) = true := c37
                     (try (have c37b1 : decide ((decide (((rd_T103 l0 x16_2).f1) > ((rd_T103 l0 (ji20)).f1))) = (decide (((rd_T103 l0 (ji20)).f1) > ((rd_T103 l0 (ji34)).f1)))) = true := by simpa using c37))
                     (try (have c37b2 : ((decide (((rd_T103 l0 x16_2).f1) > ((rd_T103 l0 (ji20)).f1))) == (decide (((rd_T103 l0 (ji20)).f1) > ((rd_T103 l0 (ji34)).f1)))) = true := by simpa using c37))
                     clear c37
                     obtain rfl := Option.some.inj H
                     have p229 : 0 ≤ ((ji20) : Int) := of_decide_eq_true (by first | (with_reducible assumption) | assumption)
                     have q229 : (ji20) < (l0.length : Int) := of_decide_eq_true (by first | (with_reducible assumption) | assumption)
                     obtain ⟨ad229, e229, hx229_0, hx229_1⟩ := at_T103 HR0.out (ji20) p229 q229
                     obtain rfl : ad227 = ad229 := (by injection e229)
                     replace hx229_0 := (HB.out.cell (World.block_lt_of_cell? w _ hx229_0)).trans hx229_0
                     replace hx229_1 := (HB.out.cell (World.block_lt_of_cell? w _ hx229_1)).trans hx229_1
                     replace p229 := eq_true p229
                     replace q229 := eq_true q229
                     go_wp2_with (first | ((with_reducible refine gate_dst (N := 5) rfl ?_); (try (refine gate_guard (by rfl) ?_; dsimp only)); refine bxe (N := 5) (cs := #[.int .i16 0, .int .i8 0]) (t := 103) ?_; intro gb230 hg w38 hbox hb; have BK230 := am (hbox); have GW230 := am (gN hg (below_size (be HB))); have GE230 := am (gN hg (below_size (be HB))); have NB228_230 := nL BK228 hg; have NB230_228 := nR BK228 hg; replace BK228 := bB BK228 hb; replace HB := am (below_step (be HB) hb); clear hb hbox hg; have hnb39 := NB230_228.out; have hnc39 := NB228_230.out; obtain ⟨hcz40_0, hcz40_1, hfz40_0, hfz40_1⟩ := bx2 BK230; obtain ⟨hcz41_0, hcz41_1, hfz41_0, hfz41_1⟩ := bx2 BK228; have p231 : 0 ≤ ((ji34) : Int) := of_decide_eq_true (by first | (with_reducible assumption) | assumption); have q231 : (ji34) < (l0.length : Int) := of_decide_eq_true (by first | (with_reducible assumption) | assumption); obtain ⟨ad231, e231, hx231_0, hx231_1⟩ := at_T103 HR0.out (ji34) p231 q231; obtain rfl : ad227 = ad231 := (by injection e231); have hn231_0 : ad227.block ≠ gb230 := Nat.ne_of_lt (Nat.lt_of_lt_of_le (by have := World.block_lt_of_cell? _ _ hx231_0; first | rwa [add_block] at this | exact this) GW230.out); have hn231_1 : ad227.block ≠ gb230 := Nat.ne_of_lt (Nat.lt_of_lt_of_le (by have := World.block_lt_of_cell? _ _ hx231_0; first | rwa [add_block] at this | exact this) GW230.out); replace hx231_0 := (HB.out.cell (World.block_lt_of_cell? w _ hx231_0)).trans hx231_0; replace hx231_1 := (HB.out.cell (World.block_lt_of_cell? w _ hx231_1)).trans hx231_1; replace hx231_0 := (cell_far (p := ⟨gb230, 0, none⟩) (by first | (rw [add_block]; exact hn231_0) | (show (Addr.add _ _).block ≠ _; rw [add_block]; exact hn231_0) | exact hn231_0) (.int .i16 ((rd_T103 l0 (ji20)).f0))).trans hx231_0; replace hx231_1 := (cell_far (p := ⟨gb230, 0, none⟩) (by first | (rw [add_block]; exact hn231_0) | (show (Addr.add _ _).block ≠ _; rw [add_block]; exact hn231_0) | exact hn231_0) (.int .i16 ((rd_T103 l0 (ji20)).f0))).trans hx231_1; replace hx231_0 := (cell_far (p := ⟨gb230, 1, none⟩) (by first | (rw [add_block]; exact hn231_1) | (show (Addr.add _ _).block ≠ _; rw [add_block]; exact hn231_1) | exact hn231_1) (.int .i8 ((rd_T103 l0 (ji20)).f1))).trans hx231_0; replace hx231_1 := (cell_far (p := ⟨gb230, 1, none⟩) (by first | (rw [add_block]; exact hn231_1) | (show (Addr.add _ _).block ≠ _; rw [add_block]; exact hn231_1) | exact hn231_1) (.int .i8 ((rd_T103 l0 (ji20)).f1))).trans hx231_1; (try have hy231_0 := fun (n_ : Nat) => (show ((((w38.drewN n_).setCell ⟨gb230, 0, none⟩ (.int .i16 ((rd_T103 l0 (ji20)).f0))).setCell ⟨gb230, 1, none⟩ (.int .i8 ((rd_T103 l0 (ji20)).f1)))).cell? _ = some _ from hx231_0)); (try have hy231_1 := fun (n_ : Nat) => (show ((((w38.drewN n_).setCell ⟨gb230, 0, none⟩ (.int .i16 ((rd_T103 l0 (ji20)).f0))).setCell ⟨gb230, 1, none⟩ (.int .i8 ((rd_T103 l0 (ji20)).f1)))).cell? _ = some _ from hx231_1)); clear hn231_0; clear hn231_1; replace p231 := eq_true p231; replace q231 := eq_true q231))
                     repeat (go_quiet (first | ((with_reducible refine gate_dst (N := 5) rfl ?_); (try (refine gate_guard (by rfl) ?_; dsimp only)); refine bxe (N := 5) (cs := #[.int .i16 0, .int .i8 0]) (t := 103) ?_; intro gb230 hg w38 hbox hb; have BK230 := am (hbox); have GW230 := am (gN hg (below_size (be HB))); have GE230 := am (gN hg (below_size (be HB))); have NB228_230 := nL BK228 hg; have NB230_228 := nR BK228 hg; replace BK228 := bB BK228 hb; replace HB := am (below_step (be HB) hb); clear hb hbox hg; have hnb39 := NB230_228.out; have hnc39 := NB228_230.out; obtain ⟨hcz40_0, hcz40_1, hfz40_0, hfz40_1⟩ := bx2 BK230; obtain ⟨hcz41_0, hcz41_1, hfz41_0, hfz41_1⟩ := bx2 BK228; have p231 : 0 ≤ ((ji34) : Int) := of_decide_eq_true (by first | (with_reducible assumption) | assumption); have q231 : (ji34) < (l0.length : Int) := of_decide_eq_true (by first | (with_reducible assumption) | assumption); obtain ⟨ad231, e231, hx231_0, hx231_1⟩ := at_T103 HR0.out (ji34) p231 q231; obtain rfl : ad227 = ad231 := (by injection e231); have hn231_0 : ad227.block ≠ gb230 := Nat.ne_of_lt (Nat.lt_of_lt_of_le (by have := World.block_lt_of_cell? _ _ hx231_0; first | rwa [add_block] at this | exact this) GW230.out); have hn231_1 : ad227.block ≠ gb230 := Nat.ne_of_lt (Nat.lt_of_lt_of_le (by have := World.block_lt_of_cell? _ _ hx231_0; first | rwa [add_block] at this | exact this) GW230.out); replace hx231_0 := (HB.out.cell (World.block_lt_of_cell? w _ hx231_0)).trans hx231_0; replace hx231_1 := (HB.out.cell (World.block_lt_of_cell? w _ hx231_1)).trans hx231_1; replace hx231_0 := (cell_far (p := ⟨gb230, 0, none⟩) (by first | (rw [add_block]; exact hn231_0) | (show (Addr.add _ _).block ≠ _; rw [add_block]; exact hn231_0) | exact hn231_0) (.int .i16 ((rd_T103 l0 (ji20)).f0))).trans hx231_0; replace hx231_1 := (cell_far (p := ⟨gb230, 0, none⟩) (by first | (rw [add_block]; exact hn231_0) | (show (Addr.add _ _).block ≠ _; rw [add_block]; exact hn231_0) | exact hn231_0) (.int .i16 ((rd_T103 l0 (ji20)).f0))).trans hx231_1; replace hx231_0 := (cell_far (p := ⟨gb230, 1, none⟩) (by first | (rw [add_block]; exact hn231_1) | (show (Addr.add _ _).block ≠ _; rw [add_block]; exact hn231_1) | exact hn231_1) (.int .i8 ((rd_T103 l0 (ji20)).f1))).trans hx231_0; replace hx231_1 := (cell_far (p := ⟨gb230, 1, none⟩) (by first | (rw [add_block]; exact hn231_1) | (show (Addr.add _ _).block ≠ _; rw [add_block]; exact hn231_1) | exact hn231_1) (.int .i8 ((rd_T103 l0 (ji20)).f1))).trans hx231_1; (try have hy231_0 := fun (n_ : Nat) => (show ((((w38.drewN n_).setCell ⟨gb230, 0, none⟩ (.int .i16 ((rd_T103 l0 (ji20)).f0))).setCell ⟨gb230, 1, none⟩ (.int .i8 ((rd_T103 l0 (ji20)).f1)))).cell? _ = some _ from hx231_0)); (try have hy231_1 := fun (n_ : Nat) => (show ((((w38.drewN n_).setCell ⟨gb230, 0, none⟩ (.int .i16 ((rd_T103 l0 (ji20)).f0))).setCell ⟨gb230, 1, none⟩ (.int .i8 ((rd_T103 l0 (ji20)).f1)))).cell? _ = some _ from hx231_1)); clear hn231_0; clear hn231_1; replace p231 := eq_true p231; replace q231 := eq_true q231)); try go_wp2_with (first | ((with_reducible refine gate_dst (N := 5) rfl ?_); (try (refine gate_guard (by rfl) ?_; dsimp only)); refine bxe (N := 5) (cs := #[.int .i16 0, .int .i8 0]) (t := 103) ?_; intro gb230 hg w38 hbox hb; have BK230 := am (hbox); have GW230 := am (gN hg (below_size (be HB))); have GE230 := am (gN hg (below_size (be HB))); have NB228_230 := nL BK228 hg; have NB230_228 := nR BK228 hg; replace BK228 := bB BK228 hb; replace HB := am (below_step (be HB) hb); clear hb hbox hg; have hnb39 := NB230_228.out; have hnc39 := NB228_230.out; obtain ⟨hcz40_0, hcz40_1, hfz40_0, hfz40_1⟩ := bx2 BK230; obtain ⟨hcz41_0, hcz41_1, hfz41_0, hfz41_1⟩ := bx2 BK228; have p231 : 0 ≤ ((ji34) : Int) := of_decide_eq_true (by first | (with_reducible assumption) | assumption); have q231 : (ji34) < (l0.length : Int) := of_decide_eq_true (by first | (with_reducible assumption) | assumption); obtain ⟨ad231, e231, hx231_0, hx231_1⟩ := at_T103 HR0.out (ji34) p231 q231; obtain rfl : ad227 = ad231 := (by injection e231); have hn231_0 : ad227.block ≠ gb230 := Nat.ne_of_lt (Nat.lt_of_lt_of_le (by have := World.block_lt_of_cell? _ _ hx231_0; first | rwa [add_block] at this | exact this) GW230.out); have hn231_1 : ad227.block ≠ gb230 := Nat.ne_of_lt (Nat.lt_of_lt_of_le (by have := World.block_lt_of_cell? _ _ hx231_0; first | rwa [add_block] at this | exact this) GW230.out); replace hx231_0 := (HB.out.cell (World.block_lt_of_cell? w _ hx231_0)).trans hx231_0; replace hx231_1 := (HB.out.cell (World.block_lt_of_cell? w _ hx231_1)).trans hx231_1; replace hx231_0 := (cell_far (p := ⟨gb230, 0, none⟩) (by first | (rw [add_block]; exact hn231_0) | (show (Addr.add _ _).block ≠ _; rw [add_block]; exact hn231_0) | exact hn231_0) (.int .i16 ((rd_T103 l0 (ji20)).f0))).trans hx231_0; replace hx231_1 := (cell_far (p := ⟨gb230, 0, none⟩) (by first | (rw [add_block]; exact hn231_0) | (show (Addr.add _ _).block ≠ _; rw [add_block]; exact hn231_0) | exact hn231_0) (.int .i16 ((rd_T103 l0 (ji20)).f0))).trans hx231_1; replace hx231_0 := (cell_far (p := ⟨gb230, 1, none⟩) (by first | (rw [add_block]; exact hn231_1) | (show (Addr.add _ _).block ≠ _; rw [add_block]; exact hn231_1) | exact hn231_1) (.int .i8 ((rd_T103 l0 (ji20)).f1))).trans hx231_0; replace hx231_1 := (cell_far (p := ⟨gb230, 1, none⟩) (by first | (rw [add_block]; exact hn231_1) | (show (Addr.add _ _).block ≠ _; rw [add_block]; exact hn231_1) | exact hn231_1) (.int .i8 ((rd_T103 l0 (ji20)).f1))).trans hx231_1; (try have hy231_0 := fun (n_ : Nat) => (show ((((w38.drewN n_).setCell ⟨gb230, 0, none⟩ (.int .i16 ((rd_T103 l0 (ji20)).f0))).setCell ⟨gb230, 1, none⟩ (.int .i8 ((rd_T103 l0 (ji20)).f1)))).cell? _ = some _ from hx231_0)); (try have hy231_1 := fun (n_ : Nat) => (show ((((w38.drewN n_).setCell ⟨gb230, 0, none⟩ (.int .i16 ((rd_T103 l0 (ji20)).f0))).setCell ⟨gb230, 1, none⟩ (.int .i8 ((rd_T103 l0 (ji20)).f1)))).cell? _ = some _ from hx231_1)); clear hn231_0; clear hn231_1; replace p231 := eq_true p231; replace q231 := eq_true q231)))
                     go_ret
                     exact ⟨by first | rfl | (simp [errW_none, errW_some] <;> rfl) | (simp only [← hji20, ← hji34]; first | rfl | (simp [errW_none, errW_some] <;> rfl)) | (simp [*, errW_none, errW_some] <;> rfl), be HB⟩
                    ·rw [if_neg c37] at H
                     have c37b0 : ((decide (((rd_T103 l0 x16_2).f1) > ((rd_T103 l0 (ji20)).f1))) == (decide (((rd_T103 l0 (ji20)).f1) > ((rd_T103 l0 (ji34)).f1)))) = false := by simpa using c37
                     (try (have c37b1 : decide ((decide (((rd_T103 l0 x16_2).f1) > ((rd_T103 l0 (ji20)).f1))) = (decide (((rd_T103 l0 (ji20)).f1) > ((rd_T103 l0 (ji34)).f1)))) = false := by simpa using c37))
                     (try (have c37b2 : ((decide (((rd_T103 l0 x16_2).f1) > ((rd_T103 l0 (ji20)).f1))) == (decide (((rd_T103 l0 (ji20)).f1) > ((rd_T103 l0 (ji34)).f1)))) = false := by simpa using c37))
                     (try (have c37b3 : ¬ ((decide (((rd_T103 l0 x16_2).f1) > ((rd_T103 l0 (ji20)).f1))) = (decide (((rd_T103 l0 (ji20)).f1) > ((rd_T103 l0 (ji34)).f1)))) := by simpa using c37))
                     clear c37
                     have H' := am H
                     clear H
                     have p229 : 0 ≤ ((ji20) : Int) := of_decide_eq_true (by first | (with_reducible assumption) | assumption)
                     have q229 : (ji20) < (l0.length : Int) := of_decide_eq_true (by first | (with_reducible assumption) | assumption)
                     obtain ⟨ad229, e229, hx229_0, hx229_1⟩ := at_T103 HR0.out (ji20) p229 q229
                     obtain rfl : ad227 = ad229 := (by injection e229)
                     replace hx229_0 := (HB.out.cell (World.block_lt_of_cell? w _ hx229_0)).trans hx229_0
                     replace hx229_1 := (HB.out.cell (World.block_lt_of_cell? w _ hx229_1)).trans hx229_1
                     replace p229 := eq_true p229
                     replace q229 := eq_true q229
                     go_wp2_with (first | ((with_reducible refine gate_dst (N := 5) rfl ?_); (try (refine gate_guard (by rfl) ?_; dsimp only)); refine bxe (N := 5) (cs := #[.int .i16 0, .int .i8 0]) (t := 103) ?_; intro gb230 hg w42 hbox hb; have BK230 := am (hbox); have GW230 := am (gN hg (below_size (be HB))); have GE230 := am (gN hg (below_size (be HB))); have NB228_230 := nL BK228 hg; have NB230_228 := nR BK228 hg; replace BK228 := bB BK228 hb; replace HB := am (below_step (be HB) hb); clear hb hbox hg; have hnb43 := NB230_228.out; have hnc43 := NB228_230.out; obtain ⟨hcz44_0, hcz44_1, hfz44_0, hfz44_1⟩ := bx2 BK230; obtain ⟨hcz45_0, hcz45_1, hfz45_0, hfz45_1⟩ := bx2 BK228; have p231 : 0 ≤ ((ji34) : Int) := of_decide_eq_true (by first | (with_reducible assumption) | assumption); have q231 : (ji34) < (l0.length : Int) := of_decide_eq_true (by first | (with_reducible assumption) | assumption); obtain ⟨ad231, e231, hx231_0, hx231_1⟩ := at_T103 HR0.out (ji34) p231 q231; obtain rfl : ad227 = ad231 := (by injection e231); have hn231_0 : ad227.block ≠ gb230 := Nat.ne_of_lt (Nat.lt_of_lt_of_le (by have := World.block_lt_of_cell? _ _ hx231_0; first | rwa [add_block] at this | exact this) GW230.out); have hn231_1 : ad227.block ≠ gb230 := Nat.ne_of_lt (Nat.lt_of_lt_of_le (by have := World.block_lt_of_cell? _ _ hx231_0; first | rwa [add_block] at this | exact this) GW230.out); replace hx231_0 := (HB.out.cell (World.block_lt_of_cell? w _ hx231_0)).trans hx231_0; replace hx231_1 := (HB.out.cell (World.block_lt_of_cell? w _ hx231_1)).trans hx231_1; replace hx231_0 := (cell_far (p := ⟨gb230, 0, none⟩) (by first | (rw [add_block]; exact hn231_0) | (show (Addr.add _ _).block ≠ _; rw [add_block]; exact hn231_0) | exact hn231_0) (.int .i16 ((rd_T103 l0 (ji20)).f0))).trans hx231_0; replace hx231_1 := (cell_far (p := ⟨gb230, 0, none⟩) (by first | (rw [add_block]; exact hn231_0) | (show (Addr.add _ _).block ≠ _; rw [add_block]; exact hn231_0) | exact hn231_0) (.int .i16 ((rd_T103 l0 (ji20)).f0))).trans hx231_1; replace hx231_0 := (cell_far (p := ⟨gb230, 1, none⟩) (by first | (rw [add_block]; exact hn231_1) | (show (Addr.add _ _).block ≠ _; rw [add_block]; exact hn231_1) | exact hn231_1) (.int .i8 ((rd_T103 l0 (ji20)).f1))).trans hx231_0; replace hx231_1 := (cell_far (p := ⟨gb230, 1, none⟩) (by first | (rw [add_block]; exact hn231_1) | (show (Addr.add _ _).block ≠ _; rw [add_block]; exact hn231_1) | exact hn231_1) (.int .i8 ((rd_T103 l0 (ji20)).f1))).trans hx231_1; (try have hy231_0 := fun (n_ : Nat) => (show ((((w42.drewN n_).setCell ⟨gb230, 0, none⟩ (.int .i16 ((rd_T103 l0 (ji20)).f0))).setCell ⟨gb230, 1, none⟩ (.int .i8 ((rd_T103 l0 (ji20)).f1)))).cell? _ = some _ from hx231_0)); (try have hy231_1 := fun (n_ : Nat) => (show ((((w42.drewN n_).setCell ⟨gb230, 0, none⟩ (.int .i16 ((rd_T103 l0 (ji20)).f0))).setCell ⟨gb230, 1, none⟩ (.int .i8 ((rd_T103 l0 (ji20)).f1)))).cell? _ = some _ from hx231_1)); clear hn231_0; clear hn231_1; replace p231 := eq_true p231; replace q231 := eq_true q231))
                     repeat (go_quiet (first | ((with_reducible refine gate_dst (N := 5) rfl ?_); (try (refine gate_guard (by rfl) ?_; dsimp only)); refine bxe (N := 5) (cs := #[.int .i16 0, .int .i8 0]) (t := 103) ?_; intro gb230 hg w42 hbox hb; have BK230 := am (hbox); have GW230 := am (gN hg (below_size (be HB))); have GE230 := am (gN hg (below_size (be HB))); have NB228_230 := nL BK228 hg; have NB230_228 := nR BK228 hg; replace BK228 := bB BK228 hb; replace HB := am (below_step (be HB) hb); clear hb hbox hg; have hnb43 := NB230_228.out; have hnc43 := NB228_230.out; obtain ⟨hcz44_0, hcz44_1, hfz44_0, hfz44_1⟩ := bx2 BK230; obtain ⟨hcz45_0, hcz45_1, hfz45_0, hfz45_1⟩ := bx2 BK228; have p231 : 0 ≤ ((ji34) : Int) := of_decide_eq_true (by first | (with_reducible assumption) | assumption); have q231 : (ji34) < (l0.length : Int) := of_decide_eq_true (by first | (with_reducible assumption) | assumption); obtain ⟨ad231, e231, hx231_0, hx231_1⟩ := at_T103 HR0.out (ji34) p231 q231; obtain rfl : ad227 = ad231 := (by injection e231); have hn231_0 : ad227.block ≠ gb230 := Nat.ne_of_lt (Nat.lt_of_lt_of_le (by have := World.block_lt_of_cell? _ _ hx231_0; first | rwa [add_block] at this | exact this) GW230.out); have hn231_1 : ad227.block ≠ gb230 := Nat.ne_of_lt (Nat.lt_of_lt_of_le (by have := World.block_lt_of_cell? _ _ hx231_0; first | rwa [add_block] at this | exact this) GW230.out); replace hx231_0 := (HB.out.cell (World.block_lt_of_cell? w _ hx231_0)).trans hx231_0; replace hx231_1 := (HB.out.cell (World.block_lt_of_cell? w _ hx231_1)).trans hx231_1; replace hx231_0 := (cell_far (p := ⟨gb230, 0, none⟩) (by first | (rw [add_block]; exact hn231_0) | (show (Addr.add _ _).block ≠ _; rw [add_block]; exact hn231_0) | exact hn231_0) (.int .i16 ((rd_T103 l0 (ji20)).f0))).trans hx231_0; replace hx231_1 := (cell_far (p := ⟨gb230, 0, none⟩) (by first | (rw [add_block]; exact hn231_0) | (show (Addr.add _ _).block ≠ _; rw [add_block]; exact hn231_0) | exact hn231_0) (.int .i16 ((rd_T103 l0 (ji20)).f0))).trans hx231_1; replace hx231_0 := (cell_far (p := ⟨gb230, 1, none⟩) (by first | (rw [add_block]; exact hn231_1) | (show (Addr.add _ _).block ≠ _; rw [add_block]; exact hn231_1) | exact hn231_1) (.int .i8 ((rd_T103 l0 (ji20)).f1))).trans hx231_0; replace hx231_1 := (cell_far (p := ⟨gb230, 1, none⟩) (by first | (rw [add_block]; exact hn231_1) | (show (Addr.add _ _).block ≠ _; rw [add_block]; exact hn231_1) | exact hn231_1) (.int .i8 ((rd_T103 l0 (ji20)).f1))).trans hx231_1; (try have hy231_0 := fun (n_ : Nat) => (show ((((w42.drewN n_).setCell ⟨gb230, 0, none⟩ (.int .i16 ((rd_T103 l0 (ji20)).f0))).setCell ⟨gb230, 1, none⟩ (.int .i8 ((rd_T103 l0 (ji20)).f1)))).cell? _ = some _ from hx231_0)); (try have hy231_1 := fun (n_ : Nat) => (show ((((w42.drewN n_).setCell ⟨gb230, 0, none⟩ (.int .i16 ((rd_T103 l0 (ji20)).f0))).setCell ⟨gb230, 1, none⟩ (.int .i8 ((rd_T103 l0 (ji20)).f1)))).cell? _ = some _ from hx231_1)); clear hn231_0; clear hn231_1; replace p231 := eq_true p231; replace q231 := eq_true q231)); try go_wp2_with (first | ((with_reducible refine gate_dst (N := 5) rfl ?_); (try (refine gate_guard (by rfl) ?_; dsimp only)); refine bxe (N := 5) (cs := #[.int .i16 0, .int .i8 0]) (t := 103) ?_; intro gb230 hg w42 hbox hb; have BK230 := am (hbox); have GW230 := am (gN hg (below_size (be HB))); have GE230 := am (gN hg (below_size (be HB))); have NB228_230 := nL BK228 hg; have NB230_228 := nR BK228 hg; replace BK228 := bB BK228 hb; replace HB := am (below_step (be HB) hb); clear hb hbox hg; have hnb43 := NB230_228.out; have hnc43 := NB228_230.out; obtain ⟨hcz44_0, hcz44_1, hfz44_0, hfz44_1⟩ := bx2 BK230; obtain ⟨hcz45_0, hcz45_1, hfz45_0, hfz45_1⟩ := bx2 BK228; have p231 : 0 ≤ ((ji34) : Int) := of_decide_eq_true (by first | (with_reducible assumption) | assumption); have q231 : (ji34) < (l0.length : Int) := of_decide_eq_true (by first | (with_reducible assumption) | assumption); obtain ⟨ad231, e231, hx231_0, hx231_1⟩ := at_T103 HR0.out (ji34) p231 q231; obtain rfl : ad227 = ad231 := (by injection e231); have hn231_0 : ad227.block ≠ gb230 := Nat.ne_of_lt (Nat.lt_of_lt_of_le (by have := World.block_lt_of_cell? _ _ hx231_0; first | rwa [add_block] at this | exact this) GW230.out); have hn231_1 : ad227.block ≠ gb230 := Nat.ne_of_lt (Nat.lt_of_lt_of_le (by have := World.block_lt_of_cell? _ _ hx231_0; first | rwa [add_block] at this | exact this) GW230.out); replace hx231_0 := (HB.out.cell (World.block_lt_of_cell? w _ hx231_0)).trans hx231_0; replace hx231_1 := (HB.out.cell (World.block_lt_of_cell? w _ hx231_1)).trans hx231_1; replace hx231_0 := (cell_far (p := ⟨gb230, 0, none⟩) (by first | (rw [add_block]; exact hn231_0) | (show (Addr.add _ _).block ≠ _; rw [add_block]; exact hn231_0) | exact hn231_0) (.int .i16 ((rd_T103 l0 (ji20)).f0))).trans hx231_0; replace hx231_1 := (cell_far (p := ⟨gb230, 0, none⟩) (by first | (rw [add_block]; exact hn231_0) | (show (Addr.add _ _).block ≠ _; rw [add_block]; exact hn231_0) | exact hn231_0) (.int .i16 ((rd_T103 l0 (ji20)).f0))).trans hx231_1; replace hx231_0 := (cell_far (p := ⟨gb230, 1, none⟩) (by first | (rw [add_block]; exact hn231_1) | (show (Addr.add _ _).block ≠ _; rw [add_block]; exact hn231_1) | exact hn231_1) (.int .i8 ((rd_T103 l0 (ji20)).f1))).trans hx231_0; replace hx231_1 := (cell_far (p := ⟨gb230, 1, none⟩) (by first | (rw [add_block]; exact hn231_1) | (show (Addr.add _ _).block ≠ _; rw [add_block]; exact hn231_1) | exact hn231_1) (.int .i8 ((rd_T103 l0 (ji20)).f1))).trans hx231_1; (try have hy231_0 := fun (n_ : Nat) => (show ((((w42.drewN n_).setCell ⟨gb230, 0, none⟩ (.int .i16 ((rd_T103 l0 (ji20)).f0))).setCell ⟨gb230, 1, none⟩ (.int .i8 ((rd_T103 l0 (ji20)).f1)))).cell? _ = some _ from hx231_0)); (try have hy231_1 := fun (n_ : Nat) => (show ((((w42.drewN n_).setCell ⟨gb230, 0, none⟩ (.int .i16 ((rd_T103 l0 (ji20)).f0))).setCell ⟨gb230, 1, none⟩ (.int .i8 ((rd_T103 l0 (ji20)).f1)))).cell? _ = some _ from hx231_1)); clear hn231_0; clear hn231_1; replace p231 := eq_true p231; replace q231 := eq_true q231)))
                     go_roundg kj7
                     case measure => have := HJ1.out; have := HK2.out; have := HJ7.out; omega
                     case rel => exact ⟨(wrap64 (x16_2 + 1)), vv, H', ⟨by have := HJ1.out; have := HK2.out; have := HJ7.out; omega⟩, ⟨be HB⟩⟩
                   ·rw [if_neg c36] at H
                    exact absurd H (by simp)
                  ·rw [if_neg c35] at H
                   exact absurd H (by simp)
                 ·rw [if_neg c33] at H
                  have c33b0 : decide (1 < x16_2) = false := decide_eq_false c33
                  clear c33
                  have H' := am H
                  clear H
                  have p229 : 0 ≤ ((ji20) : Int) := of_decide_eq_true (by first | (with_reducible assumption) | assumption)
                  have q229 : (ji20) < (l0.length : Int) := of_decide_eq_true (by first | (with_reducible assumption) | assumption)
                  obtain ⟨ad229, e229, hx229_0, hx229_1⟩ := at_T103 HR0.out (ji20) p229 q229
                  obtain rfl : ad227 = ad229 := (by injection e229)
                  replace hx229_0 := (HB.out.cell (World.block_lt_of_cell? w _ hx229_0)).trans hx229_0
                  replace hx229_1 := (HB.out.cell (World.block_lt_of_cell? w _ hx229_1)).trans hx229_1
                  replace p229 := eq_true p229
                  replace q229 := eq_true q229
                  go_wp2_with (first | ((with_reducible refine gate_dst (N := 5) rfl ?_); (try (refine gate_guard (by rfl) ?_; dsimp only)); refine bxe (N := 5) (cs := #[.int .i16 0, .int .i8 0]) (t := 103) ?_; intro gb230 hg w46 hbox hb; have BK230 := am (hbox); have GW230 := am (gN hg (below_size (be HB))); have GE230 := am (gN hg (below_size (be HB))); have NB228_230 := nL BK228 hg; have NB230_228 := nR BK228 hg; replace BK228 := bB BK228 hb; replace HB := am (below_step (be HB) hb); clear hb hbox hg; have hnb47 := NB230_228.out; have hnc47 := NB228_230.out; obtain ⟨hcz48_0, hcz48_1, hfz48_0, hfz48_1⟩ := bx2 BK230; obtain ⟨hcz49_0, hcz49_1, hfz49_0, hfz49_1⟩ := bx2 BK228))
                  repeat (go_quiet (first | ((with_reducible refine gate_dst (N := 5) rfl ?_); (try (refine gate_guard (by rfl) ?_; dsimp only)); refine bxe (N := 5) (cs := #[.int .i16 0, .int .i8 0]) (t := 103) ?_; intro gb230 hg w46 hbox hb; have BK230 := am (hbox); have GW230 := am (gN hg (below_size (be HB))); have GE230 := am (gN hg (below_size (be HB))); have NB228_230 := nL BK228 hg; have NB230_228 := nR BK228 hg; replace BK228 := bB BK228 hb; replace HB := am (below_step (be HB) hb); clear hb hbox hg; have hnb47 := NB230_228.out; have hnc47 := NB228_230.out; obtain ⟨hcz48_0, hcz48_1, hfz48_0, hfz48_1⟩ := bx2 BK230; obtain ⟨hcz49_0, hcz49_1, hfz49_0, hfz49_1⟩ := bx2 BK228)); try go_wp2_with (first | ((with_reducible refine gate_dst (N := 5) rfl ?_); (try (refine gate_guard (by rfl) ?_; dsimp only)); refine bxe (N := 5) (cs := #[.int .i16 0, .int .i8 0]) (t := 103) ?_; intro gb230 hg w46 hbox hb; have BK230 := am (hbox); have GW230 := am (gN hg (below_size (be HB))); have GE230 := am (gN hg (below_size (be HB))); have NB228_230 := nL BK228 hg; have NB230_228 := nR BK228 hg; replace BK228 := bB BK228 hb; replace HB := am (below_step (be HB) hb); clear hb hbox hg; have hnb47 := NB230_228.out; have hnc47 := NB228_230.out; obtain ⟨hcz48_0, hcz48_1, hfz48_0, hfz48_1⟩ := bx2 BK230; obtain ⟨hcz49_0, hcz49_1, hfz49_0, hfz49_1⟩ := bx2 BK228)))
                  go_roundg kj7
                  case measure => have := HJ1.out; have := HK2.out; have := HJ7.out; omega
                  case rel => exact ⟨(wrap64 (x16_2 + 1)), vv, H', ⟨by have := HJ1.out; have := HK2.out; have := HJ7.out; omega⟩, ⟨be HB⟩⟩
              ·rw [if_neg c22] at H
               exact absurd H (by simp)
             ·rw [if_neg c21] at H
              exact absurd H (by simp)
        ·rw [if_neg c7] at H
         exact absurd H (by simp)
       ·rw [if_neg c6] at H
        exact absurd H (by simp)
      ·rw [if_neg c5] at H
       have c5b0 : decide (x16_2 < (l0.length : Int)) = false := decide_eq_false c5
       clear c5
       obtain rfl := Option.some.inj H
       go_wp2
       repeat (go_quiet (fail); try go_wp2)
       go_ret
       exact ⟨by first | rfl | (simp [errW_none, errW_some] <;> rfl) | (simp [*, errW_none, errW_some] <;> rfl), be HB⟩

/-! ### impl_span: function 149 -/
def impl_span.f (l0 : List (S103)) : Option (Int × Int) := if 0 < (l0.length : Int) then (if 0 ≤ (wrap64 ((l0.length : Int) - 1)) then (if (wrap64 ((l0.length : Int) - 1)) < (l0.length : Int) then (some (wrap64 ((rd_T103 l0 0).f0), wrap64 ((rd_T103 l0 (wrap64 ((l0.length : Int) - 1))).f0))) else (none)) else (none)) else (none)
set_option maxHeartbeats 8000000 in
set_option maxRecDepth 100000 in
theorem impl_span.calls (A0 : Option Addr) (c0 : Nat) (l0 : List (S103)) (r1 : Int) (r2 : Int) (w : World) (hr0 : Kd.C k103 w A0 l0.length l0) (hc0 : l0.length ≤ c0) (h : impl_span.f l0 = some (r1, r2)) :
  Calls Try.prog 149 #[.slice A0 l0.length c0] w fun e w' => e = .returned (.tuple #[.int .i64 r1, .int .i64 r2]) ∧ Drawn0 w w' := by
 have HR0 := am hr0
 have HC0 := am hc0
 clear hr0 hc0
 have H : (if 0 < (l0.length : Int) then (if 0 ≤ (wrap64 ((l0.length : Int) - 1)) then (if (wrap64 ((l0.length : Int) - 1)) < (l0.length : Int) then (some (wrap64 ((rd_T103 l0 0).f0), wrap64 ((rd_T103 l0 (wrap64 ((l0.length : Int) - 1))).f0))) else (none)) else (none)) else (none)) = some (r1, r2) := h
 clear h
 by_cases c2 : 0 < (l0.length : Int)
 ·rw [if_pos c2] at H
  have c2b0 : decide (0 < (l0.length : Int)) = true := decide_eq_true c2
  have c2b1 : decide (0 < l0.length) = true := decide_eq_true (by omega)
  clear c2
  obtain ⟨ji3, hji3⟩ : ∃ j_ : Int, (wrap64 ((l0.length : Int) - 1)) = j_ := ⟨_, rfl⟩
  replace H : (if 0 ≤ (ji3) then (if (ji3) < (l0.length : Int) then (some (wrap64 ((rd_T103 l0 0).f0), wrap64 ((rd_T103 l0 (ji3)).f0))) else (none)) else (none)) = some (r1, r2) := by first | (rw [hji3] at H; exact H) | (simp only [hji3] at H ⊢; exact H)
  have hji3w : (IntKind.i64.wrap ((l0.length : Int) - 1)) = ji3 := (i64_w _).trans hji3
  by_cases c4 : 0 ≤ (ji3)
  ·rw [if_pos c4] at H
   have c4b0 : decide (0 ≤ (ji3)) = true := decide_eq_true c4
   have c4b1 : 0 ≤ (ji3) := c4
   clear c4
   by_cases c5 : (ji3) < (l0.length : Int)
   ·rw [if_pos c5] at H
    have c5b0 : decide ((ji3) < (l0.length : Int)) = true := decide_eq_true c5
    clear c5
    simp only [Option.some.injEq, Prod.mk.injEq] at H
    obtain ⟨rfl, rfl⟩ := H
    have p232 : 0 ≤ (0 : Int) := (by omega)
    have q232 : 0 < (l0.length : Int) := of_decide_eq_true (by first | (with_reducible assumption) | assumption)
    obtain ⟨ad232, e232, hx232_0, hx232_1⟩ := at_T103 HR0.out 0 p232 q232
    cases e232
    have qi232 : (0 < l0.length) = True := eq_true (by omega)
    (try rw [show ((0 : Int)).toNat = 0 from rfl] at hx232_0)
    (try rw [show 0 * 2 = 0 from rfl] at hx232_0)
    (try rw [Addr.add_zero'] at hx232_0)
    (try rw [show ((0 : Int)).toNat = 0 from rfl] at hx232_1)
    (try rw [show 0 * 2 = 0 from rfl] at hx232_1)
    (try rw [Addr.add_zero'] at hx232_1)
    replace p232 := eq_true p232
    replace q232 := eq_true q232
    have p233 : 0 ≤ ((ji3) : Int) := of_decide_eq_true (by first | (with_reducible assumption) | assumption)
    have q233 : (ji3) < (l0.length : Int) := of_decide_eq_true (by first | (with_reducible assumption) | assumption)
    obtain ⟨ad233, e233, hx233_0, hx233_1⟩ := at_T103 HR0.out (ji3) p233 q233
    obtain rfl : ad232 = ad233 := (by injection e233)
    replace p233 := eq_true p233
    replace q233 := eq_true q233
    go_enter Try.func149, Try.ntmps149
    go_wp2
    repeat (go_quiet (fail); try go_wp2)
    go_ret2
    exact ⟨by first | rfl | (simp; done) | (simp only [← hji3] <;> (first | rfl | simp)) | (simp [*]; done), by repeat (first | exact Drawn0.refl _ | apply Drawn0.step)⟩
   ·rw [if_neg c5] at H
    exact absurd H (by simp)
  ·rw [if_neg c4] at H
   exact absurd H (by simp)
 ·rw [if_neg c2] at H
  exact absurd H (by simp)

/-! ### impl_afloat: function 150 -/
def impl_afloat.f (a0_0 : Int) (a0_1 : Int) (a0_2 : (Nat → Int)) (a1_0 : Int) (a1_1 : Int) (a1_2 : Int) (a1_3 : Int) (a1_4 : Int) (a1_5 : Int) (a2 : Int) : Option (Bool) := (impl_depth.f a0_0 a0_1 a0_2 a1_0 a1_1).bind fun t236 => (some (decide ((wrap64 (t236 + a2)) ≥ (wrap64 (a1_4)))))
def impl_afloat.T1 : Bool × List (List Nat × List Nat) := (true, [([], []), ([], []), ([1], [1]), ([0, 2], [0, 2]), ([], []), ([3, 4], [3, 4]), ([], []), ([6], [6]), ([7], [7]), ([5, 8], [5, 8]), ([9, 3, 0, 1, 2, 3, 4, 5, 6, 7, 8, 9], [9])])
def impl_afloat.B1 : List Nat := [0, 0, 2, 7, 0, 31, 0, 64, 192, 511, 1023]
theorem impl_afloat.tab1 : rtab .any (opsOf Try.f150 1) = impl_afloat.T1 := by kernel_rfl
theorem impl_afloat.bits1 : waitsOk impl_afloat.T1.2 impl_afloat.B1 = true := by kernel_rfl
set_option maxHeartbeats 8000000 in
set_option maxRecDepth 100000 in
theorem impl_afloat.calls (a0_0 : Int) (a0_1 : Int) (a0_2 : (Nat → Int)) (a1_0 : Int) (a1_1 : Int) (a1_2 : Int) (a1_3 : Int) (a1_4 : Int) (a1_5 : Int) (a2 : Int) (r : Bool) (w : World) (h : impl_afloat.f a0_0 a0_1 a0_2 a1_0 a1_1 a1_2 a1_3 a1_4 a1_5 a2 = some r) :
  Calls Try.prog 150 #[.agg (csBay a0_0 a0_1 a0_2), .agg #[.int .i8 a1_0, .int .i8 a1_1, .int .i8 a1_2, .int .i8 a1_3, .int .i8 a1_4, .int .i8 a1_5], .int .i64 a2] w fun e w' => e = .returned (.bool r) ∧ Below w.heap.size w w' := by
 have hu28 := Try.underlying28
 have hu38 := Try.underlying38
 have hu36 := Try.underlying36
 have HB := am (Below.refl w.heap.size w)
 have H : ((impl_depth.f a0_0 a0_1 a0_2 a1_0 a1_1).bind fun t236 => (some (decide ((wrap64 (t236 + a2)) ≥ (wrap64 (a1_4)))))) = some r := h
 clear h
 replace H := Option.bind_eq_some_iff.mp H
 obtain ⟨t236, A40, H⟩ := H
 try dsimp only at H
 have A4 := am A40
 clear A40
 obtain rfl := Option.some.inj H
 go_enter Try.func150, Try.ntmps150
 try go_wp2_with (first | ((with_reducible refine gate_dst (N := 3) rfl ?_); refine bxe (N := 3) (cs := (csBay a0_0 a0_1 a0_2)) (t := 28) ?_; intro gb234 hg w5 hbox hb; have BK234 := am (hbox); have GW234 := am (gN hg (below_size (be HB))); have GE234 := am (gN hg (below_size (be HB))); replace HB := am (below_step (be HB) hb); clear hb hbox hg) | ((with_reducible refine gate_dst (N := 4) rfl ?_); refine bxe (N := 4) (cs := #[.int .i8 a1_0, .int .i8 a1_1, .int .i8 a1_2, .int .i8 a1_3, .int .i8 a1_4, .int .i8 a1_5]) (t := 38) ?_; intro gb235 hg w6 hbox hb; have BK235 := am (hbox); have GW235 := am (gN hg (below_size (be HB))); have GE235 := am (gN hg (below_size (be HB))); have NB234_235 := nL BK234 hg; have NB235_234 := nR BK234 hg; replace BK234 := bB BK234 hb; replace HB := am (below_step (be HB) hb); clear hb hbox hg))
 have n0_ := am (blk_drew BK234.out)
 have n1_ := am (blk_drew BK235.out)
 have n2_ := am (below_drew1 HB.out)
 clear BK234
 clear BK235
 clear HB
 have BK234 := n0_
 have BK235 := n1_
 have HB := n2_
 clear n0_ n1_ n2_
 refine start_ (n := 11) (S := fun w' => w'.cell? ⟨gb234, 0, none⟩ = some (.int .i8 a0_0) ∧ w'.cell? ⟨gb234, 1, none⟩ = some (.int .i8 a0_1) ∧ atCells w' gb234 a0_2 ∧ BayAt28 w' gb234 ∧ lvv w' gb234 = .agg (csBay a0_0 a0_1 a0_2) ∧ w'.cell? ⟨gb235, 0, none⟩ = some (.int .i8 a1_0) ∧ w'.cell? ⟨gb235, 1, none⟩ = some (.int .i8 a1_1) ∧ w'.cell? ⟨gb235, 2, none⟩ = some (.int .i8 a1_2) ∧ w'.cell? ⟨gb235, 3, none⟩ = some (.int .i8 a1_3) ∧ w'.cell? ⟨gb235, 4, none⟩ = some (.int .i8 a1_4) ∧ w'.cell? ⟨gb235, 5, none⟩ = some (.int .i8 a1_5)) (ds := []) #[false, false, false, false, false, false, false, false, false, false, false] (by kernel_rfl) rfl rfl ⟨(blk_cell BK234.out 0).trans rfl, (blk_cell BK234.out 1).trans rfl, at_cells BK234.out, BayAt28_of BK234.out, lvv_of BK234.out, (blk_cell BK235.out 0).trans rfl, (blk_cell BK235.out 1).trans rfl, (blk_cell BK235.out 2).trans rfl, (blk_cell BK235.out 3).trans rfl, (blk_cell BK235.out 4).trans rfl, (blk_cell BK235.out 5).trans rfl⟩ (fun hHeld => ?_); refine with_tabW impl_afloat.tab1 impl_afloat.bits1 (fun HT_ HW_ => ?_)
 generalize w6.drew = w7 at BK234 BK235 HB hHeld ⊢
 refine pS (i := 1) (some 8) #[false, true, false, false, false, false, false, false, false, false, false] (any_of HT_.out (by kernel_rfl)) ?_
 refine pS (i := 4) (some 11) #[false, true, false, false, true, false, false, false, false, false, false] (any_of HT_.out (by kernel_rfl)) ?_
 refine pS (i := 6) (some 13) #[false, true, false, false, true, false, true, false, false, false, false] (any_of HT_.out (by kernel_rfl)) ?_
 refine tS (i := 0) (some 7) #[true, true, false, false, true, false, true, false, false, false, false] (take_ofW HT_.out HW_.out (by kernel_rfl)) hHeld ?_
 refine tS (i := 2) (some 9) #[true, true, true, false, true, false, true, false, false, false, false] (take_ofW HT_.out HW_.out (by kernel_rfl)) hHeld ?_
 refine tS (i := 7) (some 14) #[true, true, true, false, true, false, true, true, false, false, false] (take_ofW HT_.out HW_.out (by kernel_rfl)) hHeld ?_
 refine pS (i := 8) (some 15) #[true, true, true, false, true, false, true, true, true, false, false] (any_of HT_.out (by kernel_rfl)) ?_
 refine one_ (i := 3) (N := some 10) #[true, true, true, true, true, false, true, true, true, false, false] rfl rfl (one_of HT_.out (by kernel_rfl)) (by decide) (fun K hK => ?_)
 refine goes_ Try.func112 (by kernel_rfl) rfl #[.agg (csBay a0_0 a0_1 a0_2), .agg #[.int .i8 a1_0, .int .i8 a1_1]] (by rfl) rfl rfl (by (try simp only [List.map_toArray, List.map_cons, List.map_nil]); first | done | rfl | (simp only [List.length_drop, List.length_take]; rfl)) ?_
 with_reducible refine (impl_depth.calls a0_0 a0_1 a0_2 a1_0 a1_1 t236 _ A4.out).mono ?_
 rintro e w8 ⟨rfl, hb⟩
 refine ⟨_, rfl, ?_⟩
 have n0_ := bB BK234 hb
 have n1_ := bB BK235 hb
 have n2_ := am (below_step (be HB) hb)
 clear BK234
 clear BK235
 clear HB
 have BK234 := n0_
 have BK235 := n1_
 have HB := n2_
 clear n0_ n1_ n2_
 (try clear hb)
 (try clear hb2)
 (try clear hk)
 (try clear hi)
 refine hK.out _ _ ⟨(blk_cell BK234.out 0).trans rfl, (blk_cell BK234.out 1).trans rfl, at_cells BK234.out, BayAt28_of BK234.out, lvv_of BK234.out, (blk_cell BK235.out 0).trans rfl, (blk_cell BK235.out 1).trans rfl, (blk_cell BK235.out 2).trans rfl, (blk_cell BK235.out 3).trans rfl, (blk_cell BK235.out 4).trans rfl, (blk_cell BK235.out 5).trans rfl⟩ (fun hHeld => ?_)
 clear hK K
 refine norm_ (a' := ?_) ?_ ?_
 rotate_left
 ·show Act.put _ (some 10) _ = _
  simp only [Act.put, List.setIfInBounds_toArray, List.set_cons_zero, List.set_cons_succ, i64_w, i32_w]
  rfl
 refine pS (i := 5) (some 12) #[true, true, true, true, true, true, true, true, true, false, false] (any_of HT_.out (by kernel_rfl)) ?_
 refine pS (i := 9) (some 16) #[true, true, true, true, true, true, true, true, true, true, false] (any_of HT_.out (by kernel_rfl)) ?_
 refine pS (i := 10) (some 6) #[true, true, true, true, true, true, true, true, true, true, true] (any_of HT_.out (by kernel_rfl)) ?_
 refine done_ (done_of HT_.out (by kernel_rfl)) ?_
 try go_wp2
 go_ret
 exact ⟨by first | rfl | (simp [errW_none, errW_some] <;> rfl) | (simp [*, errW_none, errW_some] <;> rfl), be HB⟩

end Go.Proofs.Ytcollbifdfhfoaa.PFnExactDryMinutes
