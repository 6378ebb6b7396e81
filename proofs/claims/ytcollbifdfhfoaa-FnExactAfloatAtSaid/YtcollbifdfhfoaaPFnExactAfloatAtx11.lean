-- Written by a program out of this seat's translation (functions, and that the code comes to them).
import Derived.Test.YtcollbifdfhfoaaPFnExactAfloatAtx0
import Derived.Test.YtcollbifdfhfoaaPFnExactAfloatAtx7
namespace Go.Proofs.Ytcollbifdfhfoaa.PFnExactAfloatAt
open Go.RowKit Go.Proofs.YtcollbifdfhfoaaW.PrintWords Go.Proofs.YtcollbifdfhfoaaW.PrintLast Go.Proofs.YtcollbifdfhfoaaW.PrintMore
attribute [local go_sem] max2_int min2_int max_two min_two max_three min_three max_four min_four   -- for this text's walks alone
open Go.Proofs.Ytcollbifdfhfoaa.Bay Go.Proofs.Ytcollbifdfhfoaa.Short
attribute [local go_sem ↓] lv26_eq lv28_eq
attribute [local go_sem] lvv_set lvv_drewN lvv_drew lv26_run BayAt26_set BayAt26_drewN BayAt26_drew lv28_run BayAt28_set BayAt28_drewN BayAt28_drew
set_option linter.unusedVariables false
set_option linter.unusedSimpArgs false

/-! ### impl_ValidTides: function 148 -/
mutual
def impl_ValidTides.j0 : Nat → List (S103) → Bool → Option (Bool)
 | 0, _, _ => none
 | k + 1, x0, x13 => if x13 = true then (some false) else (impl_ValidTides.l0 k x0 x0 (x0.length : Int) 0)
def impl_ValidTides.l0 : Nat → List (S103) → List (S103) → Int → Int → Option (Bool)
 | 0, _, _, _, _ => none
 | k + 1, x0, x14, x15, x16 => if x16 < x15 then (if 0 ≤ x16 then (if x16 < (x14.length : Int) then (if ((rd_T103 x14 x16).f0) < 0 then (impl_ValidTides.j2 k x0 x16 x14 x15 x16 true ((rd_T103 x14 x16).f0) ((rd_T103 x14 x16).f1)) else (if ((rd_T103 x14 x16).f0) > 3000 then (impl_ValidTides.j2 k x0 x16 x14 x15 x16 true ((rd_T103 x14 x16).f0) ((rd_T103 x14 x16).f1)) else (if ((rd_T103 x14 x16).f1) < 0 then (impl_ValidTides.j2 k x0 x16 x14 x15 x16 true ((rd_T103 x14 x16).f0) ((rd_T103 x14 x16).f1)) else (impl_ValidTides.j2 k x0 x16 x14 x15 x16 (decide (((rd_T103 x14 x16).f1) > 100)) ((rd_T103 x14 x16).f0) ((rd_T103 x14 x16).f1))))) else (none)) else (none)) else (some true)
def impl_ValidTides.j2 : Nat → List (S103) → Int → List (S103) → Int → Int → Bool → Int → Int → Option (Bool)
 | 0, _, _, _, _, _, _, _, _ => none
 | k + 1, x0, x3, x14, x15, x16, x38, x307000, x307001 => if x38 = true then (some false) else (if x3 = 0 then (impl_ValidTides.l0 k x0 x14 x15 (wrap64 (x16 + 1))) else (if 0 ≤ (wrap64 (x3 - 1)) then (if (wrap64 (x3 - 1)) < (x0.length : Int) then (if x307000 < (IntKind.i16.wrap (((rd_T103 x0 (wrap64 (x3 - 1))).f0) + 6)) then (some false) else (if x307001 = ((rd_T103 x0 (wrap64 (x3 - 1))).f1) then (some false) else (if x3 > 1 then (if 0 ≤ (wrap64 (x3 - 2)) then (if (wrap64 (x3 - 2)) < (x0.length : Int) then (if ((decide (x307001 > ((rd_T103 x0 (wrap64 (x3 - 1))).f1))) == (decide (((rd_T103 x0 (wrap64 (x3 - 1))).f1) > ((rd_T103 x0 (wrap64 (x3 - 2))).f1)))) = true then (some false) else (impl_ValidTides.l0 k x0 x14 x15 (wrap64 (x16 + 1)))) else (none)) else (none)) else (impl_ValidTides.l0 k x0 x14 x15 (wrap64 (x16 + 1)))))) else (none)) else (none)))
end
def impl_ValidTides.f (k : Nat) (l0 : List (S103)) : Option (Bool) := if (l0.length : Int) < 2 then (impl_ValidTides.j0 k l0 true) else (impl_ValidTides.j0 k l0 (decide ((l0.length : Int) > 8)))
set_option maxHeartbeats 8000000 in
set_option maxRecDepth 100000 in
theorem impl_ValidTides.calls (k : Nat) (A0 : Option Addr) (c0 : Nat) (l0 : List (S103)) (r : Bool) (w : World) (hr0 : Kd.C k103 w A0 l0.length l0) (hc0 : l0.length ≤ c0) (h : impl_ValidTides.f k l0 = some r) :
  Calls Try.prog 148 #[.slice A0 l0.length c0] w fun e w' => e = .returned (.bool r) ∧ Below w.heap.size w w' := by
 have hu103 := Try.underlying103
 have HR0 := am hr0
 have HC0 := am hc0
 clear hr0 hc0
 have HB := am (Below.refl w.heap.size w)
 have H : (if (l0.length : Int) < 2 then (impl_ValidTides.j0 k l0 true) else (impl_ValidTides.j0 k l0 (decide ((l0.length : Int) > 8)))) = some r := h
 clear h
 have HC2 := am H
 clear H
 go_enter Try.func148, Try.ntmps148
 go_upto_region 1 with (fail)
 repeat (go_quiet (fail); go_upto_region 1 with (fail))
 go_cut [13] (fun v13 wc => ∃ (kq : Nat) (x13_1 : Bool), v13 = .bool x13_1 ∧ Aside0 (impl_ValidTides.j0 kq l0 x13_1 = some r) ∧ Aside0 (kq ≤ k) ∧ Aside0 (Below w.heap.size w wc))
 case first =>
  have H := HC2.out
  clear HC2
  by_cases c3 : (l0.length : Int) < 2
  ·rw [if_pos c3] at H
   have c3b0 : decide ((l0.length : Int) < 2) = true := decide_eq_true c3
   have c3b1 : decide (l0.length < 2) = true := decide_eq_true (by omega)
   clear c3
   (first | rw [c3b0] | (simp only [i64_w, i32_w]; rw [c3b0]) | skip)
   have H' := am H
   clear H
   go_wp2
   repeat (go_quiet (fail); try go_wp2)
   go_meet
   case rel => exact ⟨_, (true), vv, H', ⟨by first | omega | exact Nat.le_refl _⟩, ⟨be HB⟩⟩
  ·rw [if_neg c3] at H
   have c3b0 : decide ((l0.length : Int) < 2) = false := decide_eq_false c3
   have c3b1 : decide (l0.length < 2) = false := decide_eq_false (by omega)
   clear c3
   (first | rw [c3b0] | (simp only [i64_w, i32_w]; rw [c3b0]) | skip)
   have H' := am H
   clear H
   go_wp2
   repeat (go_quiet (fail); try go_wp2)
   go_meet
   case rel => exact ⟨_, (decide ((l0.length : Int) > 8)), vv, H', ⟨by first | omega | exact Nat.le_refl _⟩, ⟨be HB⟩⟩
 case rest =>
  clear HC2
  try clear c1
  try clear p2
  try clear c3
  try clear c3b0
  try clear c3b1
  obtain ⟨kq, x13_1, rfl, HA, HJ1, HB⟩ := hcut
  cases kq with
  | zero => exact absurd HA.out (by simp [impl_ValidTides.j0])
  | succ kj1 =>
   have H := HA.out
   clear HA
   simp only [impl_ValidTides.j0] at H
   by_cases c4 : x13_1 = true
   ·subst c4
    rw [if_pos rfl] at H
    obtain rfl := Option.some.inj H
    go_wp2
    repeat (go_quiet (fail); try go_wp2)
    go_ret
    exact ⟨by first | rfl | (simp [errW_none, errW_some] <;> rfl) | (simp [*, errW_none, errW_some] <;> rfl), be HB⟩
   ·replace c4 := Bool.eq_false_iff.mpr c4
    subst c4
    have H1 : (impl_ValidTides.l0 kj1 l0 l0 (l0.length : Int) 0) = some r := by rw [if_neg (show ¬ (false = true) by decide)] at H; exact H
    clear H
    have H := H1
    clear H1
    have H' := am H
    clear H
    go_wp2
    repeat (go_quiet (fail); try go_wp2)
    go_loopg [16] kj1 (fun kq v16 w' => ∃ (x16_2 : Int), v16 = .int .i64 x16_2 ∧ Aside0 (impl_ValidTides.l0 kq l0 l0 (l0.length : Int) x16_2 = some r) ∧ Aside0 (kq ≤ kj1) ∧ Aside0 (Below w.heap.size w w'))
    case atStart => exact ⟨(0), vv, H', ⟨Nat.le_refl _⟩, ⟨be HB⟩⟩
    case round =>
     clear H'
     try clear c1
     try clear p2
     try clear c3
     try clear c3b0
     try clear c3b1
     try clear c4
     try clear p2
     obtain ⟨x16_2, rfl, HA, HK2, HB⟩ := hrel
     cases gk with
     | zero => exact absurd HA.out (by simp [impl_ValidTides.l0])
     | succ k2 =>
      have H := HA.out
      clear HA
      simp only [impl_ValidTides.l0] at H
      by_cases c5 : x16_2 < (l0.length : Int)
      ·rw [if_pos c5] at H
       have c5b0 : decide (x16_2 < (l0.length : Int)) = true := decide_eq_true c5
       clear c5
       by_cases c6 : 0 ≤ x16_2
       ·rw [if_pos c6] at H
        have c6b0 : decide (0 ≤ x16_2) = true := decide_eq_true c6
        have c6b1 : 0 ≤ x16_2 := c6
        clear c6
        by_cases c7 : x16_2 < (l0.length : Int)
        ·rw [if_pos c7] at H
         have c7b0 : decide (x16_2 < (l0.length : Int)) = true := decide_eq_true c7
         clear c7
         have HC8 := am H
         clear H
         have p305 : 0 ≤ (x16_2 : Int) := of_decide_eq_true (by first | (with_reducible assumption) | assumption)
         have q305 : x16_2 < (l0.length : Int) := of_decide_eq_true (by first | (with_reducible assumption) | assumption)
         obtain ⟨ad305, e305, hx305_0, hx305_1⟩ := at_T103 HR0.out x16_2 p305 q305
         cases e305
         replace hx305_0 := (HB.out.cell (World.block_lt_of_cell? w _ hx305_0)).trans hx305_0
         replace hx305_1 := (HB.out.cell (World.block_lt_of_cell? w _ hx305_1)).trans hx305_1
         replace p305 := eq_true p305
         replace q305 := eq_true q305
         go_upto_region 6 with (first | ((with_reducible refine gate_dst (N := 4) rfl ?_); (try (refine gate_guard (by rfl) ?_; dsimp only)); refine bxe (N := 4) (cs := #[.int .i16 0, .int .i8 0]) (t := 103) ?_; intro gb306 hg w9 hbox hb; have BK306 := am (hbox); have GW306 := am (gN hg (below_size (be HB))); have GE306 := am (gN hg (below_size (be HB))); replace HB := am (below_step (be HB) hb); clear hb hbox hg; obtain ⟨hcz10_0, hcz10_1, hfz10_0, hfz10_1⟩ := bx2 BK306))
         repeat (go_quiet (first | ((with_reducible refine gate_dst (N := 4) rfl ?_); (try (refine gate_guard (by rfl) ?_; dsimp only)); refine bxe (N := 4) (cs := #[.int .i16 0, .int .i8 0]) (t := 103) ?_; intro gb306 hg w9 hbox hb; have BK306 := am (hbox); have GW306 := am (gN hg (below_size (be HB))); have GE306 := am (gN hg (below_size (be HB))); replace HB := am (below_step (be HB) hb); clear hb hbox hg; obtain ⟨hcz10_0, hcz10_1, hfz10_0, hfz10_1⟩ := bx2 BK306)); go_upto_region 6 with (first | ((with_reducible refine gate_dst (N := 4) rfl ?_); (try (refine gate_guard (by rfl) ?_; dsimp only)); refine bxe (N := 4) (cs := #[.int .i16 0, .int .i8 0]) (t := 103) ?_; intro gb306 hg w9 hbox hb; have BK306 := am (hbox); have GW306 := am (gN hg (below_size (be HB))); have GE306 := am (gN hg (below_size (be HB))); replace HB := am (below_step (be HB) hb); clear hb hbox hg; obtain ⟨hcz10_0, hcz10_1, hfz10_0, hfz10_1⟩ := bx2 BK306)))
         (try simp only [Act.put, List.setIfInBounds_toArray, List.set_cons_zero, List.set_cons_succ])
         go_cut [38] (fun v38 wc => ∃ (kq : Nat) (x38_7 : Bool), v38 = .bool x38_7 ∧ Aside0 (impl_ValidTides.j2 kq l0 x16_2 l0 (l0.length : Int) x16_2 x38_7 ((rd_T103 l0 x16_2).f0) ((rd_T103 l0 x16_2).f1) = some r) ∧ Aside0 (kq ≤ k2) ∧ Aside0 (wc.heap[gb306]? = some (.cells #[.int .i16 ((rd_T103 l0 x16_2).f0), .int .i8 ((rd_T103 l0 x16_2).f1)] 103 (0, 0))) ∧ Aside0 (Below w.heap.size w wc))
         case first =>
          have H := HC8.out
          clear HC8
          by_cases c11 : ((rd_T103 l0 x16_2).f0) < 0
          ·rw [if_pos c11] at H
           have c11b0 : decide (((rd_T103 l0 x16_2).f0) < 0) = true := decide_eq_true c11
           clear c11
           (first | rw [c11b0] | (simp only [i64_w, i32_w]; rw [c11b0]) | skip)
           have H' := am H
           clear H
           obtain ⟨hcz12_0, hcz12_1, hfz12_0, hfz12_1⟩ := bx2 BK306
           go_wp2
           repeat (go_quiet (fail); try go_wp2)
           go_meet
           case rel => exact ⟨_, (true), vv, H', ⟨by have := HJ1.out; have := HK2.out; first | omega | exact Nat.le_refl _⟩, ⟨by (with_reducible repeat (first | refine blk_drewN ?_ _ | refine blk_drew ?_ | refine blk_alloc ?_ _)); refine blk_put (cs := #[.int .i16 ((rd_T103 l0 x16_2).f0), .int .i8 0]) ?_ 1 _ rfl; (with_reducible repeat (first | refine blk_drewN ?_ _ | refine blk_drew ?_ | refine blk_alloc ?_ _)); refine blk_put (cs := #[.int .i16 0, .int .i8 0]) ?_ 0 _ rfl; exact kb BK306⟩, ⟨be HB⟩⟩
          ·rw [if_neg c11] at H
           have c11b0 : decide (((rd_T103 l0 x16_2).f0) < 0) = false := decide_eq_false c11
           clear c11
           (first | rw [c11b0] | (simp only [i64_w, i32_w]; rw [c11b0]) | skip)
           by_cases c13 : ((rd_T103 l0 x16_2).f0) > 3000
           ·rw [if_pos c13] at H
            have c13b0 : decide (3000 < ((rd_T103 l0 x16_2).f0)) = true := decide_eq_true c13
            clear c13
            have H' := am H
            clear H
            obtain ⟨hcz14_0, hcz14_1, hfz14_0, hfz14_1⟩ := bx2 BK306
            go_wp2
            repeat (go_quiet (fail); try go_wp2)
            go_meet
            case rel => exact ⟨_, (true), vv, H', ⟨by have := HJ1.out; have := HK2.out; first | omega | exact Nat.le_refl _⟩, ⟨by (with_reducible repeat (first | refine blk_drewN ?_ _ | refine blk_drew ?_ | refine blk_alloc ?_ _)); refine blk_put (cs := #[.int .i16 ((rd_T103 l0 x16_2).f0), .int .i8 0]) ?_ 1 _ rfl; (with_reducible repeat (first | refine blk_drewN ?_ _ | refine blk_drew ?_ | refine blk_alloc ?_ _)); refine blk_put (cs := #[.int .i16 0, .int .i8 0]) ?_ 0 _ rfl; exact kb BK306⟩, ⟨be HB⟩⟩
           ·rw [if_neg c13] at H
            have c13b0 : decide (3000 < ((rd_T103 l0 x16_2).f0)) = false := decide_eq_false c13
            clear c13
            by_cases c15 : ((rd_T103 l0 x16_2).f1) < 0
            ·rw [if_pos c15] at H
             have c15b0 : decide (((rd_T103 l0 x16_2).f1) < 0) = true := decide_eq_true c15
             clear c15
             have H' := am H
             clear H
             obtain ⟨hcz16_0, hcz16_1, hfz16_0, hfz16_1⟩ := bx2 BK306
             go_wp2
             repeat (go_quiet (fail); try go_wp2)
             go_meet
             case rel => exact ⟨_, (true), vv, H', ⟨by have := HJ1.out; have := HK2.out; first | omega | exact Nat.le_refl _⟩, ⟨by (with_reducible repeat (first | refine blk_drewN ?_ _ | refine blk_drew ?_ | refine blk_alloc ?_ _)); refine blk_put (cs := #[.int .i16 ((rd_T103 l0 x16_2).f0), .int .i8 0]) ?_ 1 _ rfl; (with_reducible repeat (first | refine blk_drewN ?_ _ | refine blk_drew ?_ | refine blk_alloc ?_ _)); refine blk_put (cs := #[.int .i16 0, .int .i8 0]) ?_ 0 _ rfl; exact kb BK306⟩, ⟨be HB⟩⟩
            ·rw [if_neg c15] at H
             have c15b0 : decide (((rd_T103 l0 x16_2).f1) < 0) = false := decide_eq_false c15
             clear c15
             have H' := am H
             clear H
             obtain ⟨hcz17_0, hcz17_1, hfz17_0, hfz17_1⟩ := bx2 BK306
             go_wp2
             repeat (go_quiet (fail); try go_wp2)
             go_meet
             case rel => exact ⟨_, (decide (((rd_T103 l0 x16_2).f1) > 100)), vv, H', ⟨by have := HJ1.out; have := HK2.out; first | omega | exact Nat.le_refl _⟩, ⟨by (with_reducible repeat (first | refine blk_drewN ?_ _ | refine blk_drew ?_ | refine blk_alloc ?_ _)); refine blk_put (cs := #[.int .i16 ((rd_T103 l0 x16_2).f0), .int .i8 0]) ?_ 1 _ rfl; (with_reducible repeat (first | refine blk_drewN ?_ _ | refine blk_drew ?_ | refine blk_alloc ?_ _)); refine blk_put (cs := #[.int .i16 0, .int .i8 0]) ?_ 0 _ rfl; exact kb BK306⟩, ⟨be HB⟩⟩
         case rest =>
          clear HC8
          try clear c1
          try clear p2
          try clear c3
          try clear c3b0
          try clear c3b1
          try clear p3
          try clear q3
          try clear hx3
          try clear c4
          try clear c5
          try clear c5b0
          try clear c6
          try clear c6b0
          try clear c6b1
          try clear c7
          try clear c7b0
          try clear c11
          try clear c11b0
          try clear c13
          try clear c13b0
          try clear c14
          try clear c15
          try clear c15b0
          try clear hcz10_0
          try clear hcz10_1
          try clear hcz12_0
          try clear hcz12_1
          try clear hcz14_0
          try clear hcz14_1
          try clear hcz16_0
          try clear hcz16_1
          try clear hcz17_0
          try clear hcz17_1
          try clear hfz10_0
          try clear hfz10_1
          try clear hfz12_0
          try clear hfz12_1
          try clear hfz14_0
          try clear hfz14_1
          try clear hfz16_0
          try clear hfz16_1
          try clear hfz17_0
          try clear hfz17_1
          try clear hx305_0
          try clear hx305_1
          try clear p2
          try clear p305
          try clear q305
          obtain ⟨kq, x38_7, rfl, HA, HJ7, BK306, HB⟩ := hcut
          cases kq with
          | zero => exact absurd HA.out (by simp [impl_ValidTides.j2])
          | succ kj7 =>
           have H := HA.out
           clear HA
           simp only [impl_ValidTides.j2] at H
           by_cases c18 : x38_7 = true
           ·subst c18
            rw [if_pos rfl] at H
            obtain rfl := Option.some.inj H
            go_wp2
            repeat (go_quiet (fail); try go_wp2)
            go_ret
            exact ⟨by first | rfl | (simp [errW_none, errW_some] <;> rfl) | (simp [*, errW_none, errW_some] <;> rfl), be HB⟩
           ·replace c18 := Bool.eq_false_iff.mpr c18
            subst c18
            have H1 : (if x16_2 = 0 then (impl_ValidTides.l0 kj7 l0 l0 (l0.length : Int) (wrap64 (x16_2 + 1))) else (if 0 ≤ (wrap64 (x16_2 - 1)) then (if (wrap64 (x16_2 - 1)) < (l0.length : Int) then (if ((rd_T103 l0 x16_2).f0) < (IntKind.i16.wrap (((rd_T103 l0 (wrap64 (x16_2 - 1))).f0) + 6)) then (some false) else (if ((rd_T103 l0 x16_2).f1) = ((rd_T103 l0 (wrap64 (x16_2 - 1))).f1) then (some false) else (if x16_2 > 1 then (if 0 ≤ (wrap64 (x16_2 - 2)) then (if (wrap64 (x16_2 - 2)) < (l0.length : Int) then (if ((decide (((rd_T103 l0 x16_2).f1) > ((rd_T103 l0 (wrap64 (x16_2 - 1))).f1))) == (decide (((rd_T103 l0 (wrap64 (x16_2 - 1))).f1) > ((rd_T103 l0 (wrap64 (x16_2 - 2))).f1)))) = true then (some false) else (impl_ValidTides.l0 kj7 l0 l0 (l0.length : Int) (wrap64 (x16_2 + 1)))) else (none)) else (none)) else (impl_ValidTides.l0 kj7 l0 l0 (l0.length : Int) (wrap64 (x16_2 + 1)))))) else (none)) else (none))) = some r := by rw [if_neg (show ¬ (false = true) by decide)] at H; exact H
            clear H
            have H := H1
            clear H1
            by_cases c19 : x16_2 = 0
            ·rw [if_pos c19] at H
             have c19b0 : (x16_2 == 0) = true := beq_iff_eq.mpr c19
             have c19b1 : (x16_2 != 0) = false := bne_eq_false_iff_eq.mpr c19
             clear c19
             have H' := am H
             clear H
             go_wp2
             repeat (go_quiet (fail); try go_wp2)
             go_roundg kj7
             case measure => have := HJ1.out; have := HK2.out; have := HJ7.out; omega
             case rel => exact ⟨(wrap64 (x16_2 + 1)), vv, H', ⟨by have := HJ1.out; have := HK2.out; have := HJ7.out; omega⟩, ⟨be HB⟩⟩
            ·rw [if_neg c19] at H
             have c19b0 : (x16_2 == 0) = false := beq_eq_false_iff_ne.mpr c19
             have c19b1 : (x16_2 != 0) = true := bne_iff_ne.mpr c19
             obtain ⟨ji20, hji20⟩ : ∃ j_ : Int, (wrap64 (x16_2 - 1)) = j_ := ⟨_, rfl⟩
             replace H : (if 0 ≤ (ji20) then (if (ji20) < (l0.length : Int) then (if ((rd_T103 l0 x16_2).f0) < (IntKind.i16.wrap (((rd_T103 l0 (ji20)).f0) + 6)) then (some false) else (if ((rd_T103 l0 x16_2).f1) = ((rd_T103 l0 (ji20)).f1) then (some false) else (if x16_2 > 1 then (if 0 ≤ (wrap64 (x16_2 - 2)) then (if (wrap64 (x16_2 - 2)) < (l0.length : Int) then (if ((decide (((rd_T103 l0 x16_2).f1) > ((rd_T103 l0 (ji20)).f1))) == (decide (((rd_T103 l0 (ji20)).f1) > ((rd_T103 l0 (wrap64 (x16_2 - 2))).f1)))) = true then (some false) else (impl_ValidTides.l0 kj7 l0 l0 (l0.length : Int) (wrap64 (x16_2 + 1)))) else (none)) else (none)) else (impl_ValidTides.l0 kj7 l0 l0 (l0.length : Int) (wrap64 (x16_2 + 1)))))) else (none)) else (none)) = some r := by first | (rw [hji20] at H; exact H) | (simp only [hji20] at H ⊢; exact H)
             have hji20w : (IntKind.i64.wrap (x16_2 - 1)) = ji20 := (i64_w _).trans hji20
             by_cases c21 : 0 ≤ (ji20)
             ·rw [if_pos c21] at H
              have c21b0 : decide (0 ≤ (ji20)) = true := decide_eq_true c21
              have c21b1 : 0 ≤ (ji20) := c21
              clear c21
              by_cases c22 : (ji20) < (l0.length : Int)
              ·rw [if_pos c22] at H
               have c22b0 : decide ((ji20) < (l0.length : Int)) = true := decide_eq_true c22
               clear c22
               by_cases c23 : ((rd_T103 l0 x16_2).f0) < (IntKind.i16.wrap (((rd_T103 l0 (ji20)).f0) + 6))
               ·rw [if_pos c23] at H
                have c23b0 : decide (((rd_T103 l0 x16_2).f0) < (IntKind.i16.wrap (((rd_T103 l0 (ji20)).f0) + 6))) = true := decide_eq_true c23
                clear c23
                obtain rfl := Option.some.inj H
                have p307 : 0 ≤ ((ji20) : Int) := of_decide_eq_true (by first | (with_reducible assumption) | assumption)
                have q307 : (ji20) < (l0.length : Int) := of_decide_eq_true (by first | (with_reducible assumption) | assumption)
                obtain ⟨ad307, e307, hx307_0, hx307_1⟩ := at_T103 HR0.out (ji20) p307 q307
                obtain rfl : ad305 = ad307 := (by injection e307)
                replace hx307_0 := (HB.out.cell (World.block_lt_of_cell? w _ hx307_0)).trans hx307_0
                replace hx307_1 := (HB.out.cell (World.block_lt_of_cell? w _ hx307_1)).trans hx307_1
                replace p307 := eq_true p307
                replace q307 := eq_true q307
                go_wp2_with (first | ((with_reducible refine gate_dst (N := 5) rfl ?_); (try (refine gate_guard (by rfl) ?_; dsimp only)); refine bxe (N := 5) (cs := #[.int .i16 0, .int .i8 0]) (t := 103) ?_; intro gb308 hg w24 hbox hb; have BK308 := am (hbox); have GW308 := am (gN hg (below_size (be HB))); have GE308 := am (gN hg (below_size (be HB))); have NB306_308 := nL BK306 hg; have NB308_306 := nR BK306 hg; replace BK306 := bB BK306 hb; replace HB := am (below_step (be HB) hb); clear hb hbox hg; have hnb25 := NB308_306.out; have hnc25 := NB306_308.out; obtain ⟨hcz26_0, hcz26_1, hfz26_0, hfz26_1⟩ := bx2 BK308; obtain ⟨hcz27_0, hcz27_1, hfz27_0, hfz27_1⟩ := bx2 BK306))
                repeat (go_quiet (first | ((with_reducible refine gate_dst (N := 5) rfl ?_); (try (refine gate_guard (by rfl) ?_; dsimp only)); refine bxe (N := 5) (cs := #[.int .i16 0, .int .i8 0]) (t := 103) ?_; intro gb308 hg w24 hbox hb; have BK308 := am (hbox); have GW308 := am (gN hg (below_size (be HB))); have GE308 := am (gN hg (below_size (be HB))); have NB306_308 := nL BK306 hg; have NB308_306 := nR BK306 hg; replace BK306 := bB BK306 hb; replace HB := am (below_step (be HB) hb); clear hb hbox hg; have hnb25 := NB308_306.out; have hnc25 := NB306_308.out; obtain ⟨hcz26_0, hcz26_1, hfz26_0, hfz26_1⟩ := bx2 BK308; obtain ⟨hcz27_0, hcz27_1, hfz27_0, hfz27_1⟩ := bx2 BK306)); try go_wp2_with (first | ((with_reducible refine gate_dst (N := 5) rfl ?_); (try (refine gate_guard (by rfl) ?_; dsimp only)); refine bxe (N := 5) (cs := #[.int .i16 0, .int .i8 0]) (t := 103) ?_; intro gb308 hg w24 hbox hb; have BK308 := am (hbox); have GW308 := am (gN hg (below_size (be HB))); have GE308 := am (gN hg (below_size (be HB))); have NB306_308 := nL BK306 hg; have NB308_306 := nR BK306 hg; replace BK306 := bB BK306 hb; replace HB := am (below_step (be HB) hb); clear hb hbox hg; have hnb25 := NB308_306.out; have hnc25 := NB306_308.out; obtain ⟨hcz26_0, hcz26_1, hfz26_0, hfz26_1⟩ := bx2 BK308; obtain ⟨hcz27_0, hcz27_1, hfz27_0, hfz27_1⟩ := bx2 BK306)))
                go_ret
                exact ⟨by first | rfl | (simp [errW_none, errW_some] <;> rfl) | (simp only [← hji20]; first | rfl | (simp [errW_none, errW_some] <;> rfl)) | (simp [*, errW_none, errW_some] <;> rfl), be HB⟩
               ·rw [if_neg c23] at H
                have c23b0 : decide (((rd_T103 l0 x16_2).f0) < (IntKind.i16.wrap (((rd_T103 l0 (ji20)).f0) + 6))) = false := decide_eq_false c23
                clear c23
                by_cases c28 : ((rd_T103 l0 x16_2).f1) = ((rd_T103 l0 (ji20)).f1)
                ·rw [if_pos c28] at H
                 have c28b0 : (((rd_T103 l0 x16_2).f1) == ((rd_T103 l0 (ji20)).f1)) = true := beq_iff_eq.mpr c28
                 have c28b1 : (((rd_T103 l0 x16_2).f1) != ((rd_T103 l0 (ji20)).f1)) = false := bne_eq_false_iff_eq.mpr c28
                 clear c28
                 obtain rfl := Option.some.inj H
                 have p307 : 0 ≤ ((ji20) : Int) := of_decide_eq_true (by first | (with_reducible assumption) | assumption)
                 have q307 : (ji20) < (l0.length : Int) := of_decide_eq_true (by first | (with_reducible assumption) | assumption)
                 obtain ⟨ad307, e307, hx307_0, hx307_1⟩ := at_T103 HR0.out (ji20) p307 q307
                 obtain rfl : ad305 = ad307 := (by injection e307)
                 replace hx307_0 := (HB.out.cell (World.block_lt_of_cell? w _ hx307_0)).trans hx307_0
                 replace hx307_1 := (HB.out.cell (World.block_lt_of_cell? w _ hx307_1)).trans hx307_1
                 replace p307 := eq_true p307
                 replace q307 := eq_true q307
                 go_wp2_with (first | ((with_reducible refine gate_dst (N := 5) rfl ?_); (try (refine gate_guard (by rfl) ?_; dsimp only)); refine bxe (N := 5) (cs := #[.int .i16 0, .int .i8 0]) (t := 103) ?_; intro gb308 hg w29 hbox hb; have BK308 := am (hbox); have GW308 := am (gN hg (below_size (be HB))); have GE308 := am (gN hg (below_size (be HB))); have NB306_308 := nL BK306 hg; have NB308_306 := nR BK306 hg; replace BK306 := bB BK306 hb; replace HB := am (below_step (be HB) hb); clear hb hbox hg; have hnb30 := NB308_306.out; have hnc30 := NB306_308.out; obtain ⟨hcz31_0, hcz31_1, hfz31_0, hfz31_1⟩ := bx2 BK308; obtain ⟨hcz32_0, hcz32_1, hfz32_0, hfz32_1⟩ := bx2 BK306))
                 repeat (go_quiet (first | ((with_reducible refine gate_dst (N := 5) rfl ?_); (try (refine gate_guard (by rfl) ?_; dsimp only)); refine bxe (N := 5) (cs := #[.int .i16 0, .int .i8 0]) (t := 103) ?_; intro gb308 hg w29 hbox hb; have BK308 := am (hbox); have GW308 := am (gN hg (below_size (be HB))); have GE308 := am (gN hg (below_size (be HB))); have NB306_308 := nL BK306 hg; have NB308_306 := nR BK306 hg; replace BK306 := bB BK306 hb; replace HB := am (below_step (be HB) hb); clear hb hbox hg; have hnb30 := NB308_306.out; have hnc30 := NB306_308.out; obtain ⟨hcz31_0, hcz31_1, hfz31_0, hfz31_1⟩ := bx2 BK308; obtain ⟨hcz32_0, hcz32_1, hfz32_0, hfz32_1⟩ := bx2 BK306)); try go_wp2_with (first | ((with_reducible refine gate_dst (N := 5) rfl ?_); (try (refine gate_guard (by rfl) ?_; dsimp only)); refine bxe (N := 5) (cs := #[.int .i16 0, .int .i8 0]) (t := 103) ?_; intro gb308 hg w29 hbox hb; have BK308 := am (hbox); have GW308 := am (gN hg (below_size (be HB))); have GE308 := am (gN hg (below_size (be HB))); have NB306_308 := nL BK306 hg; have NB308_306 := nR BK306 hg; replace BK306 := bB BK306 hb; replace HB := am (below_step (be HB) hb); clear hb hbox hg; have hnb30 := NB308_306.out; have hnc30 := NB306_308.out; obtain ⟨hcz31_0, hcz31_1, hfz31_0, hfz31_1⟩ := bx2 BK308; obtain ⟨hcz32_0, hcz32_1, hfz32_0, hfz32_1⟩ := bx2 BK306)))
                 go_ret
                 exact ⟨by first | rfl | (simp [errW_none, errW_some] <;> rfl) | (simp only [← hji20]; first | rfl | (simp [errW_none, errW_some] <;> rfl)) | (simp [*, errW_none, errW_some] <;> rfl), be HB⟩
                ·rw [if_neg c28] at H
                 have c28b0 : (((rd_T103 l0 x16_2).f1) == ((rd_T103 l0 (ji20)).f1)) = false := beq_eq_false_iff_ne.mpr c28
                 have c28b1 : (((rd_T103 l0 x16_2).f1) != ((rd_T103 l0 (ji20)).f1)) = true := bne_iff_ne.mpr c28
                 by_cases c33 : x16_2 > 1
                 ·rw [if_pos c33] at H
                  have c33b0 : decide (1 < x16_2) = true := decide_eq_true c33
                  clear c33
                  obtain ⟨ji34, hji34⟩ : ∃ j_ : Int, (wrap64 (x16_2 - 2)) = j_ := ⟨_, rfl⟩
                  replace H : (if 0 ≤ (ji34) then (if (ji34) < (l0.length : Int) then (if ((decide (((rd_T103 l0 x16_2).f1) > ((rd_T103 l0 (ji20)).f1))) == (decide (((rd_T103 l0 (ji20)).f1) > ((rd_T103 l0 (ji34)).f1)))) = true then (some false) else (impl_ValidTides.l0 kj7 l0 l0 (l0.length : Int) (wrap64 (x16_2 + 1)))) else (none)) else (none)) = some r := by first | (rw [hji34] at H; exact H) | (simp only [hji34] at H ⊢; exact H)
                  have hji34w : (IntKind.i64.wrap (x16_2 - 2)) = ji34 := (i64_w _).trans hji34
                  by_cases c35 : 0 ≤ (ji34)
                  ·rw [if_pos c35] at H
                   have c35b0 : decide (0 ≤ (ji34)) = true := decide_eq_true c35
                   have c35b1 : 0 ≤ (ji34) := c35
                   clear c35
                   by_cases c36 : (ji34) < (l0.length : Int)
                   ·rw [if_pos c36] at H
                    have c36b0 : decide ((ji34) < (l0.length : Int)) = true := decide_eq_true c36
                    clear c36
                    by_cases c37 : ((decide (((rd_T103 l0 x16_2).f1) > ((rd_T103 l0 (ji20)).f1))) == (decide (((rd_T103 l0 (ji20)).f1) > ((rd_T103 l0 (ji34)).f1)))) = true
                    ·rw [if_pos c37] at H
                     have c37b0 : ((decide (((rd_T103 l0 x16_2).f1) > ((rd_T103 l0 (ji20)).f1))) == (decide (((rd_T103 l0 (ji20)).f1) > ((rd_T103 l0 (ji34)).f1)))) = true := c37
                     (try (have c37b1 : decide ((decide (((rd_T103 l0 x16_2).f1) > ((rd_T103 l0 (ji20)).f1))) = (decide (((rd_T103 l0 (ji20)).f1) > ((rd_T103 l0 (ji34)).f1)))) = true := by simpa using c37))
                     (try (have c37b2 : ((decide (((rd_T103 l0 x16_2).f1) > ((rd_T103 l0 (ji20)).f1))) == (decide (((rd_T103 l0 (ji20)).f1) > ((rd_T103 l0 (ji34)).f1)))) = true := by simpa using c37))
                     clear c37
                     obtain rfl := Option.some.inj H
                     have p307 : 0 ≤ ((ji20) : Int) := of_decide_eq_true (by first | (with_reducible assumption) | assumption)
                     have q307 : (ji20) < (l0.length : Int) := of_decide_eq_true (by first | (with_reducible assumption) | assumption)
                     obtain ⟨ad307, e307, hx307_0, hx307_1⟩ := at_T103 HR0.out (ji20) p307 q307
                     obtain rfl : ad305 = ad307 := (by injection e307)
                     replace hx307_0 := (HB.out.cell (World.block_lt_of_cell? w _ hx307_0)).trans hx307_0
                     replace hx307_1 := (HB.out.cell (World.block_lt_of_cell? w _ hx307_1)).trans hx307_1
                     replace p307 := eq_true p307
                     replace q307 := eq_true q307
                     go_wp2_with (first | ((with_reducible refine gate_dst (N := 5) rfl ?_); (try (refine gate_guard (by rfl) ?_; dsimp only)); refine bxe (N := 5) (cs := #[.int .i16 0, .int .i8 0]) (t := 103) ?_; intro gb308 hg w38 hbox hb; have BK308 := am (hbox); have GW308 := am (gN hg (below_size (be HB))); have GE308 := am (gN hg (below_size (be HB))); have NB306_308 := nL BK306 hg; have NB308_306 := nR BK306 hg; replace BK306 := bB BK306 hb; replace HB := am (below_step (be HB) hb); clear hb hbox hg; have hnb39 := NB308_306.out; have hnc39 := NB306_308.out; obtain ⟨hcz40_0, hcz40_1, hfz40_0, hfz40_1⟩ := bx2 BK308; obtain ⟨hcz41_0, hcz41_1, hfz41_0, hfz41_1⟩ := bx2 BK306; have p309 : 0 ≤ ((ji34) : Int) := of_decide_eq_true (by first | (with_reducible assumption) | assumption); have q309 : (ji34) < (l0.length : Int) := of_decide_eq_true (by first | (with_reducible assumption) | assumption); obtain ⟨ad309, e309, hx309_0, hx309_1⟩ := at_T103 HR0.out (ji34) p309 q309; obtain rfl : ad305 = ad309 := (by injection e309); have hn309_0 : ad305.block ≠ gb308 := Nat.ne_of_lt (Nat.lt_of_lt_of_le (by have := World.block_lt_of_cell? _ _ hx309_0; first | rwa [add_block] at this | exact this) GW308.out); have hn309_1 : ad305.block ≠ gb308 := Nat.ne_of_lt (Nat.lt_of_lt_of_le (by have := World.block_lt_of_cell? _ _ hx309_0; first | rwa [add_block] at this | exact this) GW308.out); replace hx309_0 := (HB.out.cell (World.block_lt_of_cell? w _ hx309_0)).trans hx309_0; replace hx309_1 := (HB.out.cell (World.block_lt_of_cell? w _ hx309_1)).trans hx309_1; replace hx309_0 := (cell_far (p := ⟨gb308, 0, none⟩) (by first | (rw [add_block]; exact hn309_0) | (show (Addr.add _ _).block ≠ _; rw [add_block]; exact hn309_0) | exact hn309_0) (.int .i16 ((rd_T103 l0 (ji20)).f0))).trans hx309_0; replace hx309_1 := (cell_far (p := ⟨gb308, 0, none⟩) (by first | (rw [add_block]; exact hn309_0) | (show (Addr.add _ _).block ≠ _; rw [add_block]; exact hn309_0) | exact hn309_0) (.int .i16 ((rd_T103 l0 (ji20)).f0))).trans hx309_1; replace hx309_0 := (cell_far (p := ⟨gb308, 1, none⟩) (by first | (rw [add_block]; exact hn309_1) | (show (Addr.add _ _).block ≠ _; rw [add_block]; exact hn309_1) | exact hn309_1) (.int .i8 ((rd_T103 l0 (ji20)).f1))).trans hx309_0; replace hx309_1 := (cell_far (p := ⟨gb308, 1, none⟩) (by first | (rw [add_block]; exact hn309_1) | (show (Addr.add _ _).block ≠ _; rw [add_block]; exact hn309_1) | exact hn309_1) (.int .i8 ((rd_T103 l0 (ji20)).f1))).trans hx309_1; (try have hy309_0 := fun (n_ : Nat) => (show ((((w38.drewN n_).setCell ⟨gb308, 0, none⟩ (.int .i16 ((rd_T103 l0 (ji20)).f0))).setCell ⟨gb308, 1, none⟩ (.int .i8 ((rd_T103 l0 (ji20)).f1)))).cell? _ = some _ from hx309_0)); (try have hy309_1 := fun (n_ : Nat) => (show ((((w38.drewN n_).setCell ⟨gb308, 0, none⟩ (.int .i16 ((rd_T103 l0 (ji20)).f0))).setCell ⟨gb308, 1, none⟩ (.int .i8 ((rd_T103 l0 (ji20)).f1)))).cell? _ = some _ from hx309_1)); clear hn309_0; clear hn309_1; replace p309 := eq_true p309; replace q309 := eq_true q309))
                     repeat (go_quiet (first | ((with_reducible refine gate_dst (N := 5) rfl ?_); (try (refine gate_guard (by rfl) ?_; dsimp only)); refine bxe (N := 5) (cs := #[.int .i16 0, .int .i8 0]) (t := 103) ?_; intro gb308 hg w38 hbox hb; have BK308 := am (hbox); have GW308 := am (gN hg (below_size (be HB))); have GE308 := am (gN hg (below_size (be HB))); have NB306_308 := nL BK306 hg; have NB308_306 := nR BK306 hg; replace BK306 := bB BK306 hb; replace HB := am (below_step (be HB) hb); clear hb hbox hg; have hnb39 := NB308_306.out; have hnc39 := NB306_308.out; obtain ⟨hcz40_0, hcz40_1, hfz40_0, hfz40_1⟩ := bx2 BK308; obtain ⟨hcz41_0, hcz41_1, hfz41_0, hfz41_1⟩ := bx2 BK306; have p309 : 0 ≤ ((ji34) : Int) := of_decide_eq_true (by first | (with_reducible assumption) | assumption); have q309 : (ji34) < (l0.length : Int) := of_decide_eq_true (by first | (with_reducible assumption) | assumption); obtain ⟨ad309, e309, hx309_0, hx309_1⟩ := at_T103 HR0.out (ji34) p309 q309; obtain rfl : ad305 = ad309 := (by injection e309); have hn309_0 : ad305.block ≠ gb308 := Nat.ne_of_lt (Nat.lt_of_lt_of_le (by have := World.block_lt_of_cell? _ _ hx309_0; first | rwa [add_block] at this | exact this) GW308.out); have hn309_1 : ad305.block ≠ gb308 := Nat.ne_of_lt (Nat.lt_of_lt_of_le (by have := World.block_lt_of_cell? _ _ hx309_0; first | rwa [add_block] at this | exact this) GW308.out); replace hx309_0 := (HB.out.cell (World.block_lt_of_cell? w _ hx309_0)).trans hx309_0; replace hx309_1 := (HB.out.cell (World.block_lt_of_cell? w _ hx309_1)).trans hx309_1; replace hx309_0 := (cell_far (p := ⟨gb308, 0, none⟩) (by first | (rw [add_block]; exact hn309_0) | (show (Addr.add _ _).block ≠ _; rw [add_block]; exact hn309_0) | exact hn309_0) (.int .i16 ((rd_T103 l0 (ji20)).f0))).trans hx309_0; replace hx309_1 := (cell_far (p := ⟨gb308, 0, none⟩) (by first | (rw [add_block]; exact hn309_0) | (show (Addr.add _ _).block ≠ _; rw [add_block]; exact hn309_0) | exact hn309_0) (.int .i16 ((rd_T103 l0 (ji20)).f0))).trans hx309_1; replace hx309_0 := (cell_far (p := ⟨gb308, 1, none⟩) (by first | (rw [add_block]; exact hn309_1) | (show (Addr.add _ _).block ≠ _; rw [add_block]; exact hn309_1) | exact hn309_1) (.int .i8 ((rd_T103 l0 (ji20)).f1))).trans hx309_0; replace hx309_1 := (cell_far (p := ⟨gb308, 1, none⟩) (by first | (rw [add_block]; exact hn309_1) | (show (Addr.add _ _).block ≠ _; rw [add_block]; exact hn309_1) | exact hn309_1) (.int .i8 ((rd_T103 l0 (ji20)).f1))).trans hx309_1; (try have hy309_0 := fun (n_ : Nat) => (show ((((w38.drewN n_).setCell ⟨gb308, 0, none⟩ (.int .i16 ((rd_T103 l0 (ji20)).f0))).setCell ⟨gb308, 1, none⟩ (.int .i8 ((rd_T103 l0 (ji20)).f1)))).cell? _ = some _ from hx309_0)); (try have hy309_1 := fun (n_ : Nat) => (show ((((w38.drewN n_).setCell ⟨gb308, 0, none⟩ (.int .i16 ((rd_T103 l0 (ji20)).f0))).setCell ⟨gb308, 1, none⟩ (.int .i8 ((rd_T103 l0 (ji20)).f1)))).cell? _ = some _ from hx309_1)); clear hn309_0; clear hn309_1; replace p309 := eq_true p309; replace q309 := eq_true q309)); try go_wp2_with (first | ((with_reducible refine gate_dst (N := 5) rfl ?_); (try (refine gate_guard (by rfl) ?_; dsimp only)); refine bxe (N := 5) (cs := #[.int .i16 0, .int .i8 0]) (t := 103) ?_; intro gb308 hg w38 hbox hb; have BK308 := am (hbox); have GW308 := am (gN hg (below_size (be HB))); have GE308 := am (gN hg (below_size (be HB))); have NB306_308 := nL BK306 hg; have NB308_306 := nR BK306 hg; replace BK306 := bB BK306 hb; replace HB := am (below_step (be HB) hb); clear hb hbox hg; have hnb39 := NB308_306.out; have hnc39 := NB306_308.out; obtain ⟨hcz40_0, hcz40_1, hfz40_0, hfz40_1⟩ := bx2 BK308; obtain ⟨hcz41_0, hcz41_1, hfz41_0, hfz41_1⟩ := bx2 BK306; have p309 : 0 ≤ ((ji34) : Int) := of_decide_eq_true (by first | (with_reducible assumption) | assumption); have q309 : (ji34) < (l0.length : Int) := of_decide_eq_true (by first | (with_reducible assumption) | assumption); obtain ⟨ad309, e309, hx309_0, hx309_1⟩ := at_T103 HR0.out (ji34) p309 q309; obtain rfl : ad305 = ad309 := (by injection e309); have hn309_0 : ad305.block ≠ gb308 := Nat.ne_of_lt (Nat.lt_of_lt_of_le (by have := World.block_lt_of_cell? _ _ hx309_0; first | rwa [add_block] at this | exact this) GW308.out); have hn309_1 : ad305.block ≠ gb308 := Nat.ne_of_lt (Nat.lt_of_lt_of_le (by have := World.block_lt_of_cell? _ _ hx309_0; first | rwa [add_block] at this | exact this) GW308.out); replace hx309_0 := (HB.out.cell (World.block_lt_of_cell? w _ hx309_0)).trans hx309_0; replace hx309_1 := (HB.out.cell (World.block_lt_of_cell? w _ hx309_1)).trans hx309_1; replace hx309_0 := (cell_far (p := ⟨gb308, 0, none⟩) (by first | (rw [add_block]; exact hn309_0) | (show (Addr.add _ _).block ≠ _; rw [add_block]; exact hn309_0) | exact hn309_0) (.int .i16 ((rd_T103 l0 (ji20)).f0))).trans hx309_0; replace hx309_1 := (cell_far (p := ⟨gb308, 0, none⟩) (by first | (rw [add_block]; exact hn309_0) | (show (Addr.add _ _).block ≠ _; rw [add_block]; exact hn309_0) | exact hn309_0) (.int .i16 ((rd_T103 l0 (ji20)).f0))).trans hx309_1; replace hx309_0 := (cell_far (p := ⟨gb308, 1, none⟩) (by first | (rw [add_block]; exact hn309_1) | (show (Addr.add _ _).block ≠ _; rw [add_block]; exact hn309_1) | exact hn309_1) (.int .i8 ((rd_T103 l0 (ji20)).f1))).trans hx309_0; replace hx309_1 := (cell_far (p := ⟨gb308, 1, none⟩) (by first | (rw [add_block]; exact hn309_1) | (show (Addr.add _ _).block ≠ _; rw [add_block]; exact hn309_1) | exact hn309_1) (.int .i8 ((rd_T103 l0 (ji20)).f1))).trans hx309_1; (try have hy309_0 := fun (n_ : Nat) => (show ((((w38.drewN n_).setCell ⟨gb308, 0, none⟩ (.int .i16 ((rd_T103 l0 (ji20)).f0))).setCell ⟨gb308, 1, none⟩ (.int .i8 ((rd_T103 l0 (ji20)).f1)))).cell? _ = some _ from hx309_0)); (try have hy309_1 := fun (n_ : Nat) => (show ((((w38.drewN n_).setCell ⟨gb308, 0, none⟩ (.int .i16 ((rd_T103 l0 (ji20)).f0))).setCell ⟨gb308, 1, none⟩ (.int .i8 ((rd_T103 l0 (ji20)).f1)))).cell? _ = some _ from hx309_1)); clear hn309_0; clear hn309_1; replace p309 := eq_true p309; replace q309 := eq_true q309)))
                     go_ret
                     exact ⟨by first | rfl | (simp [errW_none, errW_some] <;> rfl) | (simp only [← hji20, ← hji34]; first | rfl | (simp [errW_none, errW_some] <;> rfl)) | (simp [*, errW_none, errW_some] <;> rfl), be HB⟩
                    ·rw [if_neg c37] at H
                     have c37b0 : ((decide (((rd_T103 l0 x16_2).f1) > ((rd_T103 l0 (ji20)).f1))) == (decide (((rd_T103 l0 (ji20)).f1) > ((rd_T103 l0 (ji34)).f1)))) = false := by simpa using c37
                     (try (have c37b1 : decide ((decide (((rd_T103 l0 x16_2).f1) > ((rd_T103 l0 (ji20)).f1))) = (decide (((rd_T103 l0 (ji20)).f1) > ((rd_T103 l0 (ji34)).f1)))) = false := by simpa using c37))
                     (try (have c37b2 : ((decide (((rd_T103 l0 x16_2).f1) > ((rd_T103 l0 (ji20)).f1))) == (decide (((rd_T103 l0 (ji20)).f1) > ((rd_T103 l0 (ji34)).f1)))) = false := by simpa using c37))
                     (try (have c37b3 : ¬ ((decide (((rd_T103 l0 x16_2).f1) > ((rd_T103 l0 (ji20)).f1))) = (decide (((rd_T103 l0 (ji20)).f1) > ((rd_T103 l0 (ji34)).f1)))) := by simpa using c37))
                     clear c37
                     have H' := am H
                     clear H
                     have p307 : 0 ≤ ((ji20) : Int) := of_decide_eq_true (by first | (with_reducible assumption) | assumption)
                     have q307 : (ji20) < (l0.length : Int) := of_decide_eq_true (by first | (with_reducible assumption) | assumption)
                     obtain ⟨ad307, e307, hx307_0, hx307_1⟩ := at_T103 HR0.out (ji20) p307 q307
                     obtain rfl : ad305 = ad307 := (by injection e307)
                     replace hx307_0 := (HB.out.cell (World.block_lt_of_cell? w _ hx307_0)).trans hx307_0
                     replace hx307_1 := (HB.out.cell (World.block_lt_of_cell? w _ hx307_1)).trans hx307_1
                     replace p307 := eq_true p307
                     replace q307 := eq_true q307
                     go_wp2_with (first | ((with_reducible refine gate_dst (N := 5) rfl ?_); (try (refine gate_guard (by rfl) ?_; dsimp only)); refine bxe (N := 5) (cs := #[.int .i16 0, .int .i8 0]) (t := 103) ?_; intro gb308 hg w42 hbox hb; have BK308 := am (hbox); have GW308 := am (gN hg (below_size (be HB))); have GE308 := am (gN hg (below_size (be HB))); have NB306_308 := nL BK306 hg; have NB308_306 := nR BK306 hg; replace BK306 := bB BK306 hb; replace HB := am (below_step (be HB) hb); clear hb hbox hg; have hnb43 := NB308_306.out; have hnc43 := NB306_308.out; obtain ⟨hcz44_0, hcz44_1, hfz44_0, hfz44_1⟩ := bx2 BK308; obtain ⟨hcz45_0, hcz45_1, hfz45_0, hfz45_1⟩ := bx2 BK306; have p309 : 0 ≤ ((ji34) : Int) := of_decide_eq_true (by first | (with_reducible assumption) | assumption); have q309 : (ji34) < (l0.length : Int) := of_decide_eq_true (by first | (with_reducible assumption) | assumption); obtain ⟨ad309, e309, hx309_0, hx309_1⟩ := at_T103 HR0.out (ji34) p309 q309; obtain rfl : ad305 = ad309 := (by injection e309); have hn309_0 : ad305.block ≠ gb308 := Nat.ne_of_lt (Nat.lt_of_lt_of_le (by have := World.block_lt_of_cell? _ _ hx309_0; first | rwa [add_block] at this | exact this) GW308.out); have hn309_1 : ad305.block ≠ gb308 := Nat.ne_of_lt (Nat.lt_of_lt_of_le (by have := World.block_lt_of_cell? _ _ hx309_0; first | rwa [add_block] at this | exact this) GW308.out); replace hx309_0 := (HB.out.cell (World.block_lt_of_cell? w _ hx309_0)).trans hx309_0; replace hx309_1 := (HB.out.cell (World.block_lt_of_cell? w _ hx309_1)).trans hx309_1; replace hx309_0 := (cell_far (p := ⟨gb308, 0, none⟩) (by first | (rw [add_block]; exact hn309_0) | (show (Addr.add _ _).block ≠ _; rw [add_block]; exact hn309_0) | exact hn309_0) (.int .i16 ((rd_T103 l0 (ji20)).f0))).trans hx309_0; replace hx309_1 := (cell_far (p := ⟨gb308, 0, none⟩) (by first | (rw [add_block]; exact hn309_0) | (show (Addr.add _ _).block ≠ _; rw [add_block]; exact hn309_0) | exact hn309_0) (.int .i16 ((rd_T103 l0 (ji20)).f0))).trans hx309_1; replace hx309_0 := (cell_far (p := ⟨gb308, 1, none⟩) (by first | (rw [add_block]; exact hn309_1) | (show (Addr.add _ _).block ≠ _; rw [add_block]; exact hn309_1) | exact hn309_1) (.int .i8 ((rd_T103 l0 (ji20)).f1))).trans hx309_0; replace hx309_1 := (cell_far (p := ⟨gb308, 1, none⟩) (by first | (rw [add_block]; exact hn309_1) | (show (Addr.add _ _).block ≠ _; rw [add_block]; exact hn309_1) | exact hn309_1) (.int .i8 ((rd_T103 l0 (ji20)).f1))).trans hx309_1; (try have hy309_0 := fun (n_ : Nat) => (show ((((w42.drewN n_).setCell ⟨gb308, 0, none⟩ (.int .i16 ((rd_T103 l0 (ji20)).f0))).setCell ⟨gb308, 1, none⟩ (.int .i8 ((rd_T103 l0 (ji20)).f1)))).cell? _ = some _ from hx309_0)); (try have hy309_1 := fun (n_ : Nat) => (show ((((w42.drewN n_).setCell ⟨gb308, 0, none⟩ (.int .i16 ((rd_T103 l0 (ji20)).f0))).setCell ⟨gb308, 1, none⟩ (.int .i8 ((rd_T103 l0 (ji20)).f1)))).cell? _ = some _ from hx309_1)); clear hn309_0; clear hn309_1; replace p309 := eq_true p309; replace q309 := eq_true q309))
                     repeat (go_quiet (first | ((with_reducible refine gate_dst (N := 5) rfl ?_); (try (refine gate_guard (by rfl) ?_; dsimp only)); refine bxe (N := 5) (cs := #[.int .i16 0, .int .i8 0]) (t := 103) ?_; intro gb308 hg w42 hbox hb; have BK308 := am (hbox); have GW308 := am (gN hg (below_size (be HB))); have GE308 := am (gN hg (below_size (be HB))); have NB306_308 := nL BK306 hg; have NB308_306 := nR BK306 hg; replace BK306 := bB BK306 hb; replace HB := am (below_step (be HB) hb); clear hb hbox hg; have hnb43 := NB308_306.out; have hnc43 := NB306_308.out; obtain ⟨hcz44_0, hcz44_1, hfz44_0, hfz44_1⟩ := bx2 BK308; obtain ⟨hcz45_0, hcz45_1, hfz45_0, hfz45_1⟩ := bx2 BK306; have p309 : 0 ≤ ((ji34) : Int) := of_decide_eq_true (by first | (with_reducible assumption) | assumption); have q309 : (ji34) < (l0.length : Int) := of_decide_eq_true (by first | (with_reducible assumption) | assumption); obtain ⟨ad309, e309, hx309_0, hx309_1⟩ := at_T103 HR0.out (ji34) p309 q309; obtain rfl : ad305 = ad309 := (by injection e309); have hn309_0 : ad305.block ≠ gb308 := Nat.ne_of_lt (Nat.lt_of_lt_of_le (by have := World.block_lt_of_cell? _ _ hx309_0; first | rwa [add_block] at this | exact this) GW308.out); have hn309_1 : ad305.block ≠ gb308 := Nat.ne_of_lt (Nat.lt_of_lt_of_le (by have := World.block_lt_of_cell? _ _ hx309_0; first | rwa [add_block] at this | exact this) GW308.out); replace hx309_0 := (HB.out.cell (World.block_lt_of_cell? w _ hx309_0)).trans hx309_0; replace hx309_1 := (HB.out.cell (World.block_lt_of_cell? w _ hx309_1)).trans hx309_1; replace hx309_0 := (cell_far (p := ⟨gb308, 0, none⟩) (by first | (rw [add_block]; exact hn309_0) | (show (Addr.add _ _).block ≠ _; rw [add_block]; exact hn309_0) | exact hn309_0) (.int .i16 ((rd_T103 l0 (ji20)).f0))).trans hx309_0; replace hx309_1 := (cell_far (p := ⟨gb308, 0, none⟩) (by first | (rw [add_block]; exact hn309_0) | (show (Addr.add _ _).block ≠ _; rw [add_block]; exact hn309_0) | exact hn309_0) (.int .i16 ((rd_T103 l0 (ji20)).f0))).trans hx309_1; replace hx309_0 := (cell_far (p := ⟨gb308, 1, none⟩) (by first | (rw [add_block]; exact hn309_1) | (show (Addr.add _ _).block ≠ _; rw [add_block]; exact hn309_1) | exact hn309_1) (.int .i8 ((rd_T103 l0 (ji20)).f1))).trans hx309_0; replace hx309_1 := (cell_far (p := ⟨gb308, 1, none⟩) (by first | (rw [add_block]; exact hn309_1) | (show (Addr.add _ _).block ≠ _; rw [add_block]; exact hn309_1) | exact hn309_1) (.int .i8 ((rd_T103 l0 (ji20)).f1))).trans hx309_1; (try have hy309_0 := fun (n_ : Nat) => (show ((((w42.drewN n_).setCell ⟨gb308, 0, none⟩ (.int .i16 ((rd_T103 l0 (ji20)).f0))).setCell ⟨gb308, 1, none⟩ (.int .i8 ((rd_T103 l0 (ji20)).f1)))).cell? _ = some _ from hx309_0)); (try have hy309_1 := fun (n_ : Nat) => (show ((((w42.drewN n_).setCell ⟨gb308, 0, none⟩ (.int .i16 ((rd_T103 l0 (ji20)).f0))).setCell ⟨gb308, 1, none⟩ (.int .i8 ((rd_T103 l0 (ji20)).f1)))).cell? _ = some _ from hx309_1)); clear hn309_0; clear hn309_1; replace p309 := eq_true p309; replace q309 := eq_true q309)); try go_wp2_with (first | ((with_reducible refine gate_dst (N := 5) rfl ?_); (try (refine gate_guard (by rfl) ?_; dsimp only)); refine bxe (N := 5) (cs := #[.int .i16 0, .int .i8 0]) (t := 103) ?_; intro gb308 hg w42 hbox hb; have BK308 := am (hbox); have GW308 := am (gN hg (below_size (be HB))); have GE308 := am (gN hg (below_size (be HB))); have NB306_308 := nL BK306 hg; have NB308_306 := nR BK306 hg; replace BK306 := bB BK306 hb; replace HB := am (below_step (be HB) hb); clear hb hbox hg; have hnb43 := NB308_306.out; have hnc43 := NB306_308.out; obtain ⟨hcz44_0, hcz44_1, hfz44_0, hfz44_1⟩ := bx2 BK308; obtain ⟨hcz45_0, hcz45_1, hfz45_0, hfz45_1⟩ := bx2 BK306; have p309 : 0 ≤ ((ji34) : Int) := of_decide_eq_true (by first | (with_reducible assumption) | assumption); have q309 : (ji34) < (l0.length : Int) := of_decide_eq_true (by first | (with_reducible assumption) | assumption); obtain ⟨ad309, e309, hx309_0, hx309_1⟩ := at_T103 HR0.out (ji34) p309 q309; obtain rfl : ad305 = ad309 := (by injection e309); have hn309_0 : ad305.block ≠ gb308 := Nat.ne_of_lt (Nat.lt_of_lt_of_le (by have := World.block_lt_of_cell? _ _ hx309_0; first | rwa [add_block] at this | exact this) GW308.out); have hn309_1 : ad305.block ≠ gb308 := Nat.ne_of_lt (Nat.lt_of_lt_of_le (by have := World.block_lt_of_cell? _ _ hx309_0; first | rwa [add_block] at this | exact this) GW308.out); replace hx309_0 := (HB.out.cell (World.block_lt_of_cell? w _ hx309_0)).trans hx309_0; replace hx309_1 := (HB.out.cell (World.block_lt_of_cell? w _ hx309_1)).trans hx309_1; replace hx309_0 := (cell_far (p := ⟨gb308, 0, none⟩) (by first | (rw [add_block]; exact hn309_0) | (show (Addr.add _ _).block ≠ _; rw [add_block]; exact hn309_0) | exact hn309_0) (.int .i16 ((rd_T103 l0 (ji20)).f0))).trans hx309_0; replace hx309_1 := (cell_far (p := ⟨gb308, 0, none⟩) (by first | (rw [add_block]; exact hn309_0) | (show (Addr.add _ _).block ≠ _; rw [add_block]; exact hn309_0) | exact hn309_0) (.int .i16 ((rd_T103 l0 (ji20)).f0))).trans hx309_1; replace hx309_0 := (cell_far (p := ⟨gb308, 1, none⟩) (by first | (rw [add_block]; exact hn309_1) | (show (Addr.add _ _).block ≠ _; rw [add_block]; exact hn309_1) | exact hn309_1) (.int .i8 ((rd_T103 l0 (ji20)).f1))).trans hx309_0; replace hx309_1 := (cell_far (p := ⟨gb308, 1, none⟩) (by first | (rw [add_block]; exact hn309_1) | (show (Addr.add _ _).block ≠ _; rw [add_block]; exact hn309_1) | exact hn309_1) (.int .i8 ((rd_T103 l0 (ji20)).f1))).trans hx309_1; (try have hy309_0 := fun (n_ : Nat) => (show ((((w42.drewN n_).setCell ⟨gb308, 0, none⟩ (.int .i16 ((rd_T103 l0 (ji20)).f0))).setCell ⟨gb308, 1, none⟩ (.int .i8 ((rd_T103 l0 (ji20)).f1)))).cell? _ = some _ from hx309_0)); (try have hy309_1 := fun (n_ : Nat) => (show ((((w42.drewN n_).setCell ⟨gb308, 0, none⟩ (.int .i16 ((rd_T103 l0 (ji20)).f0))).setCell ⟨gb308, 1, none⟩ (.int .i8 ((rd_T103 l0 (ji20)).f1)))).cell? _ = some _ from hx309_1)); clear hn309_0; clear hn309_1; replace p309 := eq_true p309; replace q309 := eq_true q309)))
                     go_roundg kj7
                     case measure => have := HJ1.out; have := HK2.out; have := HJ7.out; omega
                     case rel => exact ⟨(wrap64 (x16_2 + 1)), vv, H', ⟨by have := HJ1.out; have := HK2.out; have := HJ7.out; omega⟩, ⟨be HB⟩⟩
                   ·rw [if_neg c36] at H
                    exact absurd H (by simp)
                  ·rw [if_neg c35] at H
                   exact absurd H (by simp)
                 ·rw [if_neg c33] at H
                  have c33b0 : decide (1 < x16_2) = false := decide_eq_false c33
                  clear c33
                  have H' := am H
                  clear H
                  have p307 : 0 ≤ ((ji20) : Int) := of_decide_eq_true (by first | (with_reducible assumption) | assumption)
                  have q307 : (ji20) < (l0.length : Int) := of_decide_eq_true (by first | (with_reducible assumption) | assumption)
                  obtain ⟨ad307, e307, hx307_0, hx307_1⟩ := at_T103 HR0.out (ji20) p307 q307
                  obtain rfl : ad305 = ad307 := (by injection e307)
                  replace hx307_0 := (HB.out.cell (World.block_lt_of_cell? w _ hx307_0)).trans hx307_0
                  replace hx307_1 := (HB.out.cell (World.block_lt_of_cell? w _ hx307_1)).trans hx307_1
                  replace p307 := eq_true p307
                  replace q307 := eq_true q307
                  go_wp2_with (first | ((with_reducible refine gate_dst (N := 5) rfl ?_); (try (refine gate_guard (by rfl) ?_; dsimp only)); refine bxe (N := 5) (cs := #[.int .i16 0, .int .i8 0]) (t := 103) ?_; intro gb308 hg w46 hbox hb; have BK308 := am (hbox); have GW308 := am (gN hg (below_size (be HB))); have GE308 := am (gN hg (below_size (be HB))); have NB306_308 := nL BK306 hg; have NB308_306 := nR BK306 hg; replace BK306 := bB BK306 hb; replace HB := am (below_step (be HB) hb); clear hb hbox hg; have hnb47 := NB308_306.out; have hnc47 := NB306_308.out; obtain ⟨hcz48_0, hcz48_1, hfz48_0, hfz48_1⟩ := bx2 BK308; obtain ⟨hcz49_0, hcz49_1, hfz49_0, hfz49_1⟩ := bx2 BK306))
                  repeat (go_quiet (first | ((with_reducible refine gate_dst (N := 5) rfl ?_); (try (refine gate_guard (by rfl) ?_; dsimp only)); refine bxe (N := 5) (cs := #[.int .i16 0, .int .i8 0]) (t := 103) ?_; intro gb308 hg w46 hbox hb; have BK308 := am (hbox); have GW308 := am (gN hg (below_size (be HB))); have GE308 := am (gN hg (below_size (be HB))); have NB306_308 := nL BK306 hg; have NB308_306 := nR BK306 hg; replace BK306 := bB BK306 hb; replace HB := am (below_step (be HB) hb); clear hb hbox hg; have hnb47 := NB308_306.out; have hnc47 := NB306_308.out; obtain ⟨hcz48_0, hcz48_1, hfz48_0, hfz48_1⟩ := bx2 BK308; obtain ⟨hcz49_0, hcz49_1, hfz49_0, hfz49_1⟩ := bx2 BK306)); try go_wp2_with (first | ((with_reducible refine gate_dst (N := 5) rfl ?_); (try (refine gate_guard (by rfl) ?_; dsimp only)); refine bxe (N := 5) (cs := #[.int .i16 0, .int .i8 0]) (t := 103) ?_; intro gb308 hg w46 hbox hb; have BK308 := am (hbox); have GW308 := am (gN hg (below_size (be HB))); have GE308 := am (gN hg (below_size (be HB))); have NB306_308 := nL BK306 hg; have NB308_306 := nR BK306 hg; replace BK306 := bB BK306 hb; replace HB := am (below_step (be HB) hb); clear hb hbox hg; have hnb47 := NB308_306.out; have hnc47 := NB306_308.out; obtain ⟨hcz48_0, hcz48_1, hfz48_0, hfz48_1⟩ := bx2 BK308; obtain ⟨hcz49_0, hcz49_1, hfz49_0, hfz49_1⟩ := bx2 BK306)))
                  go_roundg kj7
                  case measure => have := HJ1.out; have := HK2.out; have := HJ7.out; omega
                  case rel => exact ⟨(wrap64 (x16_2 + 1)), vv, H', ⟨by have := HJ1.out; have := HK2.out; have := HJ7.out; omega⟩, ⟨be HB⟩⟩
              ·rw [if_neg c22] at H
               exact absurd H (by simp)
             ·rw [if_neg c21] at H
              exact absurd H (by simp)
        ·rw [if_neg c7] at H
         exact absurd H (by simp)
       ·rw [if_neg c6] at H
        exact absurd H (by simp)
      ·rw [if_neg c5] at H
       have c5b0 : decide (x16_2 < (l0.length : Int)) = false := decide_eq_false c5
       clear c5
       obtain rfl := Option.some.inj H
       go_wp2
       repeat (go_quiet (fail); try go_wp2)
       go_ret
       exact ⟨by first | rfl | (simp [errW_none, errW_some] <;> rfl) | (simp [*, errW_none, errW_some] <;> rfl), be HB⟩

/-! ### impl_tidesCode: function 154 -/
mutual
def impl_tidesCode.l0 : Nat → List Int → List Int → Int → Int → List Int → Int → Int → Option (Int)
 | 0, _, _, _, _, _, _, _ => none
 | k + 1, x1, x2, x7, x8, x21, x22, x23 => if x23 < x22 then (if 0 ≤ x23 then (if x23 < (x21.length : Int) then (if (rd x21 x23) < x7 then (some 2) else (if (rd x21 x23) > x8 then (some 2) else (if x23 > 0 then (if 0 ≤ (wrap64 (x23 - 1)) then (if (wrap64 (x23 - 1)) < (x1.length : Int) then (if (rd x21 x23) < (rd x1 (wrap64 (x23 - 1))) then (some 2) else (impl_tidesCode.l0 k x1 x2 x7 x8 x21 x22 (wrap64 (x23 + 1)))) else (none)) else (none)) else (impl_tidesCode.l0 k x1 x2 x7 x8 x21 x22 (wrap64 (x23 + 1)))))) else (none)) else (none)) else (impl_tidesCode.l1 k x2 (x2.length : Int) 0)
def impl_tidesCode.l1 : Nat → List Int → Int → Int → Option (Int)
 | 0, _, _, _ => none
 | k + 1, x50, x51, x52 => if x52 < x51 then (if 0 ≤ x52 then (if x52 < (x50.length : Int) then (if (rd x50 x52) < 0 then (some 2) else (if (rd x50 x52) > 100 then (some 2) else (impl_tidesCode.l1 k x50 x51 (wrap64 (x52 + 1))))) else (none)) else (none)) else (some 0)
end
def impl_tidesCode.f (k : Nat) (l0 : List (S103)) (l1 : List Int) (l2 : List Int) : Option (Int) := (impl_ValidTides.f k l0).bind fun t310 => (if t310 = true then ((impl_span.f l0).bind fun bt311 => (impl_tidesCode.l0 k l1 l2 bt311.1 bt311.2 l1 (l1.length : Int) 0)) else (some 1))
set_option maxHeartbeats 8000000 in
set_option maxRecDepth 100000 in
theorem impl_tidesCode.calls (k : Nat) (A0 : Option Addr) (c0 : Nat) (l0 : List (S103)) (A1 : Option Addr) (c1 : Nat) (l1 : List Int) (A2 : Option Addr) (c2 : Nat) (l2 : List Int) (r : Int) (w : World) (hr0 : Kd.C k103 w A0 l0.length l0) (hc0 : l0.length ≤ c0) (hr1 : Kd.C (Kd.int .i64) w A1 l1.length l1) (hc1 : l1.length ≤ c1) (hr2 : Kd.C (Kd.int .i64) w A2 l2.length l2) (hc2 : l2.length ≤ c2) (h : impl_tidesCode.f k l0 l1 l2 = some r) :
  Calls Try.prog 154 #[.slice A0 l0.length c0, .slice A1 l1.length c1, .slice A2 l2.length c2] w fun e w' => e = .returned (.int .i64 r) ∧ Below w.heap.size w w' := by
 have HR0 := am hr0
 have HC0 := am hc0
 clear hr0 hc0
 have HR1 := am hr1
 have HC1 := am hc1
 clear hr1 hc1
 have HR2 := am hr2
 have HC2 := am hc2
 clear hr2 hc2
 have HB := am (Below.refl w.heap.size w)
 have H : ((impl_ValidTides.f k l0).bind fun t310 => (if t310 = true then ((impl_span.f l0).bind fun bt311 => (impl_tidesCode.l0 k l1 l2 bt311.1 bt311.2 l1 (l1.length : Int) 0)) else (some 1))) = some r := h
 clear h
 replace H := Option.bind_eq_some_iff.mp H
 obtain ⟨t310, A40, H⟩ := H
 try dsimp only at H
 have A4 := am A40
 clear A40
 by_cases c5 : t310 = true
 ·subst c5
  rw [if_pos rfl] at H
  replace H := Option.bind_eq_some_iff.mp H
  obtain ⟨⟨t311, t312⟩, A60, H⟩ := H
  try dsimp only at H
  have A6 := am A60
  clear A60
  have H' := am H
  clear H
  go_enter Try.func154, Try.ntmps154
  go_wp2_with (first | ((with_reducible refine gate_callee (f := 148) rfl ?_); refine gL (some 14) Try.func148 #[.slice A0 l0.length c0] ?_; (with_reducible refine (impl_ValidTides.calls k _ _ l0 true _ ?side1 ?side2 A4.out).mono ?_); (case side1 => repeat (first | exact HR0.out | (with_reducible refine Kd.C_alloc ?_ _) | (with_reducible refine Kd.C_drewN ?_ _) | (with_reducible refine Kd.C_drew ?_))); (case side2 => exact HC0.out); rintro e w7 ⟨rfl, hb⟩; refine ⟨_, rfl, ?_⟩; replace HB := am (below_step (be HB) hb); (try clear hb); (try clear hb2); (try clear hk); (try clear hi)) | ((with_reducible refine gate_callee (f := 149) rfl ?_); refine gL (some 18) Try.func149 #[.slice A0 l0.length c0] ?_; (with_reducible refine (impl_span.calls _ _ l0 t311 t312 _ ?side1 ?side2 A6.out).mono ?_); (case side1 => repeat (first | exact (Kd.C_below HR0.out HB.out) | (with_reducible refine Kd.C_alloc ?_ _) | (with_reducible refine Kd.C_drewN ?_ _) | (with_reducible refine Kd.C_drew ?_))); (case side2 => exact HC0.out); rintro e w' ⟨rfl, ⟨nd, rfl⟩⟩; refine ⟨_, rfl, ?_⟩))
  go_loopg [23] k (fun kq v23 w' => ∃ (x23_1 : Int), v23 = .int .i64 x23_1 ∧ Aside0 (impl_tidesCode.l0 kq l1 l2 t311 t312 l1 (l1.length : Int) x23_1 = some r) ∧ Aside0 (kq ≤ k) ∧ Aside0 (Below w.heap.size w w'))
  case atStart => exact ⟨(0), vv, H', ⟨Nat.le_refl _⟩, ⟨be HB⟩⟩
  case round =>
   clear H'
   try clear c1
   try clear c2
   try clear p2
   try clear c5
   obtain ⟨x23_1, rfl, HA, HK1, HB⟩ := hrel
   cases gk with
   | zero => exact absurd HA.out (by simp [impl_tidesCode.l0])
   | succ k1 =>
    have H := HA.out
    clear HA
    simp only [impl_tidesCode.l0] at H
    by_cases c8 : x23_1 < (l1.length : Int)
    ·rw [if_pos c8] at H
     have c8b0 : decide (x23_1 < (l1.length : Int)) = true := decide_eq_true c8
     clear c8
     by_cases c9 : 0 ≤ x23_1
     ·rw [if_pos c9] at H
      have c9b0 : decide (0 ≤ x23_1) = true := decide_eq_true c9
      have c9b1 : 0 ≤ x23_1 := c9
      clear c9
      by_cases c10 : x23_1 < (l1.length : Int)
      ·rw [if_pos c10] at H
       have c10b0 : decide (x23_1 < (l1.length : Int)) = true := decide_eq_true c10
       clear c10
       by_cases c11 : (rd l1 x23_1) < t311
       ·rw [if_pos c11] at H
        have c11b0 : decide ((rd l1 x23_1) < t311) = true := decide_eq_true c11
        clear c11
        obtain rfl := Option.some.inj H
        have p313 : 0 ≤ (x23_1 : Int) := of_decide_eq_true (by first | (with_reducible assumption) | assumption)
        have q313 : x23_1 < (l1.length : Int) := of_decide_eq_true (by first | (with_reducible assumption) | assumption)
        obtain ⟨ad313, e313, hx313_0⟩ := Kd.at_int HR1.out x23_1 p313 q313
        cases e313
        replace hx313_0 := (HB.out.cell (World.block_lt_of_cell? w _ hx313_0)).trans hx313_0
        replace p313 := eq_true p313
        replace q313 := eq_true q313
        go_wp2
        go_ret
        exact ⟨by first | rfl | (simp [errW_none, errW_some] <;> rfl) | (simp [*, errW_none, errW_some] <;> rfl), be HB⟩
       ·rw [if_neg c11] at H
        have c11b0 : decide ((rd l1 x23_1) < t311) = false := decide_eq_false c11
        clear c11
        by_cases c12 : (rd l1 x23_1) > t312
        ·rw [if_pos c12] at H
         have c12b0 : decide (t312 < (rd l1 x23_1)) = true := decide_eq_true c12
         clear c12
         obtain rfl := Option.some.inj H
         have p313 : 0 ≤ (x23_1 : Int) := of_decide_eq_true (by first | (with_reducible assumption) | assumption)
         have q313 : x23_1 < (l1.length : Int) := of_decide_eq_true (by first | (with_reducible assumption) | assumption)
         obtain ⟨ad313, e313, hx313_0⟩ := Kd.at_int HR1.out x23_1 p313 q313
         cases e313
         replace hx313_0 := (HB.out.cell (World.block_lt_of_cell? w _ hx313_0)).trans hx313_0
         replace p313 := eq_true p313
         replace q313 := eq_true q313
         go_wp2
         go_ret
         exact ⟨by first | rfl | (simp [errW_none, errW_some] <;> rfl) | (simp [*, errW_none, errW_some] <;> rfl), be HB⟩
        ·rw [if_neg c12] at H
         have c12b0 : decide (t312 < (rd l1 x23_1)) = false := decide_eq_false c12
         clear c12
         by_cases c13 : x23_1 > 0
         ·rw [if_pos c13] at H
          have c13b0 : decide (0 < x23_1) = true := decide_eq_true c13
          clear c13
          obtain ⟨ji14, hji14⟩ : ∃ j_ : Int, (wrap64 (x23_1 - 1)) = j_ := ⟨_, rfl⟩
          replace H : (if 0 ≤ (ji14) then (if (ji14) < (l1.length : Int) then (if (rd l1 x23_1) < (rd l1 (ji14)) then (some 2) else (impl_tidesCode.l0 k1 l1 l2 t311 t312 l1 (l1.length : Int) (wrap64 (x23_1 + 1)))) else (none)) else (none)) = some r := by first | (rw [hji14] at H; exact H) | (simp only [hji14] at H ⊢; exact H)
          have hji14w : (IntKind.i64.wrap (x23_1 - 1)) = ji14 := (i64_w _).trans hji14
          by_cases c15 : 0 ≤ (ji14)
          ·rw [if_pos c15] at H
           have c15b0 : decide (0 ≤ (ji14)) = true := decide_eq_true c15
           have c15b1 : 0 ≤ (ji14) := c15
           clear c15
           by_cases c16 : (ji14) < (l1.length : Int)
           ·rw [if_pos c16] at H
            have c16b0 : decide ((ji14) < (l1.length : Int)) = true := decide_eq_true c16
            clear c16
            by_cases c17 : (rd l1 x23_1) < (rd l1 (ji14))
            ·rw [if_pos c17] at H
             have c17b0 : decide ((rd l1 x23_1) < (rd l1 (ji14))) = true := decide_eq_true c17
             clear c17
             obtain rfl := Option.some.inj H
             have p313 : 0 ≤ (x23_1 : Int) := of_decide_eq_true (by first | (with_reducible assumption) | assumption)
             have q313 : x23_1 < (l1.length : Int) := of_decide_eq_true (by first | (with_reducible assumption) | assumption)
             obtain ⟨ad313, e313, hx313_0⟩ := Kd.at_int HR1.out x23_1 p313 q313
             cases e313
             replace hx313_0 := (HB.out.cell (World.block_lt_of_cell? w _ hx313_0)).trans hx313_0
             replace p313 := eq_true p313
             replace q313 := eq_true q313
             have p314 : 0 ≤ ((ji14) : Int) := of_decide_eq_true (by first | (with_reducible assumption) | assumption)
             have q314 : (ji14) < (l1.length : Int) := of_decide_eq_true (by first | (with_reducible assumption) | assumption)
             obtain ⟨ad314, e314, hx314_0⟩ := Kd.at_int HR1.out (ji14) p314 q314
             obtain rfl : ad313 = ad314 := (by injection e314)
             replace hx314_0 := (HB.out.cell (World.block_lt_of_cell? w _ hx314_0)).trans hx314_0
             replace p314 := eq_true p314
             replace q314 := eq_true q314
             go_wp2
             go_ret
             exact ⟨by first | rfl | (simp [errW_none, errW_some] <;> rfl) | (simp only [← hji14]; first | rfl | (simp [errW_none, errW_some] <;> rfl)) | (simp [*, errW_none, errW_some] <;> rfl), be HB⟩
            ·rw [if_neg c17] at H
             have c17b0 : decide ((rd l1 x23_1) < (rd l1 (ji14))) = false := decide_eq_false c17
             clear c17
             have H' := am H
             clear H
             have p313 : 0 ≤ (x23_1 : Int) := of_decide_eq_true (by first | (with_reducible assumption) | assumption)
             have q313 : x23_1 < (l1.length : Int) := of_decide_eq_true (by first | (with_reducible assumption) | assumption)
             obtain ⟨ad313, e313, hx313_0⟩ := Kd.at_int HR1.out x23_1 p313 q313
             cases e313
             replace hx313_0 := (HB.out.cell (World.block_lt_of_cell? w _ hx313_0)).trans hx313_0
             replace p313 := eq_true p313
             replace q313 := eq_true q313
             have p314 : 0 ≤ ((ji14) : Int) := of_decide_eq_true (by first | (with_reducible assumption) | assumption)
             have q314 : (ji14) < (l1.length : Int) := of_decide_eq_true (by first | (with_reducible assumption) | assumption)
             obtain ⟨ad314, e314, hx314_0⟩ := Kd.at_int HR1.out (ji14) p314 q314
             obtain rfl : ad313 = ad314 := (by injection e314)
             replace hx314_0 := (HB.out.cell (World.block_lt_of_cell? w _ hx314_0)).trans hx314_0
             replace p314 := eq_true p314
             replace q314 := eq_true q314
             go_wp2
             go_roundg k1
             case measure => have := HK1.out; omega
             case rel => exact ⟨(wrap64 (x23_1 + 1)), vv, H', ⟨by have := HK1.out; omega⟩, ⟨be HB⟩⟩
           ·rw [if_neg c16] at H
            exact absurd H (by simp)
          ·rw [if_neg c15] at H
           exact absurd H (by simp)
         ·rw [if_neg c13] at H
          have c13b0 : decide (0 < x23_1) = false := decide_eq_false c13
          clear c13
          have H' := am H
          clear H
          have p313 : 0 ≤ (x23_1 : Int) := of_decide_eq_true (by first | (with_reducible assumption) | assumption)
          have q313 : x23_1 < (l1.length : Int) := of_decide_eq_true (by first | (with_reducible assumption) | assumption)
          obtain ⟨ad313, e313, hx313_0⟩ := Kd.at_int HR1.out x23_1 p313 q313
          cases e313
          replace hx313_0 := (HB.out.cell (World.block_lt_of_cell? w _ hx313_0)).trans hx313_0
          replace p313 := eq_true p313
          replace q313 := eq_true q313
          go_wp2
          go_roundg k1
          case measure => have := HK1.out; omega
          case rel => exact ⟨(wrap64 (x23_1 + 1)), vv, H', ⟨by have := HK1.out; omega⟩, ⟨be HB⟩⟩
      ·rw [if_neg c10] at H
       exact absurd H (by simp)
     ·rw [if_neg c9] at H
      exact absurd H (by simp)
    ·rw [if_neg c8] at H
     have c8b0 : decide (x23_1 < (l1.length : Int)) = false := decide_eq_false c8
     clear c8
     have H' := am H
     clear H
     go_wp2
     go_loopg [52] k1 (fun kq v52 w' => ∃ (x52_2 : Int), v52 = .int .i64 x52_2 ∧ Aside0 (impl_tidesCode.l1 kq l2 (l2.length : Int) x52_2 = some r) ∧ Aside0 (kq ≤ k1) ∧ Aside0 (Below w.heap.size w w'))
     case atStart => exact ⟨(0), vv, H', ⟨Nat.le_refl _⟩, ⟨be HB⟩⟩
     case round =>
      clear H'
      try clear c1
      try clear c2
      try clear p2
      try clear p3
      try clear q3
      try clear hx3
      try clear c5
      try clear p6
      try clear c8
      try clear c8b0
      try clear c9
      try clear c9b0
      try clear c9b1
      try clear c10
      try clear c10b0
      try clear c11
      try clear c11b0
      try clear c12
      try clear c12b0
      try clear c13
      try clear c13b0
      try clear c14
      try clear c15
      try clear c15b0
      try clear c15b1
      try clear c16
      try clear c16b0
      try clear c17
      try clear c17b0
      try clear hx313_0
      try clear hx314_0
      try clear p2
      try clear p313
      try clear p314
      try clear q313
      try clear q314
      obtain ⟨x52_2, rfl, HA, HK2, HB⟩ := hrel
      cases gk with
      | zero => exact absurd HA.out (by simp [impl_tidesCode.l1])
      | succ k2 =>
       have H := HA.out
       clear HA
       simp only [impl_tidesCode.l1] at H
       by_cases c18 : x52_2 < (l2.length : Int)
       ·rw [if_pos c18] at H
        have c18b0 : decide (x52_2 < (l2.length : Int)) = true := decide_eq_true c18
        clear c18
        by_cases c19 : 0 ≤ x52_2
        ·rw [if_pos c19] at H
         have c19b0 : decide (0 ≤ x52_2) = true := decide_eq_true c19
         have c19b1 : 0 ≤ x52_2 := c19
         clear c19
         by_cases c20 : x52_2 < (l2.length : Int)
         ·rw [if_pos c20] at H
          have c20b0 : decide (x52_2 < (l2.length : Int)) = true := decide_eq_true c20
          clear c20
          by_cases c21 : (rd l2 x52_2) < 0
          ·rw [if_pos c21] at H
           have c21b0 : decide ((rd l2 x52_2) < 0) = true := decide_eq_true c21
           clear c21
           obtain rfl := Option.some.inj H
           have p315 : 0 ≤ (x52_2 : Int) := of_decide_eq_true (by first | (with_reducible assumption) | assumption)
           have q315 : x52_2 < (l2.length : Int) := of_decide_eq_true (by first | (with_reducible assumption) | assumption)
           obtain ⟨ad315, e315, hx315_0⟩ := Kd.at_int HR2.out x52_2 p315 q315
           cases e315
           replace hx315_0 := (HB.out.cell (World.block_lt_of_cell? w _ hx315_0)).trans hx315_0
           replace p315 := eq_true p315
           replace q315 := eq_true q315
           go_wp2
           go_ret
           exact ⟨by first | rfl | (simp [errW_none, errW_some] <;> rfl) | (simp [*, errW_none, errW_some] <;> rfl), be HB⟩
          ·rw [if_neg c21] at H
           have c21b0 : decide ((rd l2 x52_2) < 0) = false := decide_eq_false c21
           clear c21
           by_cases c22 : (rd l2 x52_2) > 100
           ·rw [if_pos c22] at H
            have c22b0 : decide (100 < (rd l2 x52_2)) = true := decide_eq_true c22
            clear c22
            obtain rfl := Option.some.inj H
            have p315 : 0 ≤ (x52_2 : Int) := of_decide_eq_true (by first | (with_reducible assumption) | assumption)
            have q315 : x52_2 < (l2.length : Int) := of_decide_eq_true (by first | (with_reducible assumption) | assumption)
            obtain ⟨ad315, e315, hx315_0⟩ := Kd.at_int HR2.out x52_2 p315 q315
            cases e315
            replace hx315_0 := (HB.out.cell (World.block_lt_of_cell? w _ hx315_0)).trans hx315_0
            replace p315 := eq_true p315
            replace q315 := eq_true q315
            go_wp2
            go_ret
            exact ⟨by first | rfl | (simp [errW_none, errW_some] <;> rfl) | (simp [*, errW_none, errW_some] <;> rfl), be HB⟩
           ·rw [if_neg c22] at H
            have c22b0 : decide (100 < (rd l2 x52_2)) = false := decide_eq_false c22
            clear c22
            have H' := am H
            clear H
            have p315 : 0 ≤ (x52_2 : Int) := of_decide_eq_true (by first | (with_reducible assumption) | assumption)
            have q315 : x52_2 < (l2.length : Int) := of_decide_eq_true (by first | (with_reducible assumption) | assumption)
            obtain ⟨ad315, e315, hx315_0⟩ := Kd.at_int HR2.out x52_2 p315 q315
            cases e315
            replace hx315_0 := (HB.out.cell (World.block_lt_of_cell? w _ hx315_0)).trans hx315_0
            replace p315 := eq_true p315
            replace q315 := eq_true q315
            go_wp2
            go_roundg k2
            case measure => have := HK1.out; have := HK2.out; omega
            case rel => exact ⟨(wrap64 (x52_2 + 1)), vv, H', ⟨by have := HK1.out; have := HK2.out; omega⟩, ⟨be HB⟩⟩
         ·rw [if_neg c20] at H
          exact absurd H (by simp)
        ·rw [if_neg c19] at H
         exact absurd H (by simp)
       ·rw [if_neg c18] at H
        have c18b0 : decide (x52_2 < (l2.length : Int)) = false := decide_eq_false c18
        clear c18
        obtain rfl := Option.some.inj H
        go_wp2
        go_ret
        exact ⟨by first | rfl | (simp [errW_none, errW_some] <;> rfl) | (simp [*, errW_none, errW_some] <;> rfl), be HB⟩
 ·replace c5 := Bool.eq_false_iff.mpr c5
  subst c5
  have H1 : (some 1) = some r := by rw [if_neg (show ¬ (false = true) by decide)] at H; exact H
  clear H
  have H := H1
  clear H1
  obtain rfl := Option.some.inj H
  go_enter Try.func154, Try.ntmps154
  go_wp2_with (first | ((with_reducible refine gate_callee (f := 148) rfl ?_); refine gL (some 14) Try.func148 #[.slice A0 l0.length c0] ?_; (with_reducible refine (impl_ValidTides.calls k _ _ l0 false _ ?side1 ?side2 A4.out).mono ?_); (case side1 => repeat (first | exact HR0.out | (with_reducible refine Kd.C_alloc ?_ _) | (with_reducible refine Kd.C_drewN ?_ _) | (with_reducible refine Kd.C_drew ?_))); (case side2 => exact HC0.out); rintro e w23 ⟨rfl, hb⟩; refine ⟨_, rfl, ?_⟩; replace HB := am (below_step (be HB) hb); (try clear hb); (try clear hb2); (try clear hk); (try clear hi)))
  go_ret
  exact ⟨by first | rfl | (simp [errW_none, errW_some] <;> rfl) | (simp [*, errW_none, errW_some] <;> rfl), be HB⟩

end Go.Proofs.Ytcollbifdfhfoaa.PFnExactAfloatAt
