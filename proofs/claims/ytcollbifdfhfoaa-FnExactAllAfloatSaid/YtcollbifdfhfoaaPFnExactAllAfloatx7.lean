-- Written by a program out of this seat's translation (functions, and that the code comes to them).
import Derived.Test.YtcollbifdfhfoaaPFnExactAllAfloatx0
namespace Go.Proofs.Ytcollbifdfhfoaa.PFnExactAllAfloat
open Go.RowKit Go.Proofs.YtcollbifdfhfoaaW.PrintWords Go.Proofs.YtcollbifdfhfoaaW.PrintLast Go.Proofs.YtcollbifdfhfoaaW.PrintMore
attribute [local go_sem] max2_int min2_int max_two min_two max_three min_three max_four min_four   -- for this text's walks alone
open Go.Proofs.Ytcollbifdfhfoaa.Bay Go.Proofs.Ytcollbifdfhfoaa.Short
attribute [local go_sem ↓] lv26_eq lv28_eq
attribute [local go_sem] lvv_set lvv_drewN lvv_drew lv26_run BayAt26_set BayAt26_drewN BayAt26_drew lv28_run BayAt28_set BayAt28_drewN BayAt28_drew
set_option linter.unusedVariables false
set_option linter.unusedSimpArgs false

/-! ### spec_l02At: function 174 -/
mutual
def spec_l02At.l0 : Nat → List (S103) → Int → Int → Option (Int × Int × Int × Int × Int × Int × Bool)
 | 0, _, _, _ => none
 | k + 1, x0, x1, x5 => if x5 < (x0.length : Int) then (if 0 ≤ (wrap64 (x5 - 1)) then (if (wrap64 (x5 - 1)) < (x0.length : Int) then (if 0 ≤ x5 then (if x1 < (wrap64 ((rd_T103 x0 (wrap64 (x5 - 1))).f0)) then (spec_l02At.j1 k x0 x1 x5 (wrap64 ((rd_T103 x0 (wrap64 (x5 - 1))).f0)) (wrap64 ((rd_T103 x0 x5).f0)) true) else (if x1 > (wrap64 ((rd_T103 x0 x5).f0)) then (spec_l02At.j1 k x0 x1 x5 (wrap64 ((rd_T103 x0 (wrap64 (x5 - 1))).f0)) (wrap64 ((rd_T103 x0 x5).f0)) true) else (if x1 = (wrap64 ((rd_T103 x0 x5).f0)) then (spec_l02At.j1 k x0 x1 x5 (wrap64 ((rd_T103 x0 (wrap64 (x5 - 1))).f0)) (wrap64 ((rd_T103 x0 x5).f0)) (decide (x5 < (wrap64 ((x0.length : Int) - 1))))) else (spec_l02At.j1 k x0 x1 x5 (wrap64 ((rd_T103 x0 (wrap64 (x5 - 1))).f0)) (wrap64 ((rd_T103 x0 x5).f0)) false)))) else (none)) else (none)) else (none)) else (some (0, 0, 0, 0, 0, 0, false))
def spec_l02At.j1 : Nat → List (S103) → Int → Int → Int → Int → Bool → Option (Int × Int × Int × Int × Int × Int × Bool)
 | 0, _, _, _, _, _, _ => none
 | k + 1, x0, x1, x5, x6, x7, x47 => if x47 = true then (spec_l02At.l0 k x0 x1 (wrap64 (x5 + 1))) else (if x1 = x7 then (if 0 ≤ x5 then (if x5 < (x0.length : Int) then (some ((rd_T103 x0 x5).f0, (rd_T103 x0 x5).f1, (rd_T103 x0 x5).f0, (rd_T103 x0 x5).f1, 0, 0, true)) else (none)) else (none)) else (if 0 ≤ (wrap64 (x5 - 1)) then (if (wrap64 (x5 - 1)) < (x0.length : Int) then (if 0 ≤ x5 then (if x5 < (x0.length : Int) then (if (wrap64 (x7 - x6)) = 0 then (none) else (some ((rd_T103 x0 (wrap64 (x5 - 1))).f0, (rd_T103 x0 (wrap64 (x5 - 1))).f1, (rd_T103 x0 x5).f0, (rd_T103 x0 x5).f1, wrap64 (Int.tdiv (wrap64 (6 * (wrap64 (x1 - x6)))) (wrap64 (x7 - x6))), Int.tmod (wrap64 (6 * (wrap64 (x1 - x6)))) (wrap64 (x7 - x6)), ((wrap64 (6 * (wrap64 (x1 - x6)))) == 0)))) else (none)) else (none)) else (none)) else (none)))
end
def spec_l02At.f (k : Nat) (l0 : List (S103)) (a1 : Int) : Option (Int × Int × Int × Int × Int × Int × Bool) := spec_l02At.l0 k l0 a1 1
def spec_l02At.T8 : Bool × List (List Nat × List Nat) := (true, [([], []), ([], []), ([0, 1], [0, 1]), ([2], [2]), ([], []), ([], []), ([4, 5], [4, 5]), ([6], [6]), ([3, 7], [3, 7]), ([8, 0, 1, 2, 3, 4, 5, 6, 7, 8], [8])])
def spec_l02At.B8 : List Nat := [0, 0, 3, 7, 0, 0, 48, 112, 255, 511]
theorem spec_l02At.tab8 : rtab .any (opsOf Try.f174 8) = spec_l02At.T8 := by kernel_rfl
theorem spec_l02At.bits8 : waitsOk spec_l02At.T8.2 spec_l02At.B8 = true := by kernel_rfl
def spec_l02At.T10 : Bool × List (List Nat × List Nat) := (true, [([], []), ([], []), ([1], [1]), ([0, 2], [0, 2]), ([3], [3]), ([], []), ([], []), ([5, 6], [5, 6]), ([7], [7]), ([], []), ([], []), ([], []), ([10, 11], [10, 11]), ([9, 12], [9, 12]), ([], []), ([], []), ([], []), ([15, 16], [15, 16]), ([14, 17], [14, 17]), ([], []), ([19], [19]), ([4, 8, 13, 18, 20], [4, 8, 13, 18, 20]), ([21, 0, 1, 2, 3, 4, 5, 6, 7, 8, 9, 10, 11, 12, 13, 14, 15, 16, 17, 18, 19, 20, 21], [21])])
def spec_l02At.B10 : List Nat := [0, 0, 2, 7, 15, 0, 0, 96, 224, 0, 0, 0, 3072, 7680, 0, 0, 0, 98304, 245760, 0, 524288, 2097151, 4194303]
theorem spec_l02At.tab10 : rtab .any (opsOf Try.f174 10) = spec_l02At.T10 := by kernel_rfl
theorem spec_l02At.bits10 : waitsOk spec_l02At.T10.2 spec_l02At.B10 = true := by kernel_rfl
set_option maxHeartbeats 8000000 in
set_option maxRecDepth 100000 in
theorem spec_l02At.calls (k : Nat) (A0 : Option Addr) (c0 : Nat) (l0 : List (S103)) (a1 : Int) (r1 : Int) (r2 : Int) (r3 : Int) (r4 : Int) (r5 : Int) (r6 : Int) (r7 : Bool) (w : World) (hr0 : Kd.C k103 w A0 l0.length l0) (hc0 : l0.length ≤ c0) (h : spec_l02At.f k l0 a1 = some (r1, r2, r3, r4, r5, r6, r7)) :
  Calls Try.prog 174 #[.slice A0 l0.length c0, .int .i64 a1] w fun e w' => e = .returned (.agg #[.int .i16 r1, .int .i8 r2, .int .i16 r3, .int .i8 r4, .int .i64 r5, .int .i64 r6, .bool r7]) ∧ Below w.heap.size w w' := by
 have hu170 := Try.underlying170
 have hu103 := Try.underlying103
 have HR0 := am hr0
 have HC0 := am hc0
 clear hr0 hc0
 have HB := am (Below.refl w.heap.size w)
 have H : (spec_l02At.l0 k l0 a1 1) = some (r1, r2, r3, r4, r5, r6, r7) := h
 clear h
 have H' := am H
 clear H
 go_enter Try.func174, Try.ntmps174
 go_wp2_with (first | ((with_reducible refine gate_dst (N := 4) rfl ?_); (try (refine gate_guard (by rfl) ?_; dsimp only)); refine bxe (N := 4) (cs := #[.int .i16 0, .int .i8 0, .int .i16 0, .int .i8 0, .int .i64 0, .int .i64 0, .bool false]) (t := 170) ?_; intro gb209 hg w3 hbox hb; have BK209 := am (hbox); have GW209 := am (gN hg (below_size (be HB))); have GE209 := am (gN hg (below_size (be HB))); replace HB := am (below_step (be HB) hb); clear hb hbox hg))
 go_loopg [5] k (fun kq v5 w' => ∃ (x5_1 : Int) (x210000_1 : Int) (x210001_1 : Int) (x210002_1 : Int) (x210003_1 : Int) (x210004_1 : Int) (x210005_1 : Int) (x210006_1 : Bool), v5 = .int .i64 x5_1 ∧ Aside0 (spec_l02At.l0 kq l0 a1 x5_1 = some (r1, r2, r3, r4, r5, r6, r7)) ∧ Aside0 (kq ≤ k) ∧ Aside0 (w'.heap[gb209]? = some (.cells #[.int .i16 x210000_1, .int .i8 x210001_1, .int .i16 x210002_1, .int .i8 x210003_1, .int .i64 x210004_1, .int .i64 x210005_1, .bool x210006_1] 170 (0, 0))) ∧ Aside0 (Below w.heap.size w w'))
 case atStart => exact ⟨(1), (0), (0), (0), (0), (0), (0), (false), vx, H', ⟨Nat.le_refl _⟩, ⟨kb BK209⟩, ⟨be HB⟩⟩
 case round =>
  clear H'
  try clear c1
  try clear p2
  obtain ⟨x5_1, x210000_1, x210001_1, x210002_1, x210003_1, x210004_1, x210005_1, x210006_1, rfl, HA, HK1, BK209, HB⟩ := hrel
  cases gk with
  | zero => exact absurd HA.out (by simp [spec_l02At.l0])
  | succ k1 =>
   have H := HA.out
   clear HA
   simp only [spec_l02At.l0] at H
   by_cases c4 : x5_1 < (l0.length : Int)
   ·rw [if_pos c4] at H
    have c4b0 : decide (x5_1 < (l0.length : Int)) = true := decide_eq_true c4
    clear c4
    obtain ⟨ji5, hji5⟩ : ∃ j_ : Int, (wrap64 (x5_1 - 1)) = j_ := ⟨_, rfl⟩
    replace H : (if 0 ≤ (ji5) then (if (ji5) < (l0.length : Int) then (if 0 ≤ x5_1 then (if a1 < (wrap64 ((rd_T103 l0 (ji5)).f0)) then (spec_l02At.j1 k1 l0 a1 x5_1 (wrap64 ((rd_T103 l0 (ji5)).f0)) (wrap64 ((rd_T103 l0 x5_1).f0)) true) else (if a1 > (wrap64 ((rd_T103 l0 x5_1).f0)) then (spec_l02At.j1 k1 l0 a1 x5_1 (wrap64 ((rd_T103 l0 (ji5)).f0)) (wrap64 ((rd_T103 l0 x5_1).f0)) true) else (if a1 = (wrap64 ((rd_T103 l0 x5_1).f0)) then (spec_l02At.j1 k1 l0 a1 x5_1 (wrap64 ((rd_T103 l0 (ji5)).f0)) (wrap64 ((rd_T103 l0 x5_1).f0)) (decide (x5_1 < (wrap64 ((l0.length : Int) - 1))))) else (spec_l02At.j1 k1 l0 a1 x5_1 (wrap64 ((rd_T103 l0 (ji5)).f0)) (wrap64 ((rd_T103 l0 x5_1).f0)) false)))) else (none)) else (none)) else (none)) = some (r1, r2, r3, r4, r5, r6, r7) := by first | (rw [hji5] at H; exact H) | (simp only [hji5] at H ⊢; exact H)
    have hji5w : (IntKind.i64.wrap (x5_1 - 1)) = ji5 := (i64_w _).trans hji5
    by_cases c6 : 0 ≤ (ji5)
    ·rw [if_pos c6] at H
     have c6b0 : decide (0 ≤ (ji5)) = true := decide_eq_true c6
     have c6b1 : 0 ≤ (ji5) := c6
     clear c6
     by_cases c7 : (ji5) < (l0.length : Int)
     ·rw [if_pos c7] at H
      have c7b0 : decide ((ji5) < (l0.length : Int)) = true := decide_eq_true c7
      clear c7
      by_cases c8 : 0 ≤ x5_1
      ·rw [if_pos c8] at H
       have c8b0 : decide (0 ≤ x5_1) = true := decide_eq_true c8
       have c8b1 : 0 ≤ x5_1 := c8
       clear c8
       have HC9 := am H
       clear H
       have p210 : 0 ≤ ((ji5) : Int) := of_decide_eq_true (by first | (with_reducible assumption) | assumption)
       have q210 : (ji5) < (l0.length : Int) := of_decide_eq_true (by first | (with_reducible assumption) | assumption)
       obtain ⟨ad210, e210, hx210_0, hx210_1⟩ := at_T103 HR0.out (ji5) p210 q210
       cases e210
       replace hx210_0 := (HB.out.cell (World.block_lt_of_cell? w _ hx210_0)).trans hx210_0
       replace hx210_1 := (HB.out.cell (World.block_lt_of_cell? w _ hx210_1)).trans hx210_1
       replace p210 := eq_true p210
       replace q210 := eq_true q210
       have p211 : 0 ≤ (x5_1 : Int) := of_decide_eq_true (by first | (with_reducible assumption) | assumption)
       have q211 : x5_1 < (l0.length : Int) := of_decide_eq_true (by first | (with_reducible assumption) | assumption)
       obtain ⟨ad211, e211, hx211_0, hx211_1⟩ := at_T103 HR0.out x5_1 p211 q211
       obtain rfl : ad210 = ad211 := (by injection e211)
       replace hx211_0 := (HB.out.cell (World.block_lt_of_cell? w _ hx211_0)).trans hx211_0
       replace hx211_1 := (HB.out.cell (World.block_lt_of_cell? w _ hx211_1)).trans hx211_1
       replace p211 := eq_true p211
       replace q211 := eq_true q211
       go_upto_region 6 with (fail)
       go_cut [47] (fun v47 wc => ∃ (kq : Nat) (x47_8 : Bool), v47 = .bool x47_8 ∧ Aside0 (spec_l02At.j1 kq l0 a1 x5_1 (wrap64 ((rd_T103 l0 (ji5)).f0)) (wrap64 ((rd_T103 l0 x5_1).f0)) x47_8 = some (r1, r2, r3, r4, r5, r6, r7)) ∧ Aside0 (kq ≤ k1) ∧ Aside0 (wc.heap[gb209]? = some (.cells #[.int .i16 x210000_1, .int .i8 x210001_1, .int .i16 x210002_1, .int .i8 x210003_1, .int .i64 x210004_1, .int .i64 x210005_1, .bool x210006_1] 170 (0, 0))) ∧ Aside0 (Below w.heap.size w wc))
       case first =>
        have H := HC9.out
        clear HC9
        by_cases c10 : a1 < (wrap64 ((rd_T103 l0 (ji5)).f0))
        ·rw [if_pos c10] at H
         have c10b0 : decide (a1 < (wrap64 ((rd_T103 l0 (ji5)).f0))) = true := decide_eq_true c10
         clear c10
         (first | rw [c10b0] | (simp only [i64_w, i32_w]; rw [c10b0]) | skip)
         have H' := am H
         clear H
         go_wp2
         go_meet
         case rel => exact ⟨_, (true), vx, H', ⟨by have := HK1.out; first | omega | exact Nat.le_refl _⟩, ⟨kb BK209⟩, ⟨be HB⟩⟩
        ·rw [if_neg c10] at H
         have c10b0 : decide (a1 < (wrap64 ((rd_T103 l0 (ji5)).f0))) = false := decide_eq_false c10
         clear c10
         (first | rw [c10b0] | (simp only [i64_w, i32_w]; rw [c10b0]) | skip)
         by_cases c11 : a1 > (wrap64 ((rd_T103 l0 x5_1).f0))
         ·rw [if_pos c11] at H
          have c11b0 : decide ((wrap64 ((rd_T103 l0 x5_1).f0)) < a1) = true := decide_eq_true c11
          clear c11
          have H' := am H
          clear H
          go_wp2
          go_meet
          case rel => exact ⟨_, (true), vx, H', ⟨by have := HK1.out; first | omega | exact Nat.le_refl _⟩, ⟨kb BK209⟩, ⟨be HB⟩⟩
         ·rw [if_neg c11] at H
          have c11b0 : decide ((wrap64 ((rd_T103 l0 x5_1).f0)) < a1) = false := decide_eq_false c11
          clear c11
          by_cases c12 : a1 = (wrap64 ((rd_T103 l0 x5_1).f0))
          ·rw [if_pos c12] at H
           have c12b0 : (a1 == (wrap64 ((rd_T103 l0 x5_1).f0))) = true := beq_iff_eq.mpr c12
           have c12b1 : (a1 != (wrap64 ((rd_T103 l0 x5_1).f0))) = false := bne_eq_false_iff_eq.mpr c12
           clear c12
           have H' := am H
           clear H
           go_wp2
           go_meet
           case rel => exact ⟨_, (decide (x5_1 < (wrap64 ((l0.length : Int) - 1)))), vx, H', ⟨by have := HK1.out; first | omega | exact Nat.le_refl _⟩, ⟨kb BK209⟩, ⟨be HB⟩⟩
          ·rw [if_neg c12] at H
           have c12b0 : (a1 == (wrap64 ((rd_T103 l0 x5_1).f0))) = false := beq_eq_false_iff_ne.mpr c12
           have c12b1 : (a1 != (wrap64 ((rd_T103 l0 x5_1).f0))) = true := bne_iff_ne.mpr c12
           have H' := am H
           clear H
           go_wp2
           go_meet
           case rel => exact ⟨_, (false), vx, H', ⟨by have := HK1.out; first | omega | exact Nat.le_refl _⟩, ⟨kb BK209⟩, ⟨be HB⟩⟩
       case rest =>
        clear HC9
        try clear c1
        try clear p2
        try clear q2
        try clear hx2
        try clear c4
        try clear c4b0
        try clear c6
        try clear c6b0
        try clear c6b1
        try clear p6
        try clear c7
        try clear c7b0
        try clear c8
        try clear c8b0
        try clear c8b1
        try clear c10
        try clear c10b0
        try clear c11
        try clear c11b0
        try clear c12
        try clear c12b0
        try clear c12b1
        try clear hx210_0
        try clear hx210_1
        try clear hx211_0
        try clear hx211_1
        try clear p2
        try clear p210
        try clear p211
        try clear q210
        try clear q211
        obtain ⟨kq, x47_8, rfl, HA, HJ8, BK209, HB⟩ := hcut
        cases kq with
        | zero => exact absurd HA.out (by simp [spec_l02At.j1])
        | succ kj8 =>
         have H := HA.out
         clear HA
         simp only [spec_l02At.j1] at H
         by_cases c13 : x47_8 = true
         ·subst c13
          rw [if_pos rfl] at H
          have H' := am H
          clear H
          go_wp2
          go_roundg kj8
          case measure => have := HK1.out; have := HJ8.out; omega
          case rel => exact ⟨(wrap64 (x5_1 + 1)), (x210000_1), (x210001_1), (x210002_1), (x210003_1), (x210004_1), (x210005_1), (x210006_1), vx, H', ⟨by have := HK1.out; have := HJ8.out; omega⟩, ⟨kb BK209⟩, ⟨be HB⟩⟩
         ·replace c13 := Bool.eq_false_iff.mpr c13
          subst c13
          have H1 : (if a1 = (wrap64 ((rd_T103 l0 x5_1).f0)) then (if 0 ≤ x5_1 then (if x5_1 < (l0.length : Int) then (some ((rd_T103 l0 x5_1).f0, (rd_T103 l0 x5_1).f1, (rd_T103 l0 x5_1).f0, (rd_T103 l0 x5_1).f1, 0, 0, true)) else (none)) else (none)) else (if 0 ≤ (wrap64 (x5_1 - 1)) then (if (wrap64 (x5_1 - 1)) < (l0.length : Int) then (if 0 ≤ x5_1 then (if x5_1 < (l0.length : Int) then (if (wrap64 ((wrap64 ((rd_T103 l0 x5_1).f0)) - (wrap64 ((rd_T103 l0 (ji5)).f0)))) = 0 then (none) else (some ((rd_T103 l0 (wrap64 (x5_1 - 1))).f0, (rd_T103 l0 (wrap64 (x5_1 - 1))).f1, (rd_T103 l0 x5_1).f0, (rd_T103 l0 x5_1).f1, wrap64 (Int.tdiv (wrap64 (6 * (wrap64 (a1 - (wrap64 ((rd_T103 l0 (ji5)).f0)))))) (wrap64 ((wrap64 ((rd_T103 l0 x5_1).f0)) - (wrap64 ((rd_T103 l0 (ji5)).f0))))), Int.tmod (wrap64 (6 * (wrap64 (a1 - (wrap64 ((rd_T103 l0 (ji5)).f0)))))) (wrap64 ((wrap64 ((rd_T103 l0 x5_1).f0)) - (wrap64 ((rd_T103 l0 (ji5)).f0)))), ((wrap64 (6 * (wrap64 (a1 - (wrap64 ((rd_T103 l0 (ji5)).f0)))))) == 0)))) else (none)) else (none)) else (none)) else (none))) = some (r1, r2, r3, r4, r5, r6, r7) := by rw [if_neg (show ¬ (false = true) by decide)] at H; exact H
          clear H
          have H := H1
          clear H1
          by_cases c14 : a1 = (wrap64 ((rd_T103 l0 x5_1).f0))
          ·rw [if_pos c14] at H
           have c14b0 : (a1 == (wrap64 ((rd_T103 l0 x5_1).f0))) = true := beq_iff_eq.mpr c14
           have c14b1 : (a1 != (wrap64 ((rd_T103 l0 x5_1).f0))) = false := bne_eq_false_iff_eq.mpr c14
           clear c14
           by_cases c15 : 0 ≤ x5_1
           ·rw [if_pos c15] at H
            have c15b0 : decide (0 ≤ x5_1) = true := decide_eq_true c15
            have c15b1 : 0 ≤ x5_1 := c15
            clear c15
            by_cases c16 : x5_1 < (l0.length : Int)
            ·rw [if_pos c16] at H
             have c16b0 : decide (x5_1 < (l0.length : Int)) = true := decide_eq_true c16
             clear c16
             simp only [Option.some.injEq, Prod.mk.injEq] at H
             obtain ⟨rfl, rfl, rfl, rfl, rfl, rfl, rfl⟩ := H
             try go_wp2
             have n0_ := am (blk_drew BK209.out)
             have n1_ := am (below_drew1 HB.out)
             clear BK209
             clear HB
             have BK209 := n0_
             have HB := n1_
             clear n0_ n1_
             have p212 : 0 ≤ (x5_1 : Int) := of_decide_eq_true (by first | (with_reducible assumption) | assumption)
             have q212 : x5_1 < (l0.length : Int) := of_decide_eq_true (by first | (with_reducible assumption) | assumption)
             obtain ⟨ad212, e212, hx212_0, hx212_1⟩ := at_T103 HR0.out x5_1 p212 q212
             have hw212_1 := hx212_1
             have hw212_0 := hx212_0
             obtain rfl : ad210 = ad212 := (by injection e212)
             replace hx212_0 := (HB.out.cell (World.block_lt_of_cell? w _ hx212_0)).trans hx212_0
             replace hx212_1 := (HB.out.cell (World.block_lt_of_cell? w _ hx212_1)).trans hx212_1
             replace p212 := eq_true p212
             replace q212 := eq_true q212
             have p213 : 0 ≤ (x5_1 : Int) := of_decide_eq_true (by first | (with_reducible assumption) | assumption)
             have q213 : x5_1 < (l0.length : Int) := of_decide_eq_true (by first | (with_reducible assumption) | assumption)
             obtain ⟨ad213, e213, hx213_0, hx213_1⟩ := at_T103 HR0.out x5_1 p213 q213
             have hw213_1 := hx213_1
             have hw213_0 := hx213_0
             obtain rfl : ad210 = ad213 := (by injection e213)
             replace hx213_0 := (HB.out.cell (World.block_lt_of_cell? w _ hx213_0)).trans hx213_0
             replace hx213_1 := (HB.out.cell (World.block_lt_of_cell? w _ hx213_1)).trans hx213_1
             replace p213 := eq_true p213
             replace q213 := eq_true q213
             refine start_ (n := 10) (S := fun w' => w'.cell? (ad210.add ((x5_1).toNat * 2)) = some (.int .i16 ((rd_T103 l0 x5_1).f0)) ∧ w'.cell? ⟨(ad210.add ((x5_1).toNat * 2)).block, (ad210.add ((x5_1).toNat * 2)).off + 1, none⟩ = some (.int .i8 ((rd_T103 l0 x5_1).f1)) ∧ w'.cell? (ad210.add ((x5_1).toNat * 2)) = some (.int .i16 ((rd_T103 l0 x5_1).f0)) ∧ w'.cell? ⟨(ad210.add ((x5_1).toNat * 2)).block, (ad210.add ((x5_1).toNat * 2)).off + 1, none⟩ = some (.int .i8 ((rd_T103 l0 x5_1).f1))) (ds := []) #[false, false, false, false, false, false, false, false, false, false] (by kernel_rfl) rfl rfl ⟨((HB.out.cell (World.block_lt_of_cell? w _ hw212_0)).trans hw212_0), ((HB.out.cell (World.block_lt_of_cell? w _ hw212_1)).trans hw212_1), ((HB.out.cell (World.block_lt_of_cell? w _ hw213_0)).trans hw213_0), ((HB.out.cell (World.block_lt_of_cell? w _ hw213_1)).trans hw213_1)⟩ (fun hHeld => ?_); refine with_tabW spec_l02At.tab8 spec_l02At.bits8 (fun HT_ HW_ => ?_)
             generalize wc.drew = w17 at BK209 HB hx212_0 hx212_1 hx213_0 hx213_1 hHeld ⊢
             refine pS (i := 0) (some 51) #[true, false, false, false, false, false, false, false, false, false] (any_of HT_.out (by kernel_rfl)) ?_
             refine pS (i := 1) (some 52) #[true, true, false, false, false, false, false, false, false, false] (any_of HT_.out (by kernel_rfl)) ?_
             refine pS (i := 2) (some 53) #[true, true, true, false, false, false, false, false, false, false] (any_of HT_.out (by kernel_rfl)) ?_
             refine pS (i := 4) (some 55) #[true, true, true, false, true, false, false, false, false, false] (any_of HT_.out (by kernel_rfl)) ?_
             refine pS (i := 5) (some 56) #[true, true, true, false, true, true, false, false, false, false] (any_of HT_.out (by kernel_rfl)) ?_
             refine pS (i := 6) (some 57) #[true, true, true, false, true, true, true, false, false, false] (any_of HT_.out (by kernel_rfl)) ?_
             refine tS (i := 3) (some 54) #[true, true, true, true, true, true, true, false, false, false] (take_ofW HT_.out HW_.out (by kernel_rfl)) hHeld ?_
             refine tS (i := 7) (some 58) #[true, true, true, true, true, true, true, true, false, false] (take_ofW HT_.out HW_.out (by kernel_rfl)) hHeld ?_
             refine pS (i := 8) (some 59) #[true, true, true, true, true, true, true, true, true, false] (any_of HT_.out (by kernel_rfl)) ?_
             refine one_ (i := 9) (N := none) #[true, true, true, true, true, true, true, true, true, true] rfl rfl (one_of HT_.out (by kernel_rfl)) (by decide) (fun K hK => ?_)
             have hs18 : w17.cell? ⟨gb209, 0, none⟩ = some (.int .i16 x210000_1) := (blk_cell BK209.out 0).trans rfl
             have hfs18 := blk_frozen BK209.out 0
             have hs19 : w17.cell? ⟨gb209, 1, none⟩ = some (.int .i8 x210001_1) := (blk_cell BK209.out 1).trans rfl
             have hfs19 := blk_frozen BK209.out 1
             have hs20 : w17.cell? ⟨gb209, 2, none⟩ = some (.int .i16 x210002_1) := (blk_cell BK209.out 2).trans rfl
             have hfs20 := blk_frozen BK209.out 2
             have hs21 : w17.cell? ⟨gb209, 3, none⟩ = some (.int .i8 x210003_1) := (blk_cell BK209.out 3).trans rfl
             have hfs21 := blk_frozen BK209.out 3
             have hs22 : w17.cell? ⟨gb209, 4, none⟩ = some (.int .i64 x210004_1) := (blk_cell BK209.out 4).trans rfl
             have hfs22 := blk_frozen BK209.out 4
             have hs23 : w17.cell? ⟨gb209, 5, none⟩ = some (.int .i64 x210005_1) := (blk_cell BK209.out 5).trans rfl
             have hfs23 := blk_frozen BK209.out 5
             have hs24 : w17.cell? ⟨gb209, 6, none⟩ = some (.bool x210006_1) := (blk_cell BK209.out 6).trans rfl
             have hfs24 := blk_frozen BK209.out 6
             refine skip_ (w1 := ?_) (by rfl) rfl ?_ ?_
             rotate_left
             ·go_simp
              rfl
             refine hK.out _ _ ⟨((cell_far (p := ⟨gb209, _, none⟩) (nf hw212_0 GW209) _).trans (((cell_far (p := ⟨gb209, _, none⟩) (nf hw212_0 GW209) _).trans (((cell_far (p := ⟨gb209, _, none⟩) (nf hw212_0 GW209) _).trans (((cell_far (p := ⟨gb209, _, none⟩) (nf hw212_0 GW209) _).trans (((cell_far (p := ⟨gb209, _, none⟩) (nf hw212_0 GW209) _).trans (((cell_far (p := ⟨gb209, _, none⟩) (nf hw212_0 GW209) _).trans (((cell_far (p := ⟨gb209, _, none⟩) (nf hw212_0 GW209) _).trans (hHeld.1)))))))))))))), ((cell_far (p := ⟨gb209, _, none⟩) (nf hw212_1 GW209) _).trans (((cell_far (p := ⟨gb209, _, none⟩) (nf hw212_1 GW209) _).trans (((cell_far (p := ⟨gb209, _, none⟩) (nf hw212_1 GW209) _).trans (((cell_far (p := ⟨gb209, _, none⟩) (nf hw212_1 GW209) _).trans (((cell_far (p := ⟨gb209, _, none⟩) (nf hw212_1 GW209) _).trans (((cell_far (p := ⟨gb209, _, none⟩) (nf hw212_1 GW209) _).trans (((cell_far (p := ⟨gb209, _, none⟩) (nf hw212_1 GW209) _).trans (hHeld.2.1)))))))))))))), ((cell_far (p := ⟨gb209, _, none⟩) (nf hw213_0 GW209) _).trans (((cell_far (p := ⟨gb209, _, none⟩) (nf hw213_0 GW209) _).trans (((cell_far (p := ⟨gb209, _, none⟩) (nf hw213_0 GW209) _).trans (((cell_far (p := ⟨gb209, _, none⟩) (nf hw213_0 GW209) _).trans (((cell_far (p := ⟨gb209, _, none⟩) (nf hw213_0 GW209) _).trans (((cell_far (p := ⟨gb209, _, none⟩) (nf hw213_0 GW209) _).trans (((cell_far (p := ⟨gb209, _, none⟩) (nf hw213_0 GW209) _).trans (hHeld.2.2.1)))))))))))))), ((cell_far (p := ⟨gb209, _, none⟩) (nf hw213_1 GW209) _).trans (((cell_far (p := ⟨gb209, _, none⟩) (nf hw213_1 GW209) _).trans (((cell_far (p := ⟨gb209, _, none⟩) (nf hw213_1 GW209) _).trans (((cell_far (p := ⟨gb209, _, none⟩) (nf hw213_1 GW209) _).trans (((cell_far (p := ⟨gb209, _, none⟩) (nf hw213_1 GW209) _).trans (((cell_far (p := ⟨gb209, _, none⟩) (nf hw213_1 GW209) _).trans (((cell_far (p := ⟨gb209, _, none⟩) (nf hw213_1 GW209) _).trans (hHeld.2.2.2))))))))))))))⟩ (fun hHeld => ?_)
             clear hK K
             refine done_ (done_of HT_.out (by kernel_rfl)) ?_
             try go_wp2
             refine bodyPost_ret (results_cell_row rfl _ _ gb209 170 #[.int .i16 ((rd_T103 l0 x5_1).f0), .int .i8 ((rd_T103 l0 x5_1).f1), .int .i16 ((rd_T103 l0 x5_1).f0), .int .i8 ((rd_T103 l0 x5_1).f1), .int .i64 0, .int .i64 0, .bool true] (0, 0) _ rfl (by (with_reducible repeat (first | refine blk_drewN ?_ _ | refine blk_drew ?_ | refine blk_alloc ?_ _)); refine blk_put (cs := #[.int .i16 ((rd_T103 l0 x5_1).f0), .int .i8 ((rd_T103 l0 x5_1).f1), .int .i16 ((rd_T103 l0 x5_1).f0), .int .i8 ((rd_T103 l0 x5_1).f1), .int .i64 0, .int .i64 0, .bool x210006_1]) ?_ 6 _ rfl; (with_reducible repeat (first | refine blk_drewN ?_ _ | refine blk_drew ?_ | refine blk_alloc ?_ _)); refine blk_put (cs := #[.int .i16 ((rd_T103 l0 x5_1).f0), .int .i8 ((rd_T103 l0 x5_1).f1), .int .i16 ((rd_T103 l0 x5_1).f0), .int .i8 ((rd_T103 l0 x5_1).f1), .int .i64 0, .int .i64 x210005_1, .bool x210006_1]) ?_ 5 _ rfl; (with_reducible repeat (first | refine blk_drewN ?_ _ | refine blk_drew ?_ | refine blk_alloc ?_ _)); refine blk_put (cs := #[.int .i16 ((rd_T103 l0 x5_1).f0), .int .i8 ((rd_T103 l0 x5_1).f1), .int .i16 ((rd_T103 l0 x5_1).f0), .int .i8 ((rd_T103 l0 x5_1).f1), .int .i64 x210004_1, .int .i64 x210005_1, .bool x210006_1]) ?_ 4 _ rfl; (with_reducible repeat (first | refine blk_drewN ?_ _ | refine blk_drew ?_ | refine blk_alloc ?_ _)); refine blk_put (cs := #[.int .i16 ((rd_T103 l0 x5_1).f0), .int .i8 ((rd_T103 l0 x5_1).f1), .int .i16 ((rd_T103 l0 x5_1).f0), .int .i8 x210003_1, .int .i64 x210004_1, .int .i64 x210005_1, .bool x210006_1]) ?_ 3 _ rfl; (with_reducible repeat (first | refine blk_drewN ?_ _ | refine blk_drew ?_ | refine blk_alloc ?_ _)); refine blk_put (cs := #[.int .i16 ((rd_T103 l0 x5_1).f0), .int .i8 ((rd_T103 l0 x5_1).f1), .int .i16 x210002_1, .int .i8 x210003_1, .int .i64 x210004_1, .int .i64 x210005_1, .bool x210006_1]) ?_ 2 _ rfl; (with_reducible repeat (first | refine blk_drewN ?_ _ | refine blk_drew ?_ | refine blk_alloc ?_ _)); refine blk_put (cs := #[.int .i16 ((rd_T103 l0 x5_1).f0), .int .i8 x210001_1, .int .i16 x210002_1, .int .i8 x210003_1, .int .i64 x210004_1, .int .i64 x210005_1, .bool x210006_1]) ?_ 1 _ rfl; (with_reducible repeat (first | refine blk_drewN ?_ _ | refine blk_drew ?_ | refine blk_alloc ?_ _)); refine blk_put (cs := #[.int .i16 x210000_1, .int .i8 x210001_1, .int .i16 x210002_1, .int .i8 x210003_1, .int .i64 x210004_1, .int .i64 x210005_1, .bool x210006_1]) ?_ 0 _ rfl; exact kb BK209) Try.underlying170 rfl (by kernel_rfl)) rfl ?_
             exact ⟨by first | rfl | (simp [errW_none, errW_some] <;> rfl) | (simp only [← hji5]; first | rfl | (simp [errW_none, errW_some] <;> rfl)) | (simp [*, errW_none, errW_some] <;> rfl), be HB⟩
            ·rw [if_neg c16] at H
             exact absurd H (by simp)
           ·rw [if_neg c15] at H
            exact absurd H (by simp)
          ·rw [if_neg c14] at H
           have c14b0 : (a1 == (wrap64 ((rd_T103 l0 x5_1).f0))) = false := beq_eq_false_iff_ne.mpr c14
           have c14b1 : (a1 != (wrap64 ((rd_T103 l0 x5_1).f0))) = true := bne_iff_ne.mpr c14
           replace H : (if 0 ≤ (ji5) then (if (ji5) < (l0.length : Int) then (if 0 ≤ x5_1 then (if x5_1 < (l0.length : Int) then (if (wrap64 ((wrap64 ((rd_T103 l0 x5_1).f0)) - (wrap64 ((rd_T103 l0 (ji5)).f0)))) = 0 then (none) else (some ((rd_T103 l0 (ji5)).f0, (rd_T103 l0 (ji5)).f1, (rd_T103 l0 x5_1).f0, (rd_T103 l0 x5_1).f1, wrap64 (Int.tdiv (wrap64 (6 * (wrap64 (a1 - (wrap64 ((rd_T103 l0 (ji5)).f0)))))) (wrap64 ((wrap64 ((rd_T103 l0 x5_1).f0)) - (wrap64 ((rd_T103 l0 (ji5)).f0))))), Int.tmod (wrap64 (6 * (wrap64 (a1 - (wrap64 ((rd_T103 l0 (ji5)).f0)))))) (wrap64 ((wrap64 ((rd_T103 l0 x5_1).f0)) - (wrap64 ((rd_T103 l0 (ji5)).f0)))), ((wrap64 (6 * (wrap64 (a1 - (wrap64 ((rd_T103 l0 (ji5)).f0)))))) == 0)))) else (none)) else (none)) else (none)) else (none)) = some (r1, r2, r3, r4, r5, r6, r7) := by first | (rw [hji5] at H; exact H) | (simp only [hji5] at H ⊢; exact H)
           by_cases c25 : 0 ≤ (ji5)
           ·rw [if_pos c25] at H
            have c25b0 : decide (0 ≤ (ji5)) = true := decide_eq_true c25
            have c25b1 : 0 ≤ (ji5) := c25
            clear c25
            by_cases c26 : (ji5) < (l0.length : Int)
            ·rw [if_pos c26] at H
             have c26b0 : decide ((ji5) < (l0.length : Int)) = true := decide_eq_true c26
             clear c26
             by_cases c27 : 0 ≤ x5_1
             ·rw [if_pos c27] at H
              have c27b0 : decide (0 ≤ x5_1) = true := decide_eq_true c27
              have c27b1 : 0 ≤ x5_1 := c27
              clear c27
              by_cases c28 : x5_1 < (l0.length : Int)
              ·rw [if_pos c28] at H
               have c28b0 : decide (x5_1 < (l0.length : Int)) = true := decide_eq_true c28
               clear c28
               by_cases c29 : (wrap64 ((wrap64 ((rd_T103 l0 x5_1).f0)) - (wrap64 ((rd_T103 l0 (ji5)).f0)))) = 0
               ·rw [if_pos c29] at H
                exact absurd H (by simp)
               ·rw [if_neg c29] at H
                have c29b0 : ((wrap64 ((wrap64 ((rd_T103 l0 x5_1).f0)) - (wrap64 ((rd_T103 l0 (ji5)).f0)))) == 0) = false := beq_eq_false_iff_ne.mpr c29
                have c29b1 : ((wrap64 ((wrap64 ((rd_T103 l0 x5_1).f0)) - (wrap64 ((rd_T103 l0 (ji5)).f0)))) != 0) = true := bne_iff_ne.mpr c29
                simp only [Option.some.injEq, Prod.mk.injEq] at H
                obtain ⟨rfl, rfl, rfl, rfl, rfl, rfl, rfl⟩ := H
                try go_wp2
                have n0_ := am (blk_drew BK209.out)
                have n1_ := am (below_drew1 HB.out)
                clear BK209
                clear HB
                have BK209 := n0_
                have HB := n1_
                clear n0_ n1_
                have p214 : 0 ≤ ((ji5) : Int) := of_decide_eq_true (by first | (with_reducible assumption) | assumption)
                have q214 : (ji5) < (l0.length : Int) := of_decide_eq_true (by first | (with_reducible assumption) | assumption)
                obtain ⟨ad214, e214, hx214_0, hx214_1⟩ := at_T103 HR0.out (ji5) p214 q214
                have hw214_1 := hx214_1
                have hw214_0 := hx214_0
                obtain rfl : ad210 = ad214 := (by injection e214)
                replace hx214_0 := (HB.out.cell (World.block_lt_of_cell? w _ hx214_0)).trans hx214_0
                replace hx214_1 := (HB.out.cell (World.block_lt_of_cell? w _ hx214_1)).trans hx214_1
                replace p214 := eq_true p214
                replace q214 := eq_true q214
                have p215 : 0 ≤ (x5_1 : Int) := of_decide_eq_true (by first | (with_reducible assumption) | assumption)
                have q215 : x5_1 < (l0.length : Int) := of_decide_eq_true (by first | (with_reducible assumption) | assumption)
                obtain ⟨ad215, e215, hx215_0, hx215_1⟩ := at_T103 HR0.out x5_1 p215 q215
                have hw215_1 := hx215_1
                have hw215_0 := hx215_0
                obtain rfl : ad210 = ad215 := (by injection e215)
                replace hx215_0 := (HB.out.cell (World.block_lt_of_cell? w _ hx215_0)).trans hx215_0
                replace hx215_1 := (HB.out.cell (World.block_lt_of_cell? w _ hx215_1)).trans hx215_1
                replace p215 := eq_true p215
                replace q215 := eq_true q215
                refine start_ (n := 23) (S := fun w' => w'.cell? (ad210.add (((ji5)).toNat * 2)) = some (.int .i16 ((rd_T103 l0 (ji5)).f0)) ∧ w'.cell? ⟨(ad210.add (((ji5)).toNat * 2)).block, (ad210.add (((ji5)).toNat * 2)).off + 1, none⟩ = some (.int .i8 ((rd_T103 l0 (ji5)).f1)) ∧ w'.cell? (ad210.add ((x5_1).toNat * 2)) = some (.int .i16 ((rd_T103 l0 x5_1).f0)) ∧ w'.cell? ⟨(ad210.add ((x5_1).toNat * 2)).block, (ad210.add ((x5_1).toNat * 2)).off + 1, none⟩ = some (.int .i8 ((rd_T103 l0 x5_1).f1))) (ds := []) #[false, false, false, false, false, false, false, false, false, false, false, false, false, false, false, false, false, false, false, false, false, false, false] (by kernel_rfl) rfl rfl ⟨((HB.out.cell (World.block_lt_of_cell? w _ hw214_0)).trans hw214_0), ((HB.out.cell (World.block_lt_of_cell? w _ hw214_1)).trans hw214_1), ((HB.out.cell (World.block_lt_of_cell? w _ hw215_0)).trans hw215_0), ((HB.out.cell (World.block_lt_of_cell? w _ hw215_1)).trans hw215_1)⟩ (fun hHeld => ?_); refine with_tabW spec_l02At.tab10 spec_l02At.bits10 (fun HT_ HW_ => ?_)
                generalize wc.drew = w30 at BK209 HB hx214_0 hx214_1 hx215_0 hx215_1 hHeld ⊢
                refine pS (i := 0) (some 64) #[true, false, false, false, false, false, false, false, false, false, false, false, false, false, false, false, false, false, false, false, false, false, false] (any_of HT_.out (by kernel_rfl)) ?_
                refine pS (i := 1) (some 65) #[true, true, false, false, false, false, false, false, false, false, false, false, false, false, false, false, false, false, false, false, false, false, false] (any_of HT_.out (by kernel_rfl)) ?_
                refine pS (i := 2) (some 66) #[true, true, true, false, false, false, false, false, false, false, false, false, false, false, false, false, false, false, false, false, false, false, false] (any_of HT_.out (by kernel_rfl)) ?_
                refine pS (i := 3) (some 67) #[true, true, true, true, false, false, false, false, false, false, false, false, false, false, false, false, false, false, false, false, false, false, false] (any_of HT_.out (by kernel_rfl)) ?_
                refine pS (i := 5) (some 69) #[true, true, true, true, false, true, false, false, false, false, false, false, false, false, false, false, false, false, false, false, false, false, false] (any_of HT_.out (by kernel_rfl)) ?_
                refine pS (i := 6) (some 70) #[true, true, true, true, false, true, true, false, false, false, false, false, false, false, false, false, false, false, false, false, false, false, false] (any_of HT_.out (by kernel_rfl)) ?_
                refine pS (i := 7) (some 71) #[true, true, true, true, false, true, true, true, false, false, false, false, false, false, false, false, false, false, false, false, false, false, false] (any_of HT_.out (by kernel_rfl)) ?_
                refine pS (i := 9) (some 73) #[true, true, true, true, false, true, true, true, false, true, false, false, false, false, false, false, false, false, false, false, false, false, false] (any_of HT_.out (by kernel_rfl)) ?_
                refine pS (i := 10) (some 74) #[true, true, true, true, false, true, true, true, false, true, true, false, false, false, false, false, false, false, false, false, false, false, false] (any_of HT_.out (by kernel_rfl)) ?_
                refine pS (i := 11) (some 75) #[true, true, true, true, false, true, true, true, false, true, true, true, false, false, false, false, false, false, false, false, false, false, false] (any_of HT_.out (by kernel_rfl)) ?_
                refine pS (i := 12) (some 76) #[true, true, true, true, false, true, true, true, false, true, true, true, true, false, false, false, false, false, false, false, false, false, false] (any_of HT_.out (by kernel_rfl)) ?_
                refine pS (i := 13) (some 77) #[true, true, true, true, false, true, true, true, false, true, true, true, true, true, false, false, false, false, false, false, false, false, false] (any_of HT_.out (by kernel_rfl)) ?_
                refine pS (i := 14) (some 78) #[true, true, true, true, false, true, true, true, false, true, true, true, true, true, true, false, false, false, false, false, false, false, false] (any_of HT_.out (by kernel_rfl)) ?_
                refine pS (i := 15) (some 79) #[true, true, true, true, false, true, true, true, false, true, true, true, true, true, true, true, false, false, false, false, false, false, false] (any_of HT_.out (by kernel_rfl)) ?_
                refine pS (i := 16) (some 80) #[true, true, true, true, false, true, true, true, false, true, true, true, true, true, true, true, true, false, false, false, false, false, false] (any_of HT_.out (by kernel_rfl)) ?_
                refine pS (i := 17) (some 81) #[true, true, true, true, false, true, true, true, false, true, true, true, true, true, true, true, true, true, false, false, false, false, false] (any_of HT_.out (by kernel_rfl)) ?_
                refine pS (i := 18) (some 82) #[true, true, true, true, false, true, true, true, false, true, true, true, true, true, true, true, true, true, true, false, false, false, false] (any_of HT_.out (by kernel_rfl)) ?_
                refine pS (i := 19) (some 83) #[true, true, true, true, false, true, true, true, false, true, true, true, true, true, true, true, true, true, true, true, false, false, false] (any_of HT_.out (by kernel_rfl)) ?_
                refine pS (i := 20) (some 84) #[true, true, true, true, false, true, true, true, false, true, true, true, true, true, true, true, true, true, true, true, true, false, false] (any_of HT_.out (by kernel_rfl)) ?_
                refine tS (i := 4) (some 68) #[true, true, true, true, true, true, true, true, false, true, true, true, true, true, true, true, true, true, true, true, true, false, false] (take_ofW HT_.out HW_.out (by kernel_rfl)) hHeld ?_
                refine tS (i := 8) (some 72) #[true, true, true, true, true, true, true, true, true, true, true, true, true, true, true, true, true, true, true, true, true, false, false] (take_ofW HT_.out HW_.out (by kernel_rfl)) hHeld ?_
                refine pS (i := 21) (some 85) #[true, true, true, true, true, true, true, true, true, true, true, true, true, true, true, true, true, true, true, true, true, true, false] (any_of HT_.out (by kernel_rfl)) ?_
                refine one_ (i := 22) (N := none) #[true, true, true, true, true, true, true, true, true, true, true, true, true, true, true, true, true, true, true, true, true, true, true] rfl rfl (one_of HT_.out (by kernel_rfl)) (by decide) (fun K hK => ?_)
                have hs31 : w30.cell? ⟨gb209, 0, none⟩ = some (.int .i16 x210000_1) := (blk_cell BK209.out 0).trans rfl
                have hfs31 := blk_frozen BK209.out 0
                have hs32 : w30.cell? ⟨gb209, 1, none⟩ = some (.int .i8 x210001_1) := (blk_cell BK209.out 1).trans rfl
                have hfs32 := blk_frozen BK209.out 1
                have hs33 : w30.cell? ⟨gb209, 2, none⟩ = some (.int .i16 x210002_1) := (blk_cell BK209.out 2).trans rfl
                have hfs33 := blk_frozen BK209.out 2
                have hs34 : w30.cell? ⟨gb209, 3, none⟩ = some (.int .i8 x210003_1) := (blk_cell BK209.out 3).trans rfl
                have hfs34 := blk_frozen BK209.out 3
                have hs35 : w30.cell? ⟨gb209, 4, none⟩ = some (.int .i64 x210004_1) := (blk_cell BK209.out 4).trans rfl
                have hfs35 := blk_frozen BK209.out 4
                have hs36 : w30.cell? ⟨gb209, 5, none⟩ = some (.int .i64 x210005_1) := (blk_cell BK209.out 5).trans rfl
                have hfs36 := blk_frozen BK209.out 5
                have hs37 : w30.cell? ⟨gb209, 6, none⟩ = some (.bool x210006_1) := (blk_cell BK209.out 6).trans rfl
                have hfs37 := blk_frozen BK209.out 6
                refine skip_ (w1 := ?_) (by rfl) rfl ?_ ?_
                rotate_left
                ·go_simp
                 rfl
                refine hK.out _ _ ⟨((cell_far (p := ⟨gb209, _, none⟩) (nf hw214_0 GW209) _).trans (((cell_far (p := ⟨gb209, _, none⟩) (nf hw214_0 GW209) _).trans (((cell_far (p := ⟨gb209, _, none⟩) (nf hw214_0 GW209) _).trans (((cell_far (p := ⟨gb209, _, none⟩) (nf hw214_0 GW209) _).trans (((cell_far (p := ⟨gb209, _, none⟩) (nf hw214_0 GW209) _).trans (((cell_far (p := ⟨gb209, _, none⟩) (nf hw214_0 GW209) _).trans (((cell_far (p := ⟨gb209, _, none⟩) (nf hw214_0 GW209) _).trans (hHeld.1)))))))))))))), ((cell_far (p := ⟨gb209, _, none⟩) (nf hw214_1 GW209) _).trans (((cell_far (p := ⟨gb209, _, none⟩) (nf hw214_1 GW209) _).trans (((cell_far (p := ⟨gb209, _, none⟩) (nf hw214_1 GW209) _).trans (((cell_far (p := ⟨gb209, _, none⟩) (nf hw214_1 GW209) _).trans (((cell_far (p := ⟨gb209, _, none⟩) (nf hw214_1 GW209) _).trans (((cell_far (p := ⟨gb209, _, none⟩) (nf hw214_1 GW209) _).trans (((cell_far (p := ⟨gb209, _, none⟩) (nf hw214_1 GW209) _).trans (hHeld.2.1)))))))))))))), ((cell_far (p := ⟨gb209, _, none⟩) (nf hw215_0 GW209) _).trans (((cell_far (p := ⟨gb209, _, none⟩) (nf hw215_0 GW209) _).trans (((cell_far (p := ⟨gb209, _, none⟩) (nf hw215_0 GW209) _).trans (((cell_far (p := ⟨gb209, _, none⟩) (nf hw215_0 GW209) _).trans (((cell_far (p := ⟨gb209, _, none⟩) (nf hw215_0 GW209) _).trans (((cell_far (p := ⟨gb209, _, none⟩) (nf hw215_0 GW209) _).trans (((cell_far (p := ⟨gb209, _, none⟩) (nf hw215_0 GW209) _).trans (hHeld.2.2.1)))))))))))))), ((cell_far (p := ⟨gb209, _, none⟩) (nf hw215_1 GW209) _).trans (((cell_far (p := ⟨gb209, _, none⟩) (nf hw215_1 GW209) _).trans (((cell_far (p := ⟨gb209, _, none⟩) (nf hw215_1 GW209) _).trans (((cell_far (p := ⟨gb209, _, none⟩) (nf hw215_1 GW209) _).trans (((cell_far (p := ⟨gb209, _, none⟩) (nf hw215_1 GW209) _).trans (((cell_far (p := ⟨gb209, _, none⟩) (nf hw215_1 GW209) _).trans (((cell_far (p := ⟨gb209, _, none⟩) (nf hw215_1 GW209) _).trans (hHeld.2.2.2))))))))))))))⟩ (fun hHeld => ?_)
                clear hK K
                refine done_ (done_of HT_.out (by kernel_rfl)) ?_
                try go_wp2
                refine bodyPost_ret (results_cell_row rfl _ _ gb209 170 #[.int .i16 ((rd_T103 l0 (ji5)).f0), .int .i8 ((rd_T103 l0 (ji5)).f1), .int .i16 ((rd_T103 l0 x5_1).f0), .int .i8 ((rd_T103 l0 x5_1).f1), .int .i64 (wrap64 (Int.tdiv (wrap64 (6 * (wrap64 (a1 - (wrap64 ((rd_T103 l0 (ji5)).f0)))))) (wrap64 ((wrap64 ((rd_T103 l0 x5_1).f0)) - (wrap64 ((rd_T103 l0 (ji5)).f0)))))), .int .i64 (Int.tmod (wrap64 (6 * (wrap64 (a1 - (wrap64 ((rd_T103 l0 (ji5)).f0)))))) (wrap64 ((wrap64 ((rd_T103 l0 x5_1).f0)) - (wrap64 ((rd_T103 l0 (ji5)).f0))))), .bool ((wrap64 (6 * (wrap64 (a1 - (wrap64 ((rd_T103 l0 (ji5)).f0)))))) == 0)] (0, 0) _ rfl (by (with_reducible repeat (first | refine blk_drewN ?_ _ | refine blk_drew ?_ | refine blk_alloc ?_ _)); refine blk_put (cs := #[.int .i16 ((rd_T103 l0 (ji5)).f0), .int .i8 ((rd_T103 l0 (ji5)).f1), .int .i16 ((rd_T103 l0 x5_1).f0), .int .i8 ((rd_T103 l0 x5_1).f1), .int .i64 (wrap64 (Int.tdiv (wrap64 (6 * (wrap64 (a1 - (wrap64 ((rd_T103 l0 (ji5)).f0)))))) (wrap64 ((wrap64 ((rd_T103 l0 x5_1).f0)) - (wrap64 ((rd_T103 l0 (ji5)).f0)))))), .int .i64 (Int.tmod (wrap64 (6 * (wrap64 (a1 - (wrap64 ((rd_T103 l0 (ji5)).f0)))))) (wrap64 ((wrap64 ((rd_T103 l0 x5_1).f0)) - (wrap64 ((rd_T103 l0 (ji5)).f0))))), .bool x210006_1]) ?_ 6 _ rfl; (with_reducible repeat (first | refine blk_drewN ?_ _ | refine blk_drew ?_ | refine blk_alloc ?_ _)); refine blk_put (cs := #[.int .i16 ((rd_T103 l0 (ji5)).f0), .int .i8 ((rd_T103 l0 (ji5)).f1), .int .i16 ((rd_T103 l0 x5_1).f0), .int .i8 ((rd_T103 l0 x5_1).f1), .int .i64 (wrap64 (Int.tdiv (wrap64 (6 * (wrap64 (a1 - (wrap64 ((rd_T103 l0 (ji5)).f0)))))) (wrap64 ((wrap64 ((rd_T103 l0 x5_1).f0)) - (wrap64 ((rd_T103 l0 (ji5)).f0)))))), .int .i64 x210005_1, .bool x210006_1]) ?_ 5 _ rfl; (with_reducible repeat (first | refine blk_drewN ?_ _ | refine blk_drew ?_ | refine blk_alloc ?_ _)); refine blk_put (cs := #[.int .i16 ((rd_T103 l0 (ji5)).f0), .int .i8 ((rd_T103 l0 (ji5)).f1), .int .i16 ((rd_T103 l0 x5_1).f0), .int .i8 ((rd_T103 l0 x5_1).f1), .int .i64 x210004_1, .int .i64 x210005_1, .bool x210006_1]) ?_ 4 _ rfl; (with_reducible repeat (first | refine blk_drewN ?_ _ | refine blk_drew ?_ | refine blk_alloc ?_ _)); refine blk_put (cs := #[.int .i16 ((rd_T103 l0 (ji5)).f0), .int .i8 ((rd_T103 l0 (ji5)).f1), .int .i16 ((rd_T103 l0 x5_1).f0), .int .i8 x210003_1, .int .i64 x210004_1, .int .i64 x210005_1, .bool x210006_1]) ?_ 3 _ rfl; (with_reducible repeat (first | refine blk_drewN ?_ _ | refine blk_drew ?_ | refine blk_alloc ?_ _)); refine blk_put (cs := #[.int .i16 ((rd_T103 l0 (ji5)).f0), .int .i8 ((rd_T103 l0 (ji5)).f1), .int .i16 x210002_1, .int .i8 x210003_1, .int .i64 x210004_1, .int .i64 x210005_1, .bool x210006_1]) ?_ 2 _ rfl; (with_reducible repeat (first | refine blk_drewN ?_ _ | refine blk_drew ?_ | refine blk_alloc ?_ _)); refine blk_put (cs := #[.int .i16 ((rd_T103 l0 (ji5)).f0), .int .i8 x210001_1, .int .i16 x210002_1, .int .i8 x210003_1, .int .i64 x210004_1, .int .i64 x210005_1, .bool x210006_1]) ?_ 1 _ rfl; (with_reducible repeat (first | refine blk_drewN ?_ _ | refine blk_drew ?_ | refine blk_alloc ?_ _)); refine blk_put (cs := #[.int .i16 x210000_1, .int .i8 x210001_1, .int .i16 x210002_1, .int .i8 x210003_1, .int .i64 x210004_1, .int .i64 x210005_1, .bool x210006_1]) ?_ 0 _ rfl; exact kb BK209) Try.underlying170 rfl (by kernel_rfl)) rfl ?_
                exact ⟨by first | rfl | (simp [errW_none, errW_some] <;> rfl) | (simp only [← hji5, ← hji5]; first | rfl | (simp [errW_none, errW_some] <;> rfl)) | (simp [*, errW_none, errW_some] <;> rfl), be HB⟩
              ·rw [if_neg c28] at H
               exact absurd H (by simp)
             ·rw [if_neg c27] at H
              exact absurd H (by simp)
            ·rw [if_neg c26] at H
             exact absurd H (by simp)
           ·rw [if_neg c25] at H
            exact absurd H (by simp)
      ·rw [if_neg c8] at H
       exact absurd H (by simp)
     ·rw [if_neg c7] at H
      exact absurd H (by simp)
    ·rw [if_neg c6] at H
     exact absurd H (by simp)
   ·rw [if_neg c4] at H
    have c4b0 : decide (x5_1 < (l0.length : Int)) = false := decide_eq_false c4
    clear c4
    simp only [Option.some.injEq, Prod.mk.injEq] at H
    obtain ⟨rfl, rfl, rfl, rfl, rfl, rfl, rfl⟩ := H
    obtain ⟨hcz38_0, hcz38_1, hcz38_2, hcz38_3, hcz38_4, hcz38_5, hcz38_6, hfz38_0, hfz38_1, hfz38_2, hfz38_3, hfz38_4, hfz38_5, hfz38_6⟩ := bx7 BK209
    go_wp2
    refine bodyPost_ret (results_cell_row rfl _ _ gb209 170 #[.int .i16 0, .int .i8 0, .int .i16 0, .int .i8 0, .int .i64 0, .int .i64 0, .bool false] (0, 0) _ rfl (by (with_reducible repeat (first | refine blk_drewN ?_ _ | refine blk_drew ?_ | refine blk_alloc ?_ _)); refine blk_put (cs := #[.int .i16 0, .int .i8 0, .int .i16 0, .int .i8 0, .int .i64 0, .int .i64 0, .bool x210006_1]) ?_ 6 _ rfl; (with_reducible repeat (first | refine blk_drewN ?_ _ | refine blk_drew ?_ | refine blk_alloc ?_ _)); refine blk_put (cs := #[.int .i16 0, .int .i8 0, .int .i16 0, .int .i8 0, .int .i64 0, .int .i64 x210005_1, .bool x210006_1]) ?_ 5 _ rfl; (with_reducible repeat (first | refine blk_drewN ?_ _ | refine blk_drew ?_ | refine blk_alloc ?_ _)); refine blk_put (cs := #[.int .i16 0, .int .i8 0, .int .i16 0, .int .i8 0, .int .i64 x210004_1, .int .i64 x210005_1, .bool x210006_1]) ?_ 4 _ rfl; (with_reducible repeat (first | refine blk_drewN ?_ _ | refine blk_drew ?_ | refine blk_alloc ?_ _)); refine blk_put (cs := #[.int .i16 0, .int .i8 0, .int .i16 0, .int .i8 x210003_1, .int .i64 x210004_1, .int .i64 x210005_1, .bool x210006_1]) ?_ 3 _ rfl; (with_reducible repeat (first | refine blk_drewN ?_ _ | refine blk_drew ?_ | refine blk_alloc ?_ _)); refine blk_put (cs := #[.int .i16 0, .int .i8 0, .int .i16 x210002_1, .int .i8 x210003_1, .int .i64 x210004_1, .int .i64 x210005_1, .bool x210006_1]) ?_ 2 _ rfl; (with_reducible repeat (first | refine blk_drewN ?_ _ | refine blk_drew ?_ | refine blk_alloc ?_ _)); refine blk_put (cs := #[.int .i16 0, .int .i8 x210001_1, .int .i16 x210002_1, .int .i8 x210003_1, .int .i64 x210004_1, .int .i64 x210005_1, .bool x210006_1]) ?_ 1 _ rfl; (with_reducible repeat (first | refine blk_drewN ?_ _ | refine blk_drew ?_ | refine blk_alloc ?_ _)); refine blk_put (cs := #[.int .i16 x210000_1, .int .i8 x210001_1, .int .i16 x210002_1, .int .i8 x210003_1, .int .i64 x210004_1, .int .i64 x210005_1, .bool x210006_1]) ?_ 0 _ rfl; exact kb BK209) Try.underlying170 rfl (by kernel_rfl)) rfl ?_
    exact ⟨by first | rfl | (simp [errW_none, errW_some] <;> rfl) | (simp [*, errW_none, errW_some] <;> rfl), be HB⟩

/-! ### spec_l02Twelfths: function 175 -/
def spec_l02Twelfths.l0 : Nat → Int → List Int → Int → Int → Option (Int × Int)
 | 0, _, _, _, _ => none
 | k + 1, x0, x4, x5, x6 => if x6 < x0 then (if 0 ≤ x6 then (if x6 < (x4.length : Int) then (spec_l02Twelfths.l0 k x0 x4 (wrap64 (x5 + (rd x4 x6))) (wrap64 (x6 + 1))) else (none)) else (none)) else (if 0 ≤ x0 then (if x0 < (x4.length : Int) then (some (rd x4 x0, x5)) else (none)) else (none))
def spec_l02Twelfths.f (k : Nat) (a0 : Int) : Option (Int × Int) := spec_l02Twelfths.l0 k a0 (([1, 2, 3, 3, 2, 1] : List Int)) 0 0
set_option maxHeartbeats 8000000 in
set_option maxRecDepth 100000 in
theorem spec_l02Twelfths.calls (k : Nat) (a0 : Int) (r1 : Int) (r2 : Int) (w : World) (h : spec_l02Twelfths.f k a0 = some (r1, r2)) :
  Calls Try.prog 175 #[.int .i64 a0] w fun e w' => e = .returned (.tuple #[.int .i64 r1, .int .i64 r2]) ∧ Below w.heap.size w w' := by
 have HB := am (Below.refl w.heap.size w)
 have H : (spec_l02Twelfths.l0 k a0 (([1, 2, 3, 3, 2, 1] : List Int)) 0 0) = some (r1, r2) := h
 clear h
 obtain ⟨y216, hy216⟩ : ∃ y_ : List Int, y_ = (([1, 2, 3, 3, 2, 1] : List Int)) := ⟨_, rfl⟩
 replace H : (spec_l02Twelfths.l0 k a0 y216 0 0) = some (r1, r2) := by first | (rw [hy216]; with_reducible exact H) | (have H2_ := (Option.bind_some _ _).symm.trans H; rw [hy216]; with_reducible exact H2_) | (have H2_ := (Option.bind_some _ _).symm.trans H; with_reducible exact H2_) | with_reducible exact H | (rw [hy216]; exact H) | exact H
 have Ny216 := am hy216
 clear hy216
 have H' := am H
 clear H
 go_enter Try.func175, Try.ntmps175
 go_wp2_with (first | ((with_reducible refine gate_dst (N := 7) rfl ?_); refine Kd.R_lit (Kd.int .i64) _ 2 ?hg (N := 7) ?hd (xs := ([1, 2, 3, 3, 2, 1] : List Int)) (inner := [.int .i64 1, .int .i64 2, .int .i64 3, .int .i64 3, .int .i64 2, .int .i64 1]) (ok := fun _ => True) (okp := fun _ => True) ?hr ?hp (fun _ hk => hk) trivial (Below.refl _ _) (Nat.le_refl _) (by simp) ?_; (case hd => rfl); (case hg => rfl); (case hr => first | (go_simp; done) | (go_simp; rfl)); (case hp => exact (Reps.one (show Kd.M (Kd.int .i64) _ _ _ 1 [.int .i64 1] from rfl) (Reps.one (show Kd.M (Kd.int .i64) _ _ _ 2 [.int .i64 2] from rfl) (Reps.one (show Kd.M (Kd.int .i64) _ _ _ 3 [.int .i64 3] from rfl) (Reps.one (show Kd.M (Kd.int .i64) _ _ _ 3 [.int .i64 3] from rfl) (Reps.one (show Kd.M (Kd.int .i64) _ _ _ 2 [.int .i64 2] from rfl) (Reps.one (show Kd.M (Kd.int .i64) _ _ _ 1 [.int .i64 1] from rfl) (Reps.none _ _)))))))); intro v217 w2 ho3 hb hg_ hnew_; clear hg_ hnew_; (first | rw [← Ny216.out] at ho3 | (simp only [Int.reduceToNat] at ho3; rw [← Ny216.out] at ho3)); have HO218 := am (Kd.R_lower ho3 (below_size (be HB))); replace HB := am (below_step (be HB) hb); clear hb ho3))
 go_loopg [5, 6] k (fun kq v5 v6 w' => ∃ (x5_1 : Int) (x6_1 : Int), v5 = .int .i64 x5_1 ∧ v6 = .int .i64 x6_1 ∧ Aside0 (spec_l02Twelfths.l0 kq a0 y216 x5_1 x6_1 = some (r1, r2)) ∧ Aside0 (kq ≤ k) ∧ Aside0 (Kd.R (Kd.int .i64) 2 w' w.heap.size (fun _ => True) v217 y216) ∧ Aside0 (Below w.heap.size w w'))
 case atStart => exact ⟨(0), (0), vx, vx, H', ⟨Nat.le_refl _⟩, ⟨kr HO218⟩, ⟨be HB⟩⟩
 case round =>
  clear H'
  try clear c1
  try clear p2
  obtain ⟨x5_1, x6_1, rfl, rfl, HA, HK1, HO_4, HB⟩ := hrel
  cases gk with
  | zero => exact absurd HA.out (by simp [spec_l02Twelfths.l0])
  | succ k1 =>
   have H := HA.out
   clear HA
   simp only [spec_l02Twelfths.l0] at H
   by_cases c4 : x6_1 < a0
   ·rw [if_pos c4] at H
    have c4b0 : decide (x6_1 < a0) = true := decide_eq_true c4
    clear c4
    by_cases c5 : 0 ≤ x6_1
    ·rw [if_pos c5] at H
     have c5b0 : decide (0 ≤ x6_1) = true := decide_eq_true c5
     have c5b1 : 0 ≤ x6_1 := c5
     clear c5
     by_cases c6 : x6_1 < (y216.length : Int)
     ·rw [if_pos c6] at H
      have c6b0 : decide (x6_1 < (y216.length : Int)) = true := decide_eq_true c6
      clear c6
      have H' := am H
      clear H
      obtain ⟨Ao7, co7, eo7⟩ := Kd.R_slice HO_4.out
      subst eo7
      have p219 : 0 ≤ (x6_1 : Int) := of_decide_eq_true (by first | (with_reducible assumption) | assumption)
      have q219 : x6_1 < (y216.length : Int) := of_decide_eq_true (by first | (with_reducible assumption) | assumption)
      obtain ⟨ad219, e219, hx219_0⟩ := Kd.at_int (Kd.R_reads' HO_4.out).2.2 x6_1 p219 q219
      cases e219
      replace p219 := eq_true p219
      replace q219 := eq_true q219
      go_wp2
      go_roundg k1
      case measure => have := HK1.out; omega
      case rel => exact ⟨(wrap64 (x5_1 + (rd y216 x6_1))), (wrap64 (x6_1 + 1)), vx, vx, H', ⟨by have := HK1.out; omega⟩, ⟨kr HO_4⟩, ⟨be HB⟩⟩
     ·rw [if_neg c6] at H
      exact absurd H (by simp)
    ·rw [if_neg c5] at H
     exact absurd H (by simp)
   ·rw [if_neg c4] at H
    have c4b0 : decide (x6_1 < a0) = false := decide_eq_false c4
    clear c4
    by_cases c8 : 0 ≤ a0
    ·rw [if_pos c8] at H
     have c8b0 : decide (0 ≤ a0) = true := decide_eq_true c8
     have c8b1 : 0 ≤ a0 := c8
     clear c8
     by_cases c9 : a0 < (y216.length : Int)
     ·rw [if_pos c9] at H
      have c9b0 : decide (a0 < (y216.length : Int)) = true := decide_eq_true c9
      clear c9
      simp only [Option.some.injEq, Prod.mk.injEq] at H
      obtain ⟨rfl, rfl⟩ := H
      obtain ⟨Ao10, co10, eo10⟩ := Kd.R_slice HO_4.out
      subst eo10
      have p220 : 0 ≤ (a0 : Int) := of_decide_eq_true (by first | (with_reducible assumption) | assumption)
      have q220 : a0 < (y216.length : Int) := of_decide_eq_true (by first | (with_reducible assumption) | assumption)
      obtain ⟨ad220, e220, hx220_0⟩ := Kd.at_int (Kd.R_reads' HO_4.out).2.2 a0 p220 q220
      cases e220
      replace p220 := eq_true p220
      replace q220 := eq_true q220
      go_wp2
      go_ret2
      exact ⟨by first | rfl | (simp [errW_none, errW_some] <;> rfl) | (simp [*, errW_none, errW_some] <;> rfl), be HB⟩
     ·rw [if_neg c9] at H
      exact absurd H (by simp)
    ·rw [if_neg c8] at H
     exact absurd H (by simp)

/-! ### spec_l02Height: function 146 -/
def spec_l02Height.f (k : Nat) (l0 : List (S103)) (a1 : Int) : Option (Int) := (spec_l02At.f k l0 a1).bind fun bt221 => (if bt221.2.2.2.2.2.2 = true then (some (wrap64 (bt221.2.1))) else ((spec_l02Twelfths.f k bt221.2.2.2.2.1).bind fun bt229 => (if (wrap64 (12 * (wrap64 ((wrap64 (bt221.2.2.1)) - (wrap64 (bt221.1)))))) = 0 then (none) else (if (Int.tmod (wrap64 ((wrap64 ((wrap64 (bt221.2.2.2.1)) - (wrap64 (bt221.2.1)))) * (wrap64 ((wrap64 (bt229.2 * (wrap64 ((wrap64 (bt221.2.2.1)) - (wrap64 (bt221.1)))))) + (wrap64 (bt229.1 * bt221.2.2.2.2.2.1)))))) (wrap64 (12 * (wrap64 ((wrap64 (bt221.2.2.1)) - (wrap64 (bt221.1))))))) < 0 then (some (wrap64 ((wrap64 (bt221.2.1)) + (wrap64 ((wrap64 (Int.tdiv (wrap64 ((wrap64 ((wrap64 (bt221.2.2.2.1)) - (wrap64 (bt221.2.1)))) * (wrap64 ((wrap64 (bt229.2 * (wrap64 ((wrap64 (bt221.2.2.1)) - (wrap64 (bt221.1)))))) + (wrap64 (bt229.1 * bt221.2.2.2.2.2.1)))))) (wrap64 (12 * (wrap64 ((wrap64 (bt221.2.2.1)) - (wrap64 (bt221.1)))))))) - 1))))) else (some (wrap64 ((wrap64 (bt221.2.1)) + (wrap64 (Int.tdiv (wrap64 ((wrap64 ((wrap64 (bt221.2.2.2.1)) - (wrap64 (bt221.2.1)))) * (wrap64 ((wrap64 (bt229.2 * (wrap64 ((wrap64 (bt221.2.2.1)) - (wrap64 (bt221.1)))))) + (wrap64 (bt229.1 * bt221.2.2.2.2.2.1)))))) (wrap64 (12 * (wrap64 ((wrap64 (bt221.2.2.1)) - (wrap64 (bt221.1)))))))))))))))
set_option maxHeartbeats 8000000 in
set_option maxRecDepth 100000 in
theorem spec_l02Height.calls (k : Nat) (A0 : Option Addr) (c0 : Nat) (l0 : List (S103)) (a1 : Int) (r : Int) (w : World) (hr0 : Kd.C k103 w A0 l0.length l0) (hc0 : l0.length ≤ c0) (h : spec_l02Height.f k l0 a1 = some r) :
  Calls Try.prog 146 #[.slice A0 l0.length c0, .int .i64 a1] w fun e w' => e = .returned (.int .i64 r) ∧ Below w.heap.size w w' := by
 have hu170 := Try.underlying170
 have HR0 := am hr0
 have HC0 := am hc0
 clear hr0 hc0
 have HB := am (Below.refl w.heap.size w)
 have H : ((spec_l02At.f k l0 a1).bind fun bt221 => (if bt221.2.2.2.2.2.2 = true then (some (wrap64 (bt221.2.1))) else ((spec_l02Twelfths.f k bt221.2.2.2.2.1).bind fun bt229 => (if (wrap64 (12 * (wrap64 ((wrap64 (bt221.2.2.1)) - (wrap64 (bt221.1)))))) = 0 then (none) else (if (Int.tmod (wrap64 ((wrap64 ((wrap64 (bt221.2.2.2.1)) - (wrap64 (bt221.2.1)))) * (wrap64 ((wrap64 (bt229.2 * (wrap64 ((wrap64 (bt221.2.2.1)) - (wrap64 (bt221.1)))))) + (wrap64 (bt229.1 * bt221.2.2.2.2.2.1)))))) (wrap64 (12 * (wrap64 ((wrap64 (bt221.2.2.1)) - (wrap64 (bt221.1))))))) < 0 then (some (wrap64 ((wrap64 (bt221.2.1)) + (wrap64 ((wrap64 (Int.tdiv (wrap64 ((wrap64 ((wrap64 (bt221.2.2.2.1)) - (wrap64 (bt221.2.1)))) * (wrap64 ((wrap64 (bt229.2 * (wrap64 ((wrap64 (bt221.2.2.1)) - (wrap64 (bt221.1)))))) + (wrap64 (bt229.1 * bt221.2.2.2.2.2.1)))))) (wrap64 (12 * (wrap64 ((wrap64 (bt221.2.2.1)) - (wrap64 (bt221.1)))))))) - 1))))) else (some (wrap64 ((wrap64 (bt221.2.1)) + (wrap64 (Int.tdiv (wrap64 ((wrap64 ((wrap64 (bt221.2.2.2.1)) - (wrap64 (bt221.2.1)))) * (wrap64 ((wrap64 (bt229.2 * (wrap64 ((wrap64 (bt221.2.2.1)) - (wrap64 (bt221.1)))))) + (wrap64 (bt229.1 * bt221.2.2.2.2.2.1)))))) (wrap64 (12 * (wrap64 ((wrap64 (bt221.2.2.1)) - (wrap64 (bt221.1)))))))))))))))) = some r := h
 clear h
 replace H := Option.bind_eq_some_iff.mp H
 obtain ⟨⟨t221, t222, t223, t224, t225, t226, t227⟩, A30, H⟩ := H
 try dsimp only at H
 have A3 := am A30
 clear A30
 by_cases c4 : t227 = true
 ·subst c4
  rw [if_pos rfl] at H
  obtain rfl := Option.some.inj H
  go_enter Try.func146, Try.ntmps146
  go_wp2_with (first | ((with_reducible refine gate_callee (f := 174) rfl ?_); refine gL (some 15) Try.func174 #[.slice A0 l0.length c0, .int .i64 a1] ?_; (with_reducible refine (spec_l02At.calls k _ _ l0 a1 t221 t222 t223 t224 t225 t226 true _ ?side1 ?side2 A3.out).mono ?_); (case side1 => repeat (first | exact HR0.out | (with_reducible refine Kd.C_alloc ?_ _) | (with_reducible refine Kd.C_drewN ?_ _) | (with_reducible refine Kd.C_drew ?_))); (case side2 => exact HC0.out); rintro e w5 ⟨rfl, hb⟩; refine ⟨_, rfl, ?_⟩; replace HB := am (below_step (be HB) hb); (try clear hb); (try clear hb2); (try clear hk); (try clear hi)) | ((with_reducible refine gate_dst (N := 5) rfl ?_); refine bxe (N := 5) (cs := #[.int .i16 0, .int .i8 0, .int .i16 0, .int .i8 0, .int .i64 0, .int .i64 0, .bool false]) (t := 170) ?_; intro gb228 hg w6 hbox hb; have BK228 := am (hbox); have GW228 := am (gN hg (below_size (be HB))); have GE228 := am (gN hg (below_size (be HB))); replace HB := am (below_step (be HB) hb); clear hb hbox hg; obtain ⟨hcz7_0, hcz7_1, hcz7_2, hcz7_3, hcz7_4, hcz7_5, hcz7_6, hfz7_0, hfz7_1, hfz7_2, hfz7_3, hfz7_4, hfz7_5, hfz7_6⟩ := bx7 BK228))
  go_ret
  exact ⟨by first | rfl | (simp [errW_none, errW_some] <;> rfl) | (simp [*, errW_none, errW_some] <;> rfl), be HB⟩
 ·replace c4 := Bool.eq_false_iff.mpr c4
  subst c4
  have H1 : ((spec_l02Twelfths.f k t225).bind fun bt229 => (if (wrap64 (12 * (wrap64 ((wrap64 (t223)) - (wrap64 (t221)))))) = 0 then (none) else (if (Int.tmod (wrap64 ((wrap64 ((wrap64 (t224)) - (wrap64 (t222)))) * (wrap64 ((wrap64 (bt229.2 * (wrap64 ((wrap64 (t223)) - (wrap64 (t221)))))) + (wrap64 (bt229.1 * t226)))))) (wrap64 (12 * (wrap64 ((wrap64 (t223)) - (wrap64 (t221))))))) < 0 then (some (wrap64 ((wrap64 (t222)) + (wrap64 ((wrap64 (Int.tdiv (wrap64 ((wrap64 ((wrap64 (t224)) - (wrap64 (t222)))) * (wrap64 ((wrap64 (bt229.2 * (wrap64 ((wrap64 (t223)) - (wrap64 (t221)))))) + (wrap64 (bt229.1 * t226)))))) (wrap64 (12 * (wrap64 ((wrap64 (t223)) - (wrap64 (t221)))))))) - 1))))) else (some (wrap64 ((wrap64 (t222)) + (wrap64 (Int.tdiv (wrap64 ((wrap64 ((wrap64 (t224)) - (wrap64 (t222)))) * (wrap64 ((wrap64 (bt229.2 * (wrap64 ((wrap64 (t223)) - (wrap64 (t221)))))) + (wrap64 (bt229.1 * t226)))))) (wrap64 (12 * (wrap64 ((wrap64 (t223)) - (wrap64 (t221)))))))))))))) = some r := by rw [if_neg (show ¬ (false = true) by decide)] at H; exact H
  clear H
  have H := H1
  clear H1
  replace H := Option.bind_eq_some_iff.mp H
  obtain ⟨⟨t229, t230⟩, A80, H⟩ := H
  try dsimp only at H
  have A8 := am A80
  clear A80
  by_cases c9 : (wrap64 (12 * (wrap64 ((wrap64 (t223)) - (wrap64 (t221)))))) = 0
  ·rw [if_pos c9] at H
   exact absurd H (by simp)
  ·rw [if_neg c9] at H
   have c9b0 : ((wrap64 (12 * (wrap64 ((wrap64 (t223)) - (wrap64 (t221)))))) == 0) = false := beq_eq_false_iff_ne.mpr c9
   have c9b1 : ((wrap64 (12 * (wrap64 ((wrap64 (t223)) - (wrap64 (t221)))))) != 0) = true := bne_iff_ne.mpr c9
   by_cases c10 : (Int.tmod (wrap64 ((wrap64 ((wrap64 (t224)) - (wrap64 (t222)))) * (wrap64 ((wrap64 (t230 * (wrap64 ((wrap64 (t223)) - (wrap64 (t221)))))) + (wrap64 (t229 * t226)))))) (wrap64 (12 * (wrap64 ((wrap64 (t223)) - (wrap64 (t221))))))) < 0
   ·rw [if_pos c10] at H
    have c10b0 : decide ((Int.tmod (wrap64 ((wrap64 ((wrap64 (t224)) - (wrap64 (t222)))) * (wrap64 ((wrap64 (t230 * (wrap64 ((wrap64 (t223)) - (wrap64 (t221)))))) + (wrap64 (t229 * t226)))))) (wrap64 (12 * (wrap64 ((wrap64 (t223)) - (wrap64 (t221))))))) < 0) = true := decide_eq_true c10
    clear c10
    obtain rfl := Option.some.inj H
    go_enter Try.func146, Try.ntmps146
    go_wp2_with (first | ((with_reducible refine gate_callee (f := 174) rfl ?_); refine gL (some 15) Try.func174 #[.slice A0 l0.length c0, .int .i64 a1] ?_; (with_reducible refine (spec_l02At.calls k _ _ l0 a1 t221 t222 t223 t224 t225 t226 false _ ?side1 ?side2 A3.out).mono ?_); (case side1 => repeat (first | exact HR0.out | (with_reducible refine Kd.C_alloc ?_ _) | (with_reducible refine Kd.C_drewN ?_ _) | (with_reducible refine Kd.C_drew ?_))); (case side2 => exact HC0.out); rintro e w11 ⟨rfl, hb⟩; refine ⟨_, rfl, ?_⟩; replace HB := am (below_step (be HB) hb); (try clear hb); (try clear hb2); (try clear hk); (try clear hi)) | ((with_reducible refine gate_dst (N := 5) rfl ?_); refine bxe (N := 5) (cs := #[.int .i16 0, .int .i8 0, .int .i16 0, .int .i8 0, .int .i64 0, .int .i64 0, .bool false]) (t := 170) ?_; intro gb228 hg w12 hbox hb; have BK228 := am (hbox); have GW228 := am (gN hg (below_size (be HB))); have GE228 := am (gN hg (below_size (be HB))); replace HB := am (below_step (be HB) hb); clear hb hbox hg; obtain ⟨hcz13_0, hcz13_1, hcz13_2, hcz13_3, hcz13_4, hcz13_5, hcz13_6, hfz13_0, hfz13_1, hfz13_2, hfz13_3, hfz13_4, hfz13_5, hfz13_6⟩ := bx7 BK228) | ((with_reducible refine gate_callee (f := 175) rfl ?_); refine gL (some 26) Try.func175 #[.int .i64 t225] ?_; (with_reducible refine (spec_l02Twelfths.calls k t225 t229 t230 _ A8.out).mono ?_); rintro e w14 ⟨rfl, hb⟩; refine ⟨_, rfl, ?_⟩; replace BK228 := am (blk_below (g := gb228) (o := .cells #[.int .i16 t221, .int .i8 t222, .int .i16 t223, .int .i8 t224, .int .i64 t225, .int .i64 t226, .bool false] 170 (0, 0)) (by (with_reducible repeat (first | refine blk_drewN ?_ _ | refine blk_drew ?_ | refine blk_alloc ?_ _)); refine blk_put (cs := #[.int .i16 t221, .int .i8 t222, .int .i16 t223, .int .i8 t224, .int .i64 t225, .int .i64 t226, .bool false]) ?_ 6 _ rfl; (with_reducible repeat (first | refine blk_drewN ?_ _ | refine blk_drew ?_ | refine blk_alloc ?_ _)); refine blk_put (cs := #[.int .i16 t221, .int .i8 t222, .int .i16 t223, .int .i8 t224, .int .i64 t225, .int .i64 0, .bool false]) ?_ 5 _ rfl; (with_reducible repeat (first | refine blk_drewN ?_ _ | refine blk_drew ?_ | refine blk_alloc ?_ _)); refine blk_put (cs := #[.int .i16 t221, .int .i8 t222, .int .i16 t223, .int .i8 t224, .int .i64 0, .int .i64 0, .bool false]) ?_ 4 _ rfl; (with_reducible repeat (first | refine blk_drewN ?_ _ | refine blk_drew ?_ | refine blk_alloc ?_ _)); refine blk_put (cs := #[.int .i16 t221, .int .i8 t222, .int .i16 t223, .int .i8 0, .int .i64 0, .int .i64 0, .bool false]) ?_ 3 _ rfl; (with_reducible repeat (first | refine blk_drewN ?_ _ | refine blk_drew ?_ | refine blk_alloc ?_ _)); refine blk_put (cs := #[.int .i16 t221, .int .i8 t222, .int .i16 0, .int .i8 0, .int .i64 0, .int .i64 0, .bool false]) ?_ 2 _ rfl; (with_reducible repeat (first | refine blk_drewN ?_ _ | refine blk_drew ?_ | refine blk_alloc ?_ _)); refine blk_put (cs := #[.int .i16 t221, .int .i8 0, .int .i16 0, .int .i8 0, .int .i64 0, .int .i64 0, .bool false]) ?_ 1 _ rfl; (with_reducible repeat (first | refine blk_drewN ?_ _ | refine blk_drew ?_ | refine blk_alloc ?_ _)); refine blk_put (cs := #[.int .i16 0, .int .i8 0, .int .i16 0, .int .i8 0, .int .i64 0, .int .i64 0, .bool false]) ?_ 0 _ rfl; exact kb BK228) hb); replace HB := am (below_step (be HB) hb); (try clear hb); (try clear hb2); (try clear hk); (try clear hi); obtain ⟨hcz15_0, hcz15_1, hcz15_2, hcz15_3, hcz15_4, hcz15_5, hcz15_6, hfz15_0, hfz15_1, hfz15_2, hfz15_3, hfz15_4, hfz15_5, hfz15_6⟩ := bx7 BK228))
    go_ret
    exact ⟨by first | rfl | (simp [errW_none, errW_some] <;> rfl) | (simp [*, errW_none, errW_some] <;> rfl), be HB⟩
   ·rw [if_neg c10] at H
    have c10b0 : decide ((Int.tmod (wrap64 ((wrap64 ((wrap64 (t224)) - (wrap64 (t222)))) * (wrap64 ((wrap64 (t230 * (wrap64 ((wrap64 (t223)) - (wrap64 (t221)))))) + (wrap64 (t229 * t226)))))) (wrap64 (12 * (wrap64 ((wrap64 (t223)) - (wrap64 (t221))))))) < 0) = false := decide_eq_false c10
    clear c10
    obtain rfl := Option.some.inj H
    go_enter Try.func146, Try.ntmps146
    go_wp2_with (first | ((with_reducible refine gate_callee (f := 174) rfl ?_); refine gL (some 15) Try.func174 #[.slice A0 l0.length c0, .int .i64 a1] ?_; (with_reducible refine (spec_l02At.calls k _ _ l0 a1 t221 t222 t223 t224 t225 t226 false _ ?side1 ?side2 A3.out).mono ?_); (case side1 => repeat (first | exact HR0.out | (with_reducible refine Kd.C_alloc ?_ _) | (with_reducible refine Kd.C_drewN ?_ _) | (with_reducible refine Kd.C_drew ?_))); (case side2 => exact HC0.out); rintro e w16 ⟨rfl, hb⟩; refine ⟨_, rfl, ?_⟩; replace HB := am (below_step (be HB) hb); (try clear hb); (try clear hb2); (try clear hk); (try clear hi)) | ((with_reducible refine gate_dst (N := 5) rfl ?_); refine bxe (N := 5) (cs := #[.int .i16 0, .int .i8 0, .int .i16 0, .int .i8 0, .int .i64 0, .int .i64 0, .bool false]) (t := 170) ?_; intro gb228 hg w17 hbox hb; have BK228 := am (hbox); have GW228 := am (gN hg (below_size (be HB))); have GE228 := am (gN hg (below_size (be HB))); replace HB := am (below_step (be HB) hb); clear hb hbox hg; obtain ⟨hcz18_0, hcz18_1, hcz18_2, hcz18_3, hcz18_4, hcz18_5, hcz18_6, hfz18_0, hfz18_1, hfz18_2, hfz18_3, hfz18_4, hfz18_5, hfz18_6⟩ := bx7 BK228) | ((with_reducible refine gate_callee (f := 175) rfl ?_); refine gL (some 26) Try.func175 #[.int .i64 t225] ?_; (with_reducible refine (spec_l02Twelfths.calls k t225 t229 t230 _ A8.out).mono ?_); rintro e w19 ⟨rfl, hb⟩; refine ⟨_, rfl, ?_⟩; replace BK228 := am (blk_below (g := gb228) (o := .cells #[.int .i16 t221, .int .i8 t222, .int .i16 t223, .int .i8 t224, .int .i64 t225, .int .i64 t226, .bool false] 170 (0, 0)) (by (with_reducible repeat (first | refine blk_drewN ?_ _ | refine blk_drew ?_ | refine blk_alloc ?_ _)); refine blk_put (cs := #[.int .i16 t221, .int .i8 t222, .int .i16 t223, .int .i8 t224, .int .i64 t225, .int .i64 t226, .bool false]) ?_ 6 _ rfl; (with_reducible repeat (first | refine blk_drewN ?_ _ | refine blk_drew ?_ | refine blk_alloc ?_ _)); refine blk_put (cs := #[.int .i16 t221, .int .i8 t222, .int .i16 t223, .int .i8 t224, .int .i64 t225, .int .i64 0, .bool false]) ?_ 5 _ rfl; (with_reducible repeat (first | refine blk_drewN ?_ _ | refine blk_drew ?_ | refine blk_alloc ?_ _)); refine blk_put (cs := #[.int .i16 t221, .int .i8 t222, .int .i16 t223, .int .i8 t224, .int .i64 0, .int .i64 0, .bool false]) ?_ 4 _ rfl; (with_reducible repeat (first | refine blk_drewN ?_ _ | refine blk_drew ?_ | refine blk_alloc ?_ _)); refine blk_put (cs := #[.int .i16 t221, .int .i8 t222, .int .i16 t223, .int .i8 0, .int .i64 0, .int .i64 0, .bool false]) ?_ 3 _ rfl; (with_reducible repeat (first | refine blk_drewN ?_ _ | refine blk_drew ?_ | refine blk_alloc ?_ _)); refine blk_put (cs := #[.int .i16 t221, .int .i8 t222, .int .i16 0, .int .i8 0, .int .i64 0, .int .i64 0, .bool false]) ?_ 2 _ rfl; (with_reducible repeat (first | refine blk_drewN ?_ _ | refine blk_drew ?_ | refine blk_alloc ?_ _)); refine blk_put (cs := #[.int .i16 t221, .int .i8 0, .int .i16 0, .int .i8 0, .int .i64 0, .int .i64 0, .bool false]) ?_ 1 _ rfl; (with_reducible repeat (first | refine blk_drewN ?_ _ | refine blk_drew ?_ | refine blk_alloc ?_ _)); refine blk_put (cs := #[.int .i16 0, .int .i8 0, .int .i16 0, .int .i8 0, .int .i64 0, .int .i64 0, .bool false]) ?_ 0 _ rfl; exact kb BK228) hb); replace HB := am (below_step (be HB) hb); (try clear hb); (try clear hb2); (try clear hk); (try clear hi); obtain ⟨hcz20_0, hcz20_1, hcz20_2, hcz20_3, hcz20_4, hcz20_5, hcz20_6, hfz20_0, hfz20_1, hfz20_2, hfz20_3, hfz20_4, hfz20_5, hfz20_6⟩ := bx7 BK228))
    go_ret
    exact ⟨by first | rfl | (simp [errW_none, errW_some] <;> rfl) | (simp [*, errW_none, errW_some] <;> rfl), be HB⟩

end Go.Proofs.Ytcollbifdfhfoaa.PFnExactAllAfloat
