-- Written by a program out of this seat's translation (functions, and that the code comes to them).
import Derived.Test.YtcollbifdfhfoaaPFnExactAllAfloatx0
import Derived.Test.YtcollbifdfhfoaaPFnExactAllAfloatx9
namespace Go.Proofs.Ytcollbifdfhfoaa.PFnExactAllAfloat
open Go.RowKit Go.Proofs.YtcollbifdfhfoaaW.PrintWords Go.Proofs.YtcollbifdfhfoaaW.PrintLast Go.Proofs.YtcollbifdfhfoaaW.PrintMore
attribute [local go_sem] max2_int min2_int max_two min_two max_three min_three max_four min_four   -- for this text's walks alone
open Go.Proofs.Ytcollbifdfhfoaa.Bay Go.Proofs.Ytcollbifdfhfoaa.Short
attribute [local go_sem ↓] lv26_eq lv28_eq
attribute [local go_sem] lvv_set lvv_drewN lvv_drew lv26_run BayAt26_set BayAt26_drewN BayAt26_drew lv28_run BayAt28_set BayAt28_drewN BayAt28_drew
set_option linter.unusedVariables false
set_option linter.unusedSimpArgs false

/-! ### impl_tidesCode: function 154 -/
mutual
def impl_tidesCode.l0 : Nat → List Int → List Int → Int → Int → List Int → Int → Int → Option (Int)
 | 0, _, _, _, _, _, _, _ => none
 | k + 1, x1, x2, x7, x8, x21, x22, x23 => if x23 < x22 then (if 0 ≤ x23 then (if x23 < (x21.length : Int) then (if (rd x21 x23) < x7 then (some 2) else (if (rd x21 x23) > x8 then (some 2) else (if x23 > 0 then (if 0 ≤ (wrap64 (x23 - 1)) then (if (wrap64 (x23 - 1)) < (x1.length : Int) then (if (rd x21 x23) < (rd x1 (wrap64 (x23 - 1))) then (some 2) else (impl_tidesCode.l0 k x1 x2 x7 x8 x21 x22 (wrap64 (x23 + 1)))) else (none)) else (none)) else (impl_tidesCode.l0 k x1 x2 x7 x8 x21 x22 (wrap64 (x23 + 1)))))) else (none)) else (none)) else (impl_tidesCode.l1 k x2 (x2.length : Int) 0)
def impl_tidesCode.l1 : Nat → List Int → Int → Int → Option (Int)
 | 0, _, _, _ => none
 | k + 1, x50, x51, x52 => if x52 < x51 then (if 0 ≤ x52 then (if x52 < (x50.length : Int) then (if (rd x50 x52) < 0 then (some 2) else (if (rd x50 x52) > 100 then (some 2) else (impl_tidesCode.l1 k x50 x51 (wrap64 (x52 + 1))))) else (none)) else (none)) else (some 0)
end
def impl_tidesCode.f (k : Nat) (l0 : List (S103)) (l1 : List Int) (l2 : List Int) : Option (Int) := (impl_ValidTides.f k l0).bind fun t283 => (if t283 = true then ((impl_span.f l0).bind fun bt284 => (impl_tidesCode.l0 k l1 l2 bt284.1 bt284.2 l1 (l1.length : Int) 0)) else (some 1))
set_option maxHeartbeats 8000000 in
set_option maxRecDepth 100000 in
theorem impl_tidesCode.calls (k : Nat) (A0 : Option Addr) (c0 : Nat) (l0 : List (S103)) (A1 : Option Addr) (c1 : Nat) (l1 : List Int) (A2 : Option Addr) (c2 : Nat) (l2 : List Int) (r : Int) (w : World) (hr0 : Kd.C k103 w A0 l0.length l0) (hc0 : l0.length ≤ c0) (hr1 : Kd.C (Kd.int .i64) w A1 l1.length l1) (hc1 : l1.length ≤ c1) (hr2 : Kd.C (Kd.int .i64) w A2 l2.length l2) (hc2 : l2.length ≤ c2) (h : impl_tidesCode.f k l0 l1 l2 = some r) :
  Calls Try.prog 154 #[.slice A0 l0.length c0, .slice A1 l1.length c1, .slice A2 l2.length c2] w fun e w' => e = .returned (.int .i64 r) ∧ Below w.heap.size w w' := by
 have HR0 := am hr0
 have HC0 := am hc0
 clear hr0 hc0
 have HR1 := am hr1
 have HC1 := am hc1
 clear hr1 hc1
 have HR2 := am hr2
 have HC2 := am hc2
 clear hr2 hc2
 have HB := am (Below.refl w.heap.size w)
 have H : ((impl_ValidTides.f k l0).bind fun t283 => (if t283 = true then ((impl_span.f l0).bind fun bt284 => (impl_tidesCode.l0 k l1 l2 bt284.1 bt284.2 l1 (l1.length : Int) 0)) else (some 1))) = some r := h
 clear h
 replace H := Option.bind_eq_some_iff.mp H
 obtain ⟨t283, A40, H⟩ := H
 try dsimp only at H
 have A4 := am A40
 clear A40
 by_cases c5 : t283 = true
 ·subst c5
  rw [if_pos rfl] at H
  replace H := Option.bind_eq_some_iff.mp H
  obtain ⟨⟨t284, t285⟩, A60, H⟩ := H
  try dsimp only at H
  have A6 := am A60
  clear A60
  have H' := am H
  clear H
  go_enter Try.func154, Try.ntmps154
  go_wp2_with (first | ((with_reducible refine gate_callee (f := 148) rfl ?_); refine gL (some 14) Try.func148 #[.slice A0 l0.length c0] ?_; (with_reducible refine (impl_ValidTides.calls k _ _ l0 true _ ?side1 ?side2 A4.out).mono ?_); (case side1 => repeat (first | exact HR0.out | (with_reducible refine Kd.C_alloc ?_ _) | (with_reducible refine Kd.C_drewN ?_ _) | (with_reducible refine Kd.C_drew ?_))); (case side2 => exact HC0.out); rintro e w7 ⟨rfl, hb⟩; refine ⟨_, rfl, ?_⟩; replace HB := am (below_step (be HB) hb); (try clear hb); (try clear hb2); (try clear hk); (try clear hi)) | ((with_reducible refine gate_callee (f := 149) rfl ?_); refine gL (some 18) Try.func149 #[.slice A0 l0.length c0] ?_; (with_reducible refine (impl_span.calls _ _ l0 t284 t285 _ ?side1 ?side2 A6.out).mono ?_); (case side1 => repeat (first | exact (Kd.C_below HR0.out HB.out) | (with_reducible refine Kd.C_alloc ?_ _) | (with_reducible refine Kd.C_drewN ?_ _) | (with_reducible refine Kd.C_drew ?_))); (case side2 => exact HC0.out); rintro e w' ⟨rfl, ⟨nd, rfl⟩⟩; refine ⟨_, rfl, ?_⟩))
  go_loopg [23] k (fun kq v23 w' => ∃ (x23_1 : Int), v23 = .int .i64 x23_1 ∧ Aside0 (impl_tidesCode.l0 kq l1 l2 t284 t285 l1 (l1.length : Int) x23_1 = some r) ∧ Aside0 (kq ≤ k) ∧ Aside0 (Below w.heap.size w w'))
  case atStart => exact ⟨(0), vx, H', ⟨Nat.le_refl _⟩, ⟨be HB⟩⟩
  case round =>
   clear H'
   try clear c1
   try clear c2
   try clear p2
   try clear c5
   obtain ⟨x23_1, rfl, HA, HK1, HB⟩ := hrel
   cases gk with
   | zero => exact absurd HA.out (by simp [impl_tidesCode.l0])
   | succ k1 =>
    have H := HA.out
    clear HA
    simp only [impl_tidesCode.l0] at H
    by_cases c8 : x23_1 < (l1.length : Int)
    ·rw [if_pos c8] at H
     have c8b0 : decide (x23_1 < (l1.length : Int)) = true := decide_eq_true c8
     clear c8
     by_cases c9 : 0 ≤ x23_1
     ·rw [if_pos c9] at H
      have c9b0 : decide (0 ≤ x23_1) = true := decide_eq_true c9
      have c9b1 : 0 ≤ x23_1 := c9
      clear c9
      by_cases c10 : x23_1 < (l1.length : Int)
      ·rw [if_pos c10] at H
       have c10b0 : decide (x23_1 < (l1.length : Int)) = true := decide_eq_true c10
       clear c10
       by_cases c11 : (rd l1 x23_1) < t284
       ·rw [if_pos c11] at H
        have c11b0 : decide ((rd l1 x23_1) < t284) = true := decide_eq_true c11
        clear c11
        obtain rfl := Option.some.inj H
        have p286 : 0 ≤ (x23_1 : Int) := of_decide_eq_true (by first | (with_reducible assumption) | assumption)
        have q286 : x23_1 < (l1.length : Int) := of_decide_eq_true (by first | (with_reducible assumption) | assumption)
        obtain ⟨ad286, e286, hx286_0⟩ := Kd.at_int HR1.out x23_1 p286 q286
        cases e286
        replace hx286_0 := (HB.out.cell (World.block_lt_of_cell? w _ hx286_0)).trans hx286_0
        replace p286 := eq_true p286
        replace q286 := eq_true q286
        go_wp2
        go_ret
        exact ⟨by first | rfl | (simp [errW_none, errW_some] <;> rfl) | (simp [*, errW_none, errW_some] <;> rfl), be HB⟩
       ·rw [if_neg c11] at H
        have c11b0 : decide ((rd l1 x23_1) < t284) = false := decide_eq_false c11
        clear c11
        by_cases c12 : (rd l1 x23_1) > t285
        ·rw [if_pos c12] at H
         have c12b0 : decide (t285 < (rd l1 x23_1)) = true := decide_eq_true c12
         clear c12
         obtain rfl := Option.some.inj H
         have p286 : 0 ≤ (x23_1 : Int) := of_decide_eq_true (by first | (with_reducible assumption) | assumption)
         have q286 : x23_1 < (l1.length : Int) := of_decide_eq_true (by first | (with_reducible assumption) | assumption)
         obtain ⟨ad286, e286, hx286_0⟩ := Kd.at_int HR1.out x23_1 p286 q286
         cases e286
         replace hx286_0 := (HB.out.cell (World.block_lt_of_cell? w _ hx286_0)).trans hx286_0
         replace p286 := eq_true p286
         replace q286 := eq_true q286
         go_wp2
         go_ret
         exact ⟨by first | rfl | (simp [errW_none, errW_some] <;> rfl) | (simp [*, errW_none, errW_some] <;> rfl), be HB⟩
        ·rw [if_neg c12] at H
         have c12b0 : decide (t285 < (rd l1 x23_1)) = false := decide_eq_false c12
         clear c12
         by_cases c13 : x23_1 > 0
         ·rw [if_pos c13] at H
          have c13b0 : decide (0 < x23_1) = true := decide_eq_true c13
          clear c13
          obtain ⟨ji14, hji14⟩ : ∃ j_ : Int, (wrap64 (x23_1 - 1)) = j_ := ⟨_, rfl⟩
          replace H : (if 0 ≤ (ji14) then (if (ji14) < (l1.length : Int) then (if (rd l1 x23_1) < (rd l1 (ji14)) then (some 2) else (impl_tidesCode.l0 k1 l1 l2 t284 t285 l1 (l1.length : Int) (wrap64 (x23_1 + 1)))) else (none)) else (none)) = some r := by first | (rw [hji14] at H; exact H) | (simp only [hji14] at H ⊢; exact H)
          have hji14w : (IntKind.i64.wrap (x23_1 - 1)) = ji14 := (i64_w _).trans hji14
          by_cases c15 : 0 ≤ (ji14)
          ·rw [if_pos c15] at H
           have c15b0 : decide (0 ≤ (ji14)) = true := decide_eq_true c15
           have c15b1 : 0 ≤ (ji14) := c15
           clear c15
           by_cases c16 : (ji14) < (l1.length : Int)
           ·rw [if_pos c16] at H
            have c16b0 : decide ((ji14) < (l1.length : Int)) = true := decide_eq_true c16
            clear c16
            by_cases c17 : (rd l1 x23_1) < (rd l1 (ji14))
            ·rw [if_pos c17] at H
             have c17b0 : decide ((rd l1 x23_1) < (rd l1 (ji14))) = true := decide_eq_true c17
             clear c17
             obtain rfl := Option.some.inj H
             have p286 : 0 ≤ (x23_1 : Int) := of_decide_eq_true (by first | (with_reducible assumption) | assumption)
             have q286 : x23_1 < (l1.length : Int) := of_decide_eq_true (by first | (with_reducible assumption) | assumption)
             obtain ⟨ad286, e286, hx286_0⟩ := Kd.at_int HR1.out x23_1 p286 q286
             cases e286
             replace hx286_0 := (HB.out.cell (World.block_lt_of_cell? w _ hx286_0)).trans hx286_0
             replace p286 := eq_true p286
             replace q286 := eq_true q286
             have p287 : 0 ≤ ((ji14) : Int) := of_decide_eq_true (by first | (with_reducible assumption) | assumption)
             have q287 : (ji14) < (l1.length : Int) := of_decide_eq_true (by first | (with_reducible assumption) | assumption)
             obtain ⟨ad287, e287, hx287_0⟩ := Kd.at_int HR1.out (ji14) p287 q287
             obtain rfl : ad286 = ad287 := (by injection e287)
             replace hx287_0 := (HB.out.cell (World.block_lt_of_cell? w _ hx287_0)).trans hx287_0
             replace p287 := eq_true p287
             replace q287 := eq_true q287
             go_wp2
             go_ret
             exact ⟨by first | rfl | (simp [errW_none, errW_some] <;> rfl) | (simp only [← hji14]; first | rfl | (simp [errW_none, errW_some] <;> rfl)) | (simp [*, errW_none, errW_some] <;> rfl), be HB⟩
            ·rw [if_neg c17] at H
             have c17b0 : decide ((rd l1 x23_1) < (rd l1 (ji14))) = false := decide_eq_false c17
             clear c17
             have H' := am H
             clear H
             have p286 : 0 ≤ (x23_1 : Int) := of_decide_eq_true (by first | (with_reducible assumption) | assumption)
             have q286 : x23_1 < (l1.length : Int) := of_decide_eq_true (by first | (with_reducible assumption) | assumption)
             obtain ⟨ad286, e286, hx286_0⟩ := Kd.at_int HR1.out x23_1 p286 q286
             cases e286
             replace hx286_0 := (HB.out.cell (World.block_lt_of_cell? w _ hx286_0)).trans hx286_0
             replace p286 := eq_true p286
             replace q286 := eq_true q286
             have p287 : 0 ≤ ((ji14) : Int) := of_decide_eq_true (by first | (with_reducible assumption) | assumption)
             have q287 : (ji14) < (l1.length : Int) := of_decide_eq_true (by first | (with_reducible assumption) | assumption)
             obtain ⟨ad287, e287, hx287_0⟩ := Kd.at_int HR1.out (ji14) p287 q287
             obtain rfl : ad286 = ad287 := (by injection e287)
             replace hx287_0 := (HB.out.cell (World.block_lt_of_cell? w _ hx287_0)).trans hx287_0
             replace p287 := eq_true p287
             replace q287 := eq_true q287
             go_wp2
             go_roundg k1
             case measure => have := HK1.out; omega
             case rel => exact ⟨(wrap64 (x23_1 + 1)), vx, H', ⟨by have := HK1.out; omega⟩, ⟨be HB⟩⟩
           ·rw [if_neg c16] at H
            exact absurd H (by simp)
          ·rw [if_neg c15] at H
           exact absurd H (by simp)
         ·rw [if_neg c13] at H
          have c13b0 : decide (0 < x23_1) = false := decide_eq_false c13
          clear c13
          have H' := am H
          clear H
          have p286 : 0 ≤ (x23_1 : Int) := of_decide_eq_true (by first | (with_reducible assumption) | assumption)
          have q286 : x23_1 < (l1.length : Int) := of_decide_eq_true (by first | (with_reducible assumption) | assumption)
          obtain ⟨ad286, e286, hx286_0⟩ := Kd.at_int HR1.out x23_1 p286 q286
          cases e286
          replace hx286_0 := (HB.out.cell (World.block_lt_of_cell? w _ hx286_0)).trans hx286_0
          replace p286 := eq_true p286
          replace q286 := eq_true q286
          go_wp2
          go_roundg k1
          case measure => have := HK1.out; omega
          case rel => exact ⟨(wrap64 (x23_1 + 1)), vx, H', ⟨by have := HK1.out; omega⟩, ⟨be HB⟩⟩
      ·rw [if_neg c10] at H
       exact absurd H (by simp)
     ·rw [if_neg c9] at H
      exact absurd H (by simp)
    ·rw [if_neg c8] at H
     have c8b0 : decide (x23_1 < (l1.length : Int)) = false := decide_eq_false c8
     clear c8
     have H' := am H
     clear H
     go_wp2
     go_loopg [52] k1 (fun kq v52 w' => ∃ (x52_2 : Int), v52 = .int .i64 x52_2 ∧ Aside0 (impl_tidesCode.l1 kq l2 (l2.length : Int) x52_2 = some r) ∧ Aside0 (kq ≤ k1) ∧ Aside0 (Below w.heap.size w w'))
     case atStart => exact ⟨(0), vx, H', ⟨Nat.le_refl _⟩, ⟨be HB⟩⟩
     case round =>
      clear H'
      try clear c1
      try clear c2
      try clear p2
      try clear q2
      try clear hx2
      try clear c5
      try clear p6
      try clear c8
      try clear c8b0
      try clear c9
      try clear c9b0
      try clear c9b1
      try clear c10
      try clear c10b0
      try clear c11
      try clear c11b0
      try clear c12
      try clear c12b0
      try clear c13
      try clear c13b0
      try clear c14
      try clear c15
      try clear c15b0
      try clear c15b1
      try clear c16
      try clear c16b0
      try clear c17
      try clear c17b0
      try clear hx286_0
      try clear hx287_0
      try clear p2
      try clear p286
      try clear p287
      try clear q286
      try clear q287
      obtain ⟨x52_2, rfl, HA, HK2, HB⟩ := hrel
      cases gk with
      | zero => exact absurd HA.out (by simp [impl_tidesCode.l1])
      | succ k2 =>
       have H := HA.out
       clear HA
       simp only [impl_tidesCode.l1] at H
       by_cases c18 : x52_2 < (l2.length : Int)
       ·rw [if_pos c18] at H
        have c18b0 : decide (x52_2 < (l2.length : Int)) = true := decide_eq_true c18
        clear c18
        by_cases c19 : 0 ≤ x52_2
        ·rw [if_pos c19] at H
         have c19b0 : decide (0 ≤ x52_2) = true := decide_eq_true c19
         have c19b1 : 0 ≤ x52_2 := c19
         clear c19
         by_cases c20 : x52_2 < (l2.length : Int)
         ·rw [if_pos c20] at H
          have c20b0 : decide (x52_2 < (l2.length : Int)) = true := decide_eq_true c20
          clear c20
          by_cases c21 : (rd l2 x52_2) < 0
          ·rw [if_pos c21] at H
           have c21b0 : decide ((rd l2 x52_2) < 0) = true := decide_eq_true c21
           clear c21
           obtain rfl := Option.some.inj H
           have p288 : 0 ≤ (x52_2 : Int) := of_decide_eq_true (by first | (with_reducible assumption) | assumption)
           have q288 : x52_2 < (l2.length : Int) := of_decide_eq_true (by first | (with_reducible assumption) | assumption)
           obtain ⟨ad288, e288, hx288_0⟩ := Kd.at_int HR2.out x52_2 p288 q288
           cases e288
           replace hx288_0 := (HB.out.cell (World.block_lt_of_cell? w _ hx288_0)).trans hx288_0
           replace p288 := eq_true p288
           replace q288 := eq_true q288
           go_wp2
           go_ret
           exact ⟨by first | rfl | (simp [errW_none, errW_some] <;> rfl) | (simp [*, errW_none, errW_some] <;> rfl), be HB⟩
          ·rw [if_neg c21] at H
           have c21b0 : decide ((rd l2 x52_2) < 0) = false := decide_eq_false c21
           clear c21
           by_cases c22 : (rd l2 x52_2) > 100
           ·rw [if_pos c22] at H
            have c22b0 : decide (100 < (rd l2 x52_2)) = true := decide_eq_true c22
            clear c22
            obtain rfl := Option.some.inj H
            have p288 : 0 ≤ (x52_2 : Int) := of_decide_eq_true (by first | (with_reducible assumption) | assumption)
            have q288 : x52_2 < (l2.length : Int) := of_decide_eq_true (by first | (with_reducible assumption) | assumption)
            obtain ⟨ad288, e288, hx288_0⟩ := Kd.at_int HR2.out x52_2 p288 q288
            cases e288
            replace hx288_0 := (HB.out.cell (World.block_lt_of_cell? w _ hx288_0)).trans hx288_0
            replace p288 := eq_true p288
            replace q288 := eq_true q288
            go_wp2
            go_ret
            exact ⟨by first | rfl | (simp [errW_none, errW_some] <;> rfl) | (simp [*, errW_none, errW_some] <;> rfl), be HB⟩
           ·rw [if_neg c22] at H
            have c22b0 : decide (100 < (rd l2 x52_2)) = false := decide_eq_false c22
            clear c22
            have H' := am H
            clear H
            have p288 : 0 ≤ (x52_2 : Int) := of_decide_eq_true (by first | (with_reducible assumption) | assumption)
            have q288 : x52_2 < (l2.length : Int) := of_decide_eq_true (by first | (with_reducible assumption) | assumption)
            obtain ⟨ad288, e288, hx288_0⟩ := Kd.at_int HR2.out x52_2 p288 q288
            cases e288
            replace hx288_0 := (HB.out.cell (World.block_lt_of_cell? w _ hx288_0)).trans hx288_0
            replace p288 := eq_true p288
            replace q288 := eq_true q288
            go_wp2
            go_roundg k2
            case measure => have := HK1.out; have := HK2.out; omega
            case rel => exact ⟨(wrap64 (x52_2 + 1)), vx, H', ⟨by have := HK1.out; have := HK2.out; omega⟩, ⟨be HB⟩⟩
         ·rw [if_neg c20] at H
          exact absurd H (by simp)
        ·rw [if_neg c19] at H
         exact absurd H (by simp)
       ·rw [if_neg c18] at H
        have c18b0 : decide (x52_2 < (l2.length : Int)) = false := decide_eq_false c18
        clear c18
        obtain rfl := Option.some.inj H
        go_wp2
        go_ret
        exact ⟨by first | rfl | (simp [errW_none, errW_some] <;> rfl) | (simp [*, errW_none, errW_some] <;> rfl), be HB⟩
 ·replace c5 := Bool.eq_false_iff.mpr c5
  subst c5
  have H1 : (some 1) = some r := by rw [if_neg (show ¬ (false = true) by decide)] at H; exact H
  clear H
  have H := H1
  clear H1
  obtain rfl := Option.some.inj H
  go_enter Try.func154, Try.ntmps154
  go_wp2_with (first | ((with_reducible refine gate_callee (f := 148) rfl ?_); refine gL (some 14) Try.func148 #[.slice A0 l0.length c0] ?_; (with_reducible refine (impl_ValidTides.calls k _ _ l0 false _ ?side1 ?side2 A4.out).mono ?_); (case side1 => repeat (first | exact HR0.out | (with_reducible refine Kd.C_alloc ?_ _) | (with_reducible refine Kd.C_drewN ?_ _) | (with_reducible refine Kd.C_drew ?_))); (case side2 => exact HC0.out); rintro e w23 ⟨rfl, hb⟩; refine ⟨_, rfl, ?_⟩; replace HB := am (below_step (be HB) hb); (try clear hb); (try clear hb2); (try clear hk); (try clear hi)))
  go_ret
  exact ⟨by first | rfl | (simp [errW_none, errW_some] <;> rfl) | (simp [*, errW_none, errW_some] <;> rfl), be HB⟩

/-! ### impl_floatCode: function 155 -/
def impl_floatCode.j0 : Nat → List (S103) → List Int → Int → Bool → Option (Int)
 | 0, _, _, _, _ => none
 | k + 1, x2, x3, x9, x13 => if x13 = true then (some 1) else (if x9 = 0 then ((impl_tidesCode.f k x2 x3 ([] : List Int)).bind fun t292 => (some t292)) else (some x9))
def impl_floatCode.f (k : Nat) (a0_0 : Int) (a0_1 : Int) (a0_2 : (Nat → Int)) (l1 : List (S38)) (l2 : List (S103)) (l3 : List Int) : Option (Int) := (impl_boatsCode.f k a0_0 a0_1 a0_2 l1).bind fun t290 => (if t290 = 1 then (impl_floatCode.j0 k l2 l3 t290 true) else ((impl_ValidTides.f k l2).bind fun t291 => (impl_floatCode.j0 k l2 l3 t290 (!t291))))
set_option maxHeartbeats 8000000 in
set_option maxRecDepth 100000 in
theorem impl_floatCode.calls (k : Nat) (a0_0 : Int) (a0_1 : Int) (a0_2 : (Nat → Int)) (A1 : Option Addr) (c1 : Nat) (l1 : List (S38)) (A2 : Option Addr) (c2 : Nat) (l2 : List (S103)) (A3 : Option Addr) (c3 : Nat) (l3 : List Int) (r : Int) (w : World) (hr1 : Kd.C k38 w A1 l1.length l1) (hc1 : l1.length ≤ c1) (hr2 : Kd.C k103 w A2 l2.length l2) (hc2 : l2.length ≤ c2) (hr3 : Kd.C (Kd.int .i64) w A3 l3.length l3) (hc3 : l3.length ≤ c3) (h : impl_floatCode.f k a0_0 a0_1 a0_2 l1 l2 l3 = some r) :
  Calls Try.prog 155 #[.agg (csBay a0_0 a0_1 a0_2), .slice A1 l1.length c1, .slice A2 l2.length c2, .slice A3 l3.length c3] w fun e w' => e = .returned (.int .i64 r) ∧ Below w.heap.size w w' := by
 have hu28 := Try.underlying28
 have HR1 := am hr1
 have HC1 := am hc1
 clear hr1 hc1
 have HR2 := am hr2
 have HC2 := am hc2
 clear hr2 hc2
 have HR3 := am hr3
 have HC3 := am hc3
 clear hr3 hc3
 have HB := am (Below.refl w.heap.size w)
 have H : ((impl_boatsCode.f k a0_0 a0_1 a0_2 l1).bind fun t290 => (if t290 = 1 then (impl_floatCode.j0 k l2 l3 t290 true) else ((impl_ValidTides.f k l2).bind fun t291 => (impl_floatCode.j0 k l2 l3 t290 (!t291))))) = some r := h
 clear h
 replace H := Option.bind_eq_some_iff.mp H
 obtain ⟨t290, A50, H⟩ := H
 try dsimp only at H
 have A5 := am A50
 clear A50
 have HC6 := am H
 clear H
 go_enter Try.func155, Try.ntmps155
 go_upto_region 2 with (first | ((with_reducible refine gate_dst (N := 4) rfl ?_); refine bxe (N := 4) (cs := (csBay a0_0 a0_1 a0_2)) (t := 28) ?_; intro gb289 hg w7 hbox hb; have BK289 := am (hbox); have GW289 := am (gN hg (below_size (be HB))); have GE289 := am (gN hg (below_size (be HB))); replace HB := am (below_step (be HB) hb); clear hb hbox hg; obtain ⟨hcz8_0, hcz8_1, hwz8, haz8, hyz8, hvz8, hfz8_0, hfz8_1, hfz8_2⟩ := bb28 BK289) | ((with_reducible refine gate_callee (f := 125) rfl ?_); refine gL (some 12) Try.func125 #[.agg (csBay a0_0 a0_1 a0_2), .slice A1 l1.length c1] ?_; (with_reducible refine (impl_boatsCode.calls k a0_0 a0_1 a0_2 _ _ l1 t290 _ ?side1 ?side2 A5.out).mono ?_); (case side1 => repeat (first | exact (Kd.C_below HR1.out HB.out) | (with_reducible refine Kd.C_alloc ?_ _) | (with_reducible refine Kd.C_drewN ?_ _) | (with_reducible refine Kd.C_drew ?_))); (case side2 => exact HC1.out); rintro e w9 ⟨rfl, hb⟩; refine ⟨_, rfl, ?_⟩; replace BK289 := bB BK289 hb; replace HB := am (below_step (be HB) hb); (try clear hb); (try clear hb2); (try clear hk); (try clear hi)))
 (try simp only [Act.put, List.setIfInBounds_toArray, List.set_cons_zero, List.set_cons_succ])
 go_cut [13] (fun v13 wc => ∃ (kq : Nat) (x13_5 : Bool), v13 = .bool x13_5 ∧ Aside0 (impl_floatCode.j0 kq l2 l3 t290 x13_5 = some r) ∧ Aside0 (kq ≤ k) ∧ Aside0 (wc.heap[gb289]? = some (.cells (csBay a0_0 a0_1 a0_2) 28 (0, 0))) ∧ Aside0 (Below w.heap.size w wc))
 case first =>
  have H := HC6.out
  clear HC6
  by_cases c10 : t290 = 1
  ·rw [if_pos c10] at H
   have c10b0 : (t290 == 1) = true := beq_iff_eq.mpr c10
   have c10b1 : (t290 != 1) = false := bne_eq_false_iff_eq.mpr c10
   clear c10
   (first | rw [c10b0] | (simp only [i64_w, i32_w]; rw [c10b0]) | skip)
   have H' := am H
   clear H
   go_wp2
   go_meet
   case rel => exact ⟨_, (true), vx, H', ⟨by first | omega | exact Nat.le_refl _⟩, ⟨kb BK289⟩, ⟨be HB⟩⟩
  ·rw [if_neg c10] at H
   have c10b0 : (t290 == 1) = false := beq_eq_false_iff_ne.mpr c10
   have c10b1 : (t290 != 1) = true := bne_iff_ne.mpr c10
   (first | rw [c10b0] | (simp only [i64_w, i32_w]; rw [c10b0]) | skip)
   replace H := Option.bind_eq_some_iff.mp H
   obtain ⟨t291, A110, H⟩ := H
   try dsimp only at H
   have A11 := am A110
   clear A110
   have H' := am H
   clear H
   go_wp2_with (first | (go_at_call 148; (with_reducible refine (impl_ValidTides.calls k _ _ l2 t291 _ ?side1 ?side2 A11.out).mono ?_); (case side1 => repeat (first | exact (Kd.C_below HR2.out HB.out) | (with_reducible refine Kd.C_alloc ?_ _) | (with_reducible refine Kd.C_drewN ?_ _) | (with_reducible refine Kd.C_drew ?_))); (case side2 => exact HC2.out); rintro e w12 ⟨rfl, hb⟩; replace BK289 := bB BK289 hb; replace HB := am (below_step (be HB) hb); (try clear hb); (try clear hb2); (try clear hk); (try clear hi)))
   go_meet
   case rel => exact ⟨_, (!t291), vx, H', ⟨by first | omega | exact Nat.le_refl _⟩, ⟨kb BK289⟩, ⟨be HB⟩⟩
 case rest =>
  clear HC6
  try clear c1
  try clear c2
  try clear p2
  try clear c3
  try clear c10
  try clear c10b0
  try clear c10b1
  try clear c12
  try clear hcz8_0
  try clear hcz8_1
  try clear hfz8_0
  try clear hfz8_1
  try clear hfz8_2
  obtain ⟨kq, x13_5, rfl, HA, HJ5, BK289, HB⟩ := hcut
  cases kq with
  | zero => exact absurd HA.out (by simp [impl_floatCode.j0])
  | succ kj5 =>
   have H := HA.out
   clear HA
   simp only [impl_floatCode.j0] at H
   by_cases c13 : x13_5 = true
   ·subst c13
    rw [if_pos rfl] at H
    obtain rfl := Option.some.inj H
    go_wp2
    go_ret
    exact ⟨by first | rfl | (simp [errW_none, errW_some] <;> rfl) | (simp [*, errW_none, errW_some] <;> rfl), be HB⟩
   ·replace c13 := Bool.eq_false_iff.mpr c13
    subst c13
    have H1 : (if t290 = 0 then ((impl_tidesCode.f kj5 l2 l3 ([] : List Int)).bind fun t292 => (some t292)) else (some t290)) = some r := by rw [if_neg (show ¬ (false = true) by decide)] at H; exact H
    clear H
    have H := H1
    clear H1
    by_cases c14 : t290 = 0
    ·rw [if_pos c14] at H
     have c14b0 : (t290 == 0) = true := beq_iff_eq.mpr c14
     have c14b1 : (t290 != 0) = false := bne_eq_false_iff_eq.mpr c14
     clear c14
     replace H := Option.bind_eq_some_iff.mp H
     obtain ⟨t292, A150, H⟩ := H
     try dsimp only at H
     have A15 := am A150
     clear A150
     obtain rfl := Option.some.inj H
     go_wp2_with (first | ((with_reducible refine gate_callee (f := 154) rfl ?_); refine gL (some 27) Try.func154 #[.slice A2 l2.length c2, .slice A3 l3.length c3, .slice none 0 0] ?_; (refine (impl_tidesCode.calls kj5 _ _ l2 _ _ l3 _ _ ([] : List Int) t292 _ ?side1 ?side2 ?side3 ?side4 ?side5 ?side6 A15.out).mono ?_); (case side1 => repeat (first | exact (Kd.C_below HR2.out HB.out) | (with_reducible refine Kd.C_alloc ?_ _) | (with_reducible refine Kd.C_drewN ?_ _) | (with_reducible refine Kd.C_drew ?_))); (case side2 => exact HC2.out); (case side3 => repeat (first | exact (Kd.C_below HR3.out HB.out) | (with_reducible refine Kd.C_alloc ?_ _) | (with_reducible refine Kd.C_drewN ?_ _) | (with_reducible refine Kd.C_drew ?_))); (case side4 => exact HC3.out); (case side5 => exact Kd.C_nil _ _); (case side6 => exact Nat.le_refl _); rintro e w16 ⟨rfl, hb⟩; refine ⟨_, rfl, ?_⟩; replace BK289 := bB BK289 hb; replace HB := am (below_step (be HB) hb); (try clear hb); (try clear hb2); (try clear hk); (try clear hi)))
     go_ret
     exact ⟨by first | rfl | (simp [errW_none, errW_some] <;> rfl) | (simp [*, errW_none, errW_some] <;> rfl), be HB⟩
    ·rw [if_neg c14] at H
     have c14b0 : (t290 == 0) = false := beq_eq_false_iff_ne.mpr c14
     have c14b1 : (t290 != 0) = true := bne_iff_ne.mpr c14
     obtain rfl := Option.some.inj H
     go_wp2
     go_ret
     exact ⟨by first | rfl | (simp [errW_none, errW_some] <;> rfl) | (simp [*, errW_none, errW_some] <;> rfl), be HB⟩

/-! ### impl_part: function 176 -/
def impl_part.l0 : Nat → List (S103) → Int → Int → Option (Int × Int × Int)
 | 0, _, _, _ => none
 | k + 1, x0, x1, x7 => if 0 ≤ (wrap64 (x7 + 1)) then (if (wrap64 (x7 + 1)) < (x0.length : Int) then (if (wrap64 ((rd_T103 x0 (wrap64 (x7 + 1))).f0)) ≤ x1 then (if (wrap64 (x7 + 2)) < (x0.length : Int) then (impl_part.l0 k x0 x1 (wrap64 (x7 + 1))) else (if 0 ≤ x7 then (if x7 < (x0.length : Int) then (if (wrap64 ((wrap64 ((rd_T103 x0 (wrap64 (x7 + 1))).f0)) - (wrap64 ((rd_T103 x0 x7).f0)))) = 0 then (none) else (some (x7, wrap64 (Int.tdiv (wrap64 (6 * (wrap64 (x1 - (wrap64 ((rd_T103 x0 x7).f0)))))) (wrap64 ((wrap64 ((rd_T103 x0 (wrap64 (x7 + 1))).f0)) - (wrap64 ((rd_T103 x0 x7).f0))))), Int.tmod (wrap64 (6 * (wrap64 (x1 - (wrap64 ((rd_T103 x0 x7).f0)))))) (wrap64 ((wrap64 ((rd_T103 x0 (wrap64 (x7 + 1))).f0)) - (wrap64 ((rd_T103 x0 x7).f0))))))) else (none)) else (none))) else (if 0 ≤ x7 then (if x7 < (x0.length : Int) then (if (wrap64 ((wrap64 ((rd_T103 x0 (wrap64 (x7 + 1))).f0)) - (wrap64 ((rd_T103 x0 x7).f0)))) = 0 then (none) else (some (x7, wrap64 (Int.tdiv (wrap64 (6 * (wrap64 (x1 - (wrap64 ((rd_T103 x0 x7).f0)))))) (wrap64 ((wrap64 ((rd_T103 x0 (wrap64 (x7 + 1))).f0)) - (wrap64 ((rd_T103 x0 x7).f0))))), Int.tmod (wrap64 (6 * (wrap64 (x1 - (wrap64 ((rd_T103 x0 x7).f0)))))) (wrap64 ((wrap64 ((rd_T103 x0 (wrap64 (x7 + 1))).f0)) - (wrap64 ((rd_T103 x0 x7).f0))))))) else (none)) else (none))) else (none)) else (none)
def impl_part.f (k : Nat) (l0 : List (S103)) (a1 : Int) : Option (Int × Int × Int) := impl_part.l0 k l0 a1 0
set_option maxHeartbeats 8000000 in
set_option maxRecDepth 100000 in
theorem impl_part.calls (k : Nat) (A0 : Option Addr) (c0 : Nat) (l0 : List (S103)) (a1 : Int) (r1 : Int) (r2 : Int) (r3 : Int) (w : World) (hr0 : Kd.C k103 w A0 l0.length l0) (hc0 : l0.length ≤ c0) (h : impl_part.f k l0 a1 = some (r1, r2, r3)) :
  Calls Try.prog 176 #[.slice A0 l0.length c0, .int .i64 a1] w fun e w' => e = .returned (.tuple #[.int .i64 r1, .int .i64 r2, .int .i64 r3]) ∧ Drawn0 w w' := by
 have HR0 := am hr0
 have HC0 := am hc0
 clear hr0 hc0
 have H : (impl_part.l0 k l0 a1 0) = some (r1, r2, r3) := h
 clear h
 have H' := am H
 clear H
 go_enter Try.func176, Try.ntmps176
 go_wp2
 repeat (go_quiet (fail); try go_wp2)
 go_loopg [7] k (fun kq v7 w' => ∃ (x7_1 : Int), v7 = .int .i64 x7_1 ∧ Aside0 (impl_part.l0 kq l0 a1 x7_1 = some (r1, r2, r3)) ∧ Aside0 (kq ≤ k) ∧ Drawn0 w w')
 case atStart => exact ⟨(0), vx, H', ⟨Nat.le_refl _⟩, by repeat (first | exact Drawn0.refl _ | apply Drawn0.step)⟩
 case round =>
  clear H'
  try clear c1
  try clear p2
  obtain ⟨x7_1, rfl, HA, HK1, ⟨m1, rfl⟩⟩ := hrel
  cases gk with
  | zero => exact absurd HA.out (by simp [impl_part.l0])
  | succ k1 =>
   have H := HA.out
   clear HA
   simp only [impl_part.l0] at H
   obtain ⟨ji3, hji3⟩ : ∃ j_ : Int, (wrap64 (x7_1 + 1)) = j_ := ⟨_, rfl⟩
   replace H : (if 0 ≤ (ji3) then (if (ji3) < (l0.length : Int) then (if (wrap64 ((rd_T103 l0 (ji3)).f0)) ≤ a1 then (if (wrap64 (x7_1 + 2)) < (l0.length : Int) then (impl_part.l0 k1 l0 a1 ji3) else (if 0 ≤ x7_1 then (if x7_1 < (l0.length : Int) then (if (wrap64 ((wrap64 ((rd_T103 l0 (ji3)).f0)) - (wrap64 ((rd_T103 l0 x7_1).f0)))) = 0 then (none) else (some (x7_1, wrap64 (Int.tdiv (wrap64 (6 * (wrap64 (a1 - (wrap64 ((rd_T103 l0 x7_1).f0)))))) (wrap64 ((wrap64 ((rd_T103 l0 (ji3)).f0)) - (wrap64 ((rd_T103 l0 x7_1).f0))))), Int.tmod (wrap64 (6 * (wrap64 (a1 - (wrap64 ((rd_T103 l0 x7_1).f0)))))) (wrap64 ((wrap64 ((rd_T103 l0 (ji3)).f0)) - (wrap64 ((rd_T103 l0 x7_1).f0))))))) else (none)) else (none))) else (if 0 ≤ x7_1 then (if x7_1 < (l0.length : Int) then (if (wrap64 ((wrap64 ((rd_T103 l0 (ji3)).f0)) - (wrap64 ((rd_T103 l0 x7_1).f0)))) = 0 then (none) else (some (x7_1, wrap64 (Int.tdiv (wrap64 (6 * (wrap64 (a1 - (wrap64 ((rd_T103 l0 x7_1).f0)))))) (wrap64 ((wrap64 ((rd_T103 l0 (ji3)).f0)) - (wrap64 ((rd_T103 l0 x7_1).f0))))), Int.tmod (wrap64 (6 * (wrap64 (a1 - (wrap64 ((rd_T103 l0 x7_1).f0)))))) (wrap64 ((wrap64 ((rd_T103 l0 (ji3)).f0)) - (wrap64 ((rd_T103 l0 x7_1).f0))))))) else (none)) else (none))) else (none)) else (none)) = some (r1, r2, r3) := by first | (rw [hji3] at H; exact H) | (simp only [hji3] at H ⊢; exact H)
   have hji3w : (IntKind.i64.wrap (x7_1 + 1)) = ji3 := (i64_w _).trans hji3
   by_cases c4 : 0 ≤ (ji3)
   ·rw [if_pos c4] at H
    have c4b0 : decide (0 ≤ (ji3)) = true := decide_eq_true c4
    have c4b1 : 0 ≤ (ji3) := c4
    clear c4
    by_cases c5 : (ji3) < (l0.length : Int)
    ·rw [if_pos c5] at H
     have c5b0 : decide ((ji3) < (l0.length : Int)) = true := decide_eq_true c5
     clear c5
     by_cases c6 : (wrap64 ((rd_T103 l0 (ji3)).f0)) ≤ a1
     ·rw [if_pos c6] at H
      have c6b0 : decide ((wrap64 ((rd_T103 l0 (ji3)).f0)) ≤ a1) = true := decide_eq_true c6
      clear c6
      by_cases c7 : (wrap64 (x7_1 + 2)) < (l0.length : Int)
      ·rw [if_pos c7] at H
       have c7b0 : decide ((wrap64 (x7_1 + 2)) < (l0.length : Int)) = true := decide_eq_true c7
       clear c7
       have H' := am H
       clear H
       have p293 : 0 ≤ ((ji3) : Int) := of_decide_eq_true (by first | (with_reducible assumption) | assumption)
       have q293 : (ji3) < (l0.length : Int) := of_decide_eq_true (by first | (with_reducible assumption) | assumption)
       obtain ⟨ad293, e293, hx293_0, hx293_1⟩ := at_T103 HR0.out (ji3) p293 q293
       cases e293
       replace p293 := eq_true p293
       replace q293 := eq_true q293
       go_wp2
       repeat (go_quiet (fail); try go_wp2)
       go_roundg k1
       case measure => have := HK1.out; omega
       case rel => exact ⟨(ji3), (by first | rfl | (simp; done) | (simp only [← hji3] <;> (first | rfl | simp)) | (simp [*]; done)), H', ⟨by have := HK1.out; omega⟩, by repeat (first | exact Drawn0.refl _ | apply Drawn0.step)⟩
      ·rw [if_neg c7] at H
       have c7b0 : decide ((wrap64 (x7_1 + 2)) < (l0.length : Int)) = false := decide_eq_false c7
       clear c7
       by_cases c8 : 0 ≤ x7_1
       ·rw [if_pos c8] at H
        have c8b0 : decide (0 ≤ x7_1) = true := decide_eq_true c8
        have c8b1 : 0 ≤ x7_1 := c8
        clear c8
        by_cases c9 : x7_1 < (l0.length : Int)
        ·rw [if_pos c9] at H
         have c9b0 : decide (x7_1 < (l0.length : Int)) = true := decide_eq_true c9
         clear c9
         by_cases c10 : (wrap64 ((wrap64 ((rd_T103 l0 (ji3)).f0)) - (wrap64 ((rd_T103 l0 x7_1).f0)))) = 0
         ·rw [if_pos c10] at H
          exact absurd H (by simp)
         ·rw [if_neg c10] at H
          have c10b0 : ((wrap64 ((wrap64 ((rd_T103 l0 (ji3)).f0)) - (wrap64 ((rd_T103 l0 x7_1).f0)))) == 0) = false := beq_eq_false_iff_ne.mpr c10
          have c10b1 : ((wrap64 ((wrap64 ((rd_T103 l0 (ji3)).f0)) - (wrap64 ((rd_T103 l0 x7_1).f0)))) != 0) = true := bne_iff_ne.mpr c10
          simp only [Option.some.injEq, Prod.mk.injEq] at H
          obtain ⟨rfl, rfl, rfl⟩ := H
          have p293 : 0 ≤ ((ji3) : Int) := of_decide_eq_true (by first | (with_reducible assumption) | assumption)
          have q293 : (ji3) < (l0.length : Int) := of_decide_eq_true (by first | (with_reducible assumption) | assumption)
          obtain ⟨ad293, e293, hx293_0, hx293_1⟩ := at_T103 HR0.out (ji3) p293 q293
          cases e293
          replace p293 := eq_true p293
          replace q293 := eq_true q293
          have p294 : 0 ≤ (x7_1 : Int) := of_decide_eq_true (by first | (with_reducible assumption) | assumption)
          have q294 : x7_1 < (l0.length : Int) := of_decide_eq_true (by first | (with_reducible assumption) | assumption)
          obtain ⟨ad294, e294, hx294_0, hx294_1⟩ := at_T103 HR0.out x7_1 p294 q294
          obtain rfl : ad293 = ad294 := (by injection e294)
          replace p294 := eq_true p294
          replace q294 := eq_true q294
          have p295 : 0 ≤ ((ji3) : Int) := of_decide_eq_true (by first | (with_reducible assumption) | assumption)
          have q295 : (ji3) < (l0.length : Int) := of_decide_eq_true (by first | (with_reducible assumption) | assumption)
          obtain ⟨ad295, e295, hx295_0, hx295_1⟩ := at_T103 HR0.out (ji3) p295 q295
          obtain rfl : ad293 = ad295 := (by injection e295)
          replace p295 := eq_true p295
          replace q295 := eq_true q295
          go_wp2
          repeat (go_quiet (fail); try go_wp2)
          go_ret3
          exact ⟨by first | rfl | (simp; done) | (simp only [← hji3] <;> (first | rfl | simp)) | (simp [*]; done), by repeat (first | exact Drawn0.refl _ | apply Drawn0.step)⟩
        ·rw [if_neg c9] at H
         exact absurd H (by simp)
       ·rw [if_neg c8] at H
        exact absurd H (by simp)
     ·rw [if_neg c6] at H
      have c6b0 : decide ((wrap64 ((rd_T103 l0 (ji3)).f0)) ≤ a1) = false := decide_eq_false c6
      clear c6
      by_cases c11 : 0 ≤ x7_1
      ·rw [if_pos c11] at H
       have c11b0 : decide (0 ≤ x7_1) = true := decide_eq_true c11
       have c11b1 : 0 ≤ x7_1 := c11
       clear c11
       by_cases c12 : x7_1 < (l0.length : Int)
       ·rw [if_pos c12] at H
        have c12b0 : decide (x7_1 < (l0.length : Int)) = true := decide_eq_true c12
        clear c12
        by_cases c13 : (wrap64 ((wrap64 ((rd_T103 l0 (ji3)).f0)) - (wrap64 ((rd_T103 l0 x7_1).f0)))) = 0
        ·rw [if_pos c13] at H
         exact absurd H (by simp)
        ·rw [if_neg c13] at H
         have c13b0 : ((wrap64 ((wrap64 ((rd_T103 l0 (ji3)).f0)) - (wrap64 ((rd_T103 l0 x7_1).f0)))) == 0) = false := beq_eq_false_iff_ne.mpr c13
         have c13b1 : ((wrap64 ((wrap64 ((rd_T103 l0 (ji3)).f0)) - (wrap64 ((rd_T103 l0 x7_1).f0)))) != 0) = true := bne_iff_ne.mpr c13
         simp only [Option.some.injEq, Prod.mk.injEq] at H
         obtain ⟨rfl, rfl, rfl⟩ := H
         have p293 : 0 ≤ ((ji3) : Int) := of_decide_eq_true (by first | (with_reducible assumption) | assumption)
         have q293 : (ji3) < (l0.length : Int) := of_decide_eq_true (by first | (with_reducible assumption) | assumption)
         obtain ⟨ad293, e293, hx293_0, hx293_1⟩ := at_T103 HR0.out (ji3) p293 q293
         cases e293
         replace p293 := eq_true p293
         replace q293 := eq_true q293
         have p296 : 0 ≤ (x7_1 : Int) := of_decide_eq_true (by first | (with_reducible assumption) | assumption)
         have q296 : x7_1 < (l0.length : Int) := of_decide_eq_true (by first | (with_reducible assumption) | assumption)
         obtain ⟨ad296, e296, hx296_0, hx296_1⟩ := at_T103 HR0.out x7_1 p296 q296
         obtain rfl : ad293 = ad296 := (by injection e296)
         replace p296 := eq_true p296
         replace q296 := eq_true q296
         have p297 : 0 ≤ ((ji3) : Int) := of_decide_eq_true (by first | (with_reducible assumption) | assumption)
         have q297 : (ji3) < (l0.length : Int) := of_decide_eq_true (by first | (with_reducible assumption) | assumption)
         obtain ⟨ad297, e297, hx297_0, hx297_1⟩ := at_T103 HR0.out (ji3) p297 q297
         obtain rfl : ad293 = ad297 := (by injection e297)
         replace p297 := eq_true p297
         replace q297 := eq_true q297
         go_wp2
         repeat (go_quiet (fail); try go_wp2)
         go_ret3
         exact ⟨by first | rfl | (simp; done) | (simp only [← hji3] <;> (first | rfl | simp)) | (simp [*]; done), by repeat (first | exact Drawn0.refl _ | apply Drawn0.step)⟩
       ·rw [if_neg c12] at H
        exact absurd H (by simp)
      ·rw [if_neg c11] at H
       exact absurd H (by simp)
    ·rw [if_neg c5] at H
     exact absurd H (by simp)
   ·rw [if_neg c4] at H
    exact absurd H (by simp)

/-! ### impl_twelfths: function 177 -/
def impl_twelfths.f  : Option (List Int) := some (([1, 2, 3, 3, 2, 1] : List Int))
set_option maxHeartbeats 8000000 in
set_option maxRecDepth 100000 in
theorem impl_twelfths.calls  (r : List Int) (w : World) (h : impl_twelfths.f  = some r) :
  Calls Try.prog 177 #[] w fun e w' => ∃ v0_ : Value, e = .returned (v0_) ∧ Kd.R (Kd.int .i64) 2 w' w.heap.size (fun _ => True) v0_ r ∧ Below w.heap.size w w' := by
 have HB := am (Below.refl w.heap.size w)
 have H : (some (([1, 2, 3, 3, 2, 1] : List Int))) = some r := h
 clear h
 obtain ⟨y298, hy298⟩ : ∃ y_ : List Int, y_ = (([1, 2, 3, 3, 2, 1] : List Int)) := ⟨_, rfl⟩
 replace H : (some y298) = some r := by first | (rw [hy298]; with_reducible exact H) | (have H2_ := (Option.bind_some _ _).symm.trans H; rw [hy298]; with_reducible exact H2_) | (have H2_ := (Option.bind_some _ _).symm.trans H; with_reducible exact H2_) | with_reducible exact H | (rw [hy298]; exact H) | exact H
 have Ny298 := am hy298
 clear hy298
 obtain rfl := Option.some.inj H
 go_enter Try.func177, Try.ntmps177
 go_wp2_with (first | ((with_reducible refine gate_dst (N := 1) rfl ?_); refine Kd.R_lit (Kd.int .i64) _ 2 ?hg (N := 1) ?hd (xs := ([1, 2, 3, 3, 2, 1] : List Int)) (inner := [.int .i64 1, .int .i64 2, .int .i64 3, .int .i64 3, .int .i64 2, .int .i64 1]) (ok := fun _ => True) (okp := fun _ => True) ?hr ?hp (fun _ hk => hk) trivial (Below.refl _ _) (Nat.le_refl _) (by simp) ?_; (case hd => rfl); (case hg => rfl); (case hr => first | (go_simp; done) | (go_simp; rfl)); (case hp => exact (Reps.one (show Kd.M (Kd.int .i64) _ _ _ 1 [.int .i64 1] from rfl) (Reps.one (show Kd.M (Kd.int .i64) _ _ _ 2 [.int .i64 2] from rfl) (Reps.one (show Kd.M (Kd.int .i64) _ _ _ 3 [.int .i64 3] from rfl) (Reps.one (show Kd.M (Kd.int .i64) _ _ _ 3 [.int .i64 3] from rfl) (Reps.one (show Kd.M (Kd.int .i64) _ _ _ 2 [.int .i64 2] from rfl) (Reps.one (show Kd.M (Kd.int .i64) _ _ _ 1 [.int .i64 1] from rfl) (Reps.none _ _)))))))); intro v299 w1 ho2 hb hg_ hnew_; clear hg_ hnew_; (first | rw [← Ny298.out] at ho2 | (simp only [Int.reduceToNat] at ho2; rw [← Ny298.out] at ho2)); have HO300 := am (Kd.R_lower ho2 (below_size (be HB))); replace HB := am (below_step (be HB) hb); clear hb ho2))
 go_ret
 exact ⟨_, by first | rfl | (simp [errW_none, errW_some] <;> rfl) | (simp [*, errW_none, errW_some] <;> rfl), by (with_reducible repeat (first | apply Kd.R_alloc | apply Kd.R_drewN | apply Kd.R_drew)); exact HO300.out, be HB⟩

end Go.Proofs.Ytcollbifdfhfoaa.PFnExactAllAfloat
