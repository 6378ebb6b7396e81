-- Written by a program out of this seat's translation (functions, and that the code comes to them).
import Derived.Test.YtcollbifdfhfoaaPFnExactAllAfloatx0
import Derived.Test.YtcollbifdfhfoaaPFnExactAllAfloatx9
import Derived.Test.YtcollbifdfhfoaaPFnExactAllAfloatx10
namespace Go.Proofs.Ytcollbifdfhfoaa.PFnExactAllAfloat
open Go.RowKit Go.Proofs.YtcollbifdfhfoaaW.PrintWords Go.Proofs.YtcollbifdfhfoaaW.PrintLast Go.Proofs.YtcollbifdfhfoaaW.PrintMore
attribute [local go_sem] max2_int min2_int max_two min_two max_three min_three max_four min_four   -- for this text's walks alone
open Go.Proofs.Ytcollbifdfhfoaa.Bay Go.Proofs.Ytcollbifdfhfoaa.Short
attribute [local go_sem ↓] lv26_eq lv28_eq
attribute [local go_sem] lvv_set lvv_drewN lvv_drew lv26_run BayAt26_set BayAt26_drewN BayAt26_drew lv28_run BayAt28_set BayAt28_drewN BayAt28_drew
set_option linter.unusedVariables false
set_option linter.unusedSimpArgs false

/-! ### impl_height: function 151 -/
def impl_height.l0 : Nat → List (S103) → Int → Int → Int → Int → List Int → Int → Int → Option (Int)
 | 0, _, _, _, _, _, _, _, _ => none
 | k + 1, x0, x7, x8, x9, x10, x44, x45, x46 => if x46 < x45 then (if 0 ≤ x46 then (if x46 < (x44.length : Int) then (impl_height.l0 k x0 x7 x8 x9 (wrap64 (x10 + (rd x44 x46))) x44 x45 (wrap64 (x46 + 1))) else (none)) else (none)) else (if 0 ≤ x7 then (if x7 < (x0.length : Int) then (if 0 ≤ (wrap64 (x7 + 1)) then (if (wrap64 (x7 + 1)) < (x0.length : Int) then ((impl_twelfths.f).bind fun t319 => (if 0 ≤ x8 then (if x8 < (t319.length : Int) then (if (wrap64 (12 * (wrap64 ((wrap64 ((rd_T103 x0 (wrap64 (x7 + 1))).f0)) - (wrap64 ((rd_T103 x0 x7).f0)))))) = 0 then (none) else (if (Int.tmod (wrap64 ((wrap64 ((wrap64 ((rd_T103 x0 (wrap64 (x7 + 1))).f1)) - (wrap64 ((rd_T103 x0 x7).f1)))) * (wrap64 ((wrap64 (x10 * (wrap64 ((wrap64 ((rd_T103 x0 (wrap64 (x7 + 1))).f0)) - (wrap64 ((rd_T103 x0 x7).f0)))))) + (wrap64 ((rd t319 x8) * x9)))))) (wrap64 (12 * (wrap64 ((wrap64 ((rd_T103 x0 (wrap64 (x7 + 1))).f0)) - (wrap64 ((rd_T103 x0 x7).f0))))))) < 0 then (some (wrap64 ((wrap64 ((rd_T103 x0 x7).f1)) + (wrap64 ((wrap64 (Int.tdiv (wrap64 ((wrap64 ((wrap64 ((rd_T103 x0 (wrap64 (x7 + 1))).f1)) - (wrap64 ((rd_T103 x0 x7).f1)))) * (wrap64 ((wrap64 (x10 * (wrap64 ((wrap64 ((rd_T103 x0 (wrap64 (x7 + 1))).f0)) - (wrap64 ((rd_T103 x0 x7).f0)))))) + (wrap64 ((rd t319 x8) * x9)))))) (wrap64 (12 * (wrap64 ((wrap64 ((rd_T103 x0 (wrap64 (x7 + 1))).f0)) - (wrap64 ((rd_T103 x0 x7).f0)))))))) - 1))))) else (some (wrap64 ((wrap64 ((rd_T103 x0 x7).f1)) + (wrap64 (Int.tdiv (wrap64 ((wrap64 ((wrap64 ((rd_T103 x0 (wrap64 (x7 + 1))).f1)) - (wrap64 ((rd_T103 x0 x7).f1)))) * (wrap64 ((wrap64 (x10 * (wrap64 ((wrap64 ((rd_T103 x0 (wrap64 (x7 + 1))).f0)) - (wrap64 ((rd_T103 x0 x7).f0)))))) + (wrap64 ((rd t319 x8) * x9)))))) (wrap64 (12 * (wrap64 ((wrap64 ((rd_T103 x0 (wrap64 (x7 + 1))).f0)) - (wrap64 ((rd_T103 x0 x7).f0))))))))))))) else (none)) else (none))) else (none)) else (none)) else (none)) else (none))
def impl_height.f (k : Nat) (l0 : List (S103)) (a1 : Int) : Option (Int) := (impl_span.f l0).bind fun bt301 => (if a1 = bt301.2 then (if 0 ≤ (wrap64 ((l0.length : Int) - 1)) then (if (wrap64 ((l0.length : Int) - 1)) < (l0.length : Int) then (some (wrap64 ((rd_T103 l0 (wrap64 ((l0.length : Int) - 1))).f1))) else (none)) else (none)) else ((impl_part.f k l0 a1).bind fun bt304 => ((impl_twelfths.f).bind fun t307 => (if 0 ≤ bt304.2.1 then (if bt304.2.1 ≤ (t307.length : Int) then ((some (t307.take (bt304.2.1 : Int).toNat : List Int)).bind fun y310 => (impl_height.l0 k l0 bt304.1 bt304.2.1 bt304.2.2 0 y310 (y310.length : Int) 0)) else (none)) else (none)))))
def impl_height.T11 : Bool × List (List Nat × List Nat) := (true, [([], []), ([], []), ([0, 1], [0, 1]), ([2], [2]), ([], []), ([], []), ([5], [5]), ([4, 6], [4, 6]), ([7], [7]), ([], []), ([], []), ([9, 3, 0, 1, 2, 3, 9, 10], [3, 9]), ([10, 8, 11, 0, 1, 2, 3, 4, 5, 6, 7, 8, 9, 10, 11], [8, 10])])
def impl_height.B11 : List Nat := [0, 0, 3, 7, 0, 0, 32, 112, 240, 0, 0, 1551, 4095]
theorem impl_height.tab11 : rtab .any (opsOf Try.f151 11) = impl_height.T11 := by kernel_rfl
theorem impl_height.bits11 : waitsOk impl_height.T11.2 impl_height.B11 = true := by kernel_rfl
def impl_height.T13 : Bool × List (List Nat × List Nat) := (true, [([], []), ([0], [0]), ([1], [1]), ([], []), ([3], [3]), ([4], [4]), ([2, 5], [2, 5]), ([], []), ([], []), ([7, 8], [7, 8]), ([], []), ([], []), ([10, 11], [10, 11]), ([12], [12]), ([], []), ([13, 14], [13, 14]), ([9, 15], [9, 15]), ([6, 16], [6, 16]), ([17, 10, 0, 1, 2, 3, 4, 5, 6, 7, 8, 9, 10, 11, 12, 13, 14, 15, 16, 17], [17])])
def impl_height.B13 : List Nat := [0, 1, 3, 0, 8, 24, 63, 0, 0, 384, 0, 0, 3072, 7168, 0, 31744, 65408, 131071, 262143]
theorem impl_height.tab13 : rtab .any (opsOf Try.f151 13) = impl_height.T13 := by kernel_rfl
theorem impl_height.bits13 : waitsOk impl_height.T13.2 impl_height.B13 = true := by kernel_rfl
set_option maxHeartbeats 8000000 in
set_option maxRecDepth 100000 in
theorem impl_height.calls (k : Nat) (A0 : Option Addr) (c0 : Nat) (l0 : List (S103)) (a1 : Int) (r : Int) (w : World) (hr0 : Kd.C k103 w A0 l0.length l0) (hc0 : l0.length ≤ c0) (h : impl_height.f k l0 a1 = some r) :
  Calls Try.prog 151 #[.slice A0 l0.length c0, .int .i64 a1] w fun e w' => e = .returned (.int .i64 r) ∧ Below w.heap.size w w' := by
 have hu103 := Try.underlying103
 have HR0 := am hr0
 have HC0 := am hc0
 clear hr0 hc0
 have HB := am (Below.refl w.heap.size w)
 have H : ((impl_span.f l0).bind fun bt301 => (if a1 = bt301.2 then (if 0 ≤ (wrap64 ((l0.length : Int) - 1)) then (if (wrap64 ((l0.length : Int) - 1)) < (l0.length : Int) then (some (wrap64 ((rd_T103 l0 (wrap64 ((l0.length : Int) - 1))).f1))) else (none)) else (none)) else ((impl_part.f k l0 a1).bind fun bt304 => ((impl_twelfths.f).bind fun t307 => (if 0 ≤ bt304.2.1 then (if bt304.2.1 ≤ (t307.length : Int) then ((some (t307.take (bt304.2.1 : Int).toNat : List Int)).bind fun y310 => (impl_height.l0 k l0 bt304.1 bt304.2.1 bt304.2.2 0 y310 (y310.length : Int) 0)) else (none)) else (none)))))) = some r := h
 clear h
 replace H := Option.bind_eq_some_iff.mp H
 obtain ⟨⟨t301, t302⟩, A30, H⟩ := H
 try dsimp only at H
 have A3 := am A30
 clear A30
 by_cases c4 : a1 = t302
 ·rw [if_pos c4] at H
  have c4b0 : (a1 == t302) = true := beq_iff_eq.mpr c4
  have c4b1 : (a1 != t302) = false := bne_eq_false_iff_eq.mpr c4
  clear c4
  obtain ⟨ji5, hji5⟩ : ∃ j_ : Int, (wrap64 ((l0.length : Int) - 1)) = j_ := ⟨_, rfl⟩
  replace H : (if 0 ≤ (ji5) then (if (ji5) < (l0.length : Int) then (some (wrap64 ((rd_T103 l0 (ji5)).f1))) else (none)) else (none)) = some r := by first | (rw [hji5] at H; exact H) | (simp only [hji5] at H ⊢; exact H)
  (try rw [hji5] at A3)
  have hji5w : (IntKind.i64.wrap ((l0.length : Int) - 1)) = ji5 := (i64_w _).trans hji5
  by_cases c6 : 0 ≤ (ji5)
  ·rw [if_pos c6] at H
   have c6b0 : decide (0 ≤ (ji5)) = true := decide_eq_true c6
   have c6b1 : 0 ≤ (ji5) := c6
   clear c6
   by_cases c7 : (ji5) < (l0.length : Int)
   ·rw [if_pos c7] at H
    have c7b0 : decide ((ji5) < (l0.length : Int)) = true := decide_eq_true c7
    clear c7
    obtain rfl := Option.some.inj H
    go_enter Try.func151, Try.ntmps151
    go_wp2_with (first | ((with_reducible refine gate_callee (f := 149) rfl ?_); refine gL (some 21) Try.func149 #[.slice A0 l0.length c0] ?_; (with_reducible refine (impl_span.calls _ _ l0 t301 t302 _ ?side1 ?side2 A3.out).mono ?_); (case side1 => repeat (first | exact HR0.out | (with_reducible refine Kd.C_alloc ?_ _) | (with_reducible refine Kd.C_drewN ?_ _) | (with_reducible refine Kd.C_drew ?_))); (case side2 => exact HC0.out); rintro e w' ⟨rfl, ⟨nd, rfl⟩⟩; refine ⟨_, rfl, ?_⟩; have p303 : 0 ≤ ((ji5) : Int) := of_decide_eq_true (by first | (with_reducible assumption) | assumption); have q303 : (ji5) < (l0.length : Int) := of_decide_eq_true (by first | (with_reducible assumption) | assumption); obtain ⟨ad303, e303, hx303_0, hx303_1⟩ := at_T103 HR0.out (ji5) p303 q303; cases e303; replace p303 := eq_true p303; replace q303 := eq_true q303))
    go_ret
    exact ⟨by first | rfl | (simp [errW_none, errW_some] <;> rfl) | (simp only [← hji5]; first | rfl | (simp [errW_none, errW_some] <;> rfl)) | (simp [*, errW_none, errW_some] <;> rfl), be HB⟩
   ·rw [if_neg c7] at H
    exact absurd H (by simp)
  ·rw [if_neg c6] at H
   exact absurd H (by simp)
 ·rw [if_neg c4] at H
  have c4b0 : (a1 == t302) = false := beq_eq_false_iff_ne.mpr c4
  have c4b1 : (a1 != t302) = true := bne_iff_ne.mpr c4
  replace H := Option.bind_eq_some_iff.mp H
  obtain ⟨⟨t304, t305, t306⟩, A80, H⟩ := H
  try dsimp only at H
  have A8 := am A80
  clear A80
  replace H := Option.bind_eq_some_iff.mp H
  obtain ⟨t307, A90, H⟩ := H
  try dsimp only at H
  have A9 := am A90
  clear A90
  by_cases c10 : 0 ≤ t305
  ·rw [if_pos c10] at H
   have c10b0 := eq_true c10
   have c10b1 : decide (0 ≤ t305) = true := decide_eq_true c10
   clear c10
   by_cases c11 : t305 ≤ (t307.length : Int)
   ·rw [if_pos c11] at H
    have c11b0 := eq_true c11
    have c11b1 : decide (t305 ≤ (t307.length : Int)) = true := decide_eq_true c11
    clear c11
    obtain ⟨y310, hy310⟩ : ∃ y_ : List Int, y_ = (t307.take (t305 : Int).toNat) := ⟨_, rfl⟩
    replace H : (impl_height.l0 k l0 t304 t305 t306 0 y310 (y310.length : Int) 0) = some r := by first | (rw [hy310]; with_reducible exact H) | (have H2_ := (Option.bind_some _ _).symm.trans H; rw [hy310]; with_reducible exact H2_) | (have H2_ := (Option.bind_some _ _).symm.trans H; with_reducible exact H2_) | with_reducible exact H | (rw [hy310]; exact H) | exact H
    have Ny310 := am hy310
    clear hy310
    have H' := am H
    clear H
    go_enter Try.func151, Try.ntmps151
    go_wp2_with (first | ((with_reducible refine gate_callee (f := 149) rfl ?_); refine gL (some 21) Try.func149 #[.slice A0 l0.length c0] ?_; (with_reducible refine (impl_span.calls _ _ l0 t301 t302 _ ?side1 ?side2 A3.out).mono ?_); (case side1 => repeat (first | exact HR0.out | (with_reducible refine Kd.C_alloc ?_ _) | (with_reducible refine Kd.C_drewN ?_ _) | (with_reducible refine Kd.C_drew ?_))); (case side2 => exact HC0.out); rintro e w' ⟨rfl, ⟨nd, rfl⟩⟩; refine ⟨_, rfl, ?_⟩) | ((with_reducible refine gate_callee (f := 176) rfl ?_); refine gL (some 38) Try.func176 #[.slice A0 l0.length c0, .int .i64 a1] ?_; (with_reducible refine (impl_part.calls k _ _ l0 a1 t304 t305 t306 _ ?side1 ?side2 A8.out).mono ?_); (case side1 => repeat (first | exact HR0.out | (with_reducible refine Kd.C_alloc ?_ _) | (with_reducible refine Kd.C_drewN ?_ _) | (with_reducible refine Kd.C_drew ?_))); (case side2 => exact HC0.out); rintro e w' ⟨rfl, ⟨nd, rfl⟩⟩; refine ⟨_, rfl, ?_⟩) | ((with_reducible refine gate_callee (f := 177) rfl ?_); refine gL (some 42) Try.func177 #[] ?_; (with_reducible refine (impl_twelfths.calls  t307 _ A9.out).mono ?_); rintro e w12 ⟨v308, rfl, ho0, hb⟩; refine ⟨_, rfl, ?_⟩; have HO309 := am (Kd.R_lower ho0 (below_size (be HB))); replace HB := am (below_step (be HB) hb); (try clear hb); (try clear hb2); (try clear hk); (try clear hi); (try clear ho0); obtain ⟨Ao14, co14, eo14⟩ := Kd.R_slice HO309.out; subst eo14; have q13 : (t305 : Int) ≤ ((t307.length : Int) : Int) := of_decide_eq_true (by first | (with_reducible assumption) | assumption); obtain ⟨i013, hi013, _, hsz13, _⟩ := info_parts info2; have hroom13 : t307.length ≤ co14 := (Kd.R_reads' HO309.out).2.1; have hC13 : Kd.C (Kd.int .i64) _ Ao14 t307.length t307 := (Kd.R_reads' HO309.out).2.2; have hcut13 := cut_to (P := Try.prog) 71 2 .i64 Try.underlying71 hi013 Ao14 t307.length co14 t305 (of_decide_eq_true (by first | (with_reducible assumption) | assumption)) q13 hroom13; have hr13 := Kd.C_take (m := (t305 : Int).toNat) hC13 (by omega); have hy13 : y310.length = (t305 : Int).toNat := (by rw [Ny310.out, List.length_take]; omega); rw [← Ny310.out] at hr13; rw [← hy13] at hcut13; have HR313 := am hr13; have HC313 := am (show y310.length ≤ co14 from by omega); clear hr13 hC13 hroom13 hi013 hsz13; have KY13 := am hy13; clear hy13; have KL13 := am (show (t305 : Int).toNat ≤ t307.length from by omega); replace q13 := eq_true q13))
    go_loopg [10, 46] k (fun kq v10 v46 w' => ∃ (x10_1 : Int) (x46_1 : Int), v10 = .int .i64 x10_1 ∧ v46 = .int .i64 x46_1 ∧ Aside0 (impl_height.l0 kq l0 t304 t305 t306 x10_1 y310 (y310.length : Int) x46_1 = some r) ∧ Aside0 (kq ≤ k) ∧ Aside0 (Kd.C (Kd.int .i64) w' Ao14 y310.length y310) ∧ Aside0 (Below w.heap.size w w'))
    case atStart => exact ⟨(0), (0), vx, vx, H', ⟨Nat.le_refl _⟩, ⟨kc HR313⟩, ⟨be HB⟩⟩
    case round =>
     clear H'
     try clear c1
     try clear q1
     try clear p2
     try clear p3
     try clear q3
     try clear hx3
     try clear c4
     try clear c4b0
     try clear c4b1
     try clear c6
     try clear c6b0
     try clear c6b1
     try clear p6
     try clear c7
     try clear c7b0
     try clear c10
     try clear c10b0
     try clear c10b1
     try clear c11
     try clear c11b0
     try clear c11b1
     try clear q13
     try clear c14
     try clear hx303_0
     try clear hx303_1
     try clear p303
     try clear q13
     try clear q303
     obtain ⟨x10_1, x46_1, rfl, rfl, HA, HK1, HR313, HB⟩ := hrel
     cases gk with
     | zero => exact absurd HA.out (by simp [impl_height.l0])
     | succ k1 =>
      have H := HA.out
      clear HA
      simp only [impl_height.l0] at H
      by_cases c15 : x46_1 < (y310.length : Int)
      ·rw [if_pos c15] at H
       have c15b0 : decide (x46_1 < (y310.length : Int)) = true := decide_eq_true c15
       clear c15
       by_cases c16 : 0 ≤ x46_1
       ·rw [if_pos c16] at H
        have c16b0 : decide (0 ≤ x46_1) = true := decide_eq_true c16
        have c16b1 : 0 ≤ x46_1 := c16
        clear c16
        by_cases c17 : x46_1 < (y310.length : Int)
        ·rw [if_pos c17] at H
         have c17b0 : decide (x46_1 < (y310.length : Int)) = true := decide_eq_true c17
         clear c17
         have H' := am H
         clear H
         have p314 : 0 ≤ (x46_1 : Int) := of_decide_eq_true (by first | (with_reducible assumption) | assumption)
         have q314 : x46_1 < (y310.length : Int) := of_decide_eq_true (by first | (with_reducible assumption) | assumption)
         obtain ⟨ad314, e314, hx314_0⟩ := Kd.at_int (kc HR313) x46_1 p314 q314
         cases e314
         replace p314 := eq_true p314
         replace q314 := eq_true q314
         go_wp2
         go_roundg k1
         case measure => have := HK1.out; omega
         case rel => exact ⟨(wrap64 (x10_1 + (rd y310 x46_1))), (wrap64 (x46_1 + 1)), vx, vx, H', ⟨by have := HK1.out; omega⟩, ⟨kc HR313⟩, ⟨be HB⟩⟩
        ·rw [if_neg c17] at H
         exact absurd H (by simp)
       ·rw [if_neg c16] at H
        exact absurd H (by simp)
      ·rw [if_neg c15] at H
       have c15b0 : decide (x46_1 < (y310.length : Int)) = false := decide_eq_false c15
       clear c15
       by_cases c18 : 0 ≤ t304
       ·rw [if_pos c18] at H
        have c18b0 : decide (0 ≤ t304) = true := decide_eq_true c18
        have c18b1 : 0 ≤ t304 := c18
        clear c18
        by_cases c19 : t304 < (l0.length : Int)
        ·rw [if_pos c19] at H
         have c19b0 : decide (t304 < (l0.length : Int)) = true := decide_eq_true c19
         clear c19
         obtain ⟨ji20, hji20⟩ : ∃ j_ : Int, (wrap64 (t304 + 1)) = j_ := ⟨_, rfl⟩
         replace H : (if 0 ≤ (ji20) then (if (ji20) < (l0.length : Int) then ((impl_twelfths.f).bind fun t319 => (if 0 ≤ t305 then (if t305 < (t319.length : Int) then (if (wrap64 (12 * (wrap64 ((wrap64 ((rd_T103 l0 (ji20)).f0)) - (wrap64 ((rd_T103 l0 t304).f0)))))) = 0 then (none) else (if (Int.tmod (wrap64 ((wrap64 ((wrap64 ((rd_T103 l0 (ji20)).f1)) - (wrap64 ((rd_T103 l0 t304).f1)))) * (wrap64 ((wrap64 (x10_1 * (wrap64 ((wrap64 ((rd_T103 l0 (ji20)).f0)) - (wrap64 ((rd_T103 l0 t304).f0)))))) + (wrap64 ((rd t319 t305) * t306)))))) (wrap64 (12 * (wrap64 ((wrap64 ((rd_T103 l0 (ji20)).f0)) - (wrap64 ((rd_T103 l0 t304).f0))))))) < 0 then (some (wrap64 ((wrap64 ((rd_T103 l0 t304).f1)) + (wrap64 ((wrap64 (Int.tdiv (wrap64 ((wrap64 ((wrap64 ((rd_T103 l0 (ji20)).f1)) - (wrap64 ((rd_T103 l0 t304).f1)))) * (wrap64 ((wrap64 (x10_1 * (wrap64 ((wrap64 ((rd_T103 l0 (ji20)).f0)) - (wrap64 ((rd_T103 l0 t304).f0)))))) + (wrap64 ((rd t319 t305) * t306)))))) (wrap64 (12 * (wrap64 ((wrap64 ((rd_T103 l0 (ji20)).f0)) - (wrap64 ((rd_T103 l0 t304).f0)))))))) - 1))))) else (some (wrap64 ((wrap64 ((rd_T103 l0 t304).f1)) + (wrap64 (Int.tdiv (wrap64 ((wrap64 ((wrap64 ((rd_T103 l0 (ji20)).f1)) - (wrap64 ((rd_T103 l0 t304).f1)))) * (wrap64 ((wrap64 (x10_1 * (wrap64 ((wrap64 ((rd_T103 l0 (ji20)).f0)) - (wrap64 ((rd_T103 l0 t304).f0)))))) + (wrap64 ((rd t319 t305) * t306)))))) (wrap64 (12 * (wrap64 ((wrap64 ((rd_T103 l0 (ji20)).f0)) - (wrap64 ((rd_T103 l0 t304).f0))))))))))))) else (none)) else (none))) else (none)) else (none)) = some r := by first | (rw [hji20] at H; exact H) | (simp only [hji20] at H ⊢; exact H)
         have hji20w : (IntKind.i64.wrap (t304 + 1)) = ji20 := (i64_w _).trans hji20
         by_cases c21 : 0 ≤ (ji20)
         ·rw [if_pos c21] at H
          have c21b0 : decide (0 ≤ (ji20)) = true := decide_eq_true c21
          have c21b1 : 0 ≤ (ji20) := c21
          clear c21
          by_cases c22 : (ji20) < (l0.length : Int)
          ·rw [if_pos c22] at H
           have c22b0 : decide ((ji20) < (l0.length : Int)) = true := decide_eq_true c22
           clear c22
           replace H := Option.bind_eq_some_iff.mp H
           obtain ⟨t319, A230, H⟩ := H
           try dsimp only at H
           have A23 := am A230
           clear A230
           by_cases c24 : 0 ≤ t305
           ·rw [if_pos c24] at H
            have c24b0 : decide (0 ≤ t305) = true := decide_eq_true c24
            have c24b1 : 0 ≤ t305 := c24
            clear c24
            by_cases c25 : t305 < (t319.length : Int)
            ·rw [if_pos c25] at H
             have c25b0 : decide (t305 < (t319.length : Int)) = true := decide_eq_true c25
             clear c25
             by_cases c26 : (wrap64 (12 * (wrap64 ((wrap64 ((rd_T103 l0 (ji20)).f0)) - (wrap64 ((rd_T103 l0 t304).f0)))))) = 0
             ·rw [if_pos c26] at H
              exact absurd H (by simp)
             ·rw [if_neg c26] at H
              have c26b0 : ((wrap64 (12 * (wrap64 ((wrap64 ((rd_T103 l0 (ji20)).f0)) - (wrap64 ((rd_T103 l0 t304).f0)))))) == 0) = false := beq_eq_false_iff_ne.mpr c26
              have c26b1 : ((wrap64 (12 * (wrap64 ((wrap64 ((rd_T103 l0 (ji20)).f0)) - (wrap64 ((rd_T103 l0 t304).f0)))))) != 0) = true := bne_iff_ne.mpr c26
              by_cases c27 : (Int.tmod (wrap64 ((wrap64 ((wrap64 ((rd_T103 l0 (ji20)).f1)) - (wrap64 ((rd_T103 l0 t304).f1)))) * (wrap64 ((wrap64 (x10_1 * (wrap64 ((wrap64 ((rd_T103 l0 (ji20)).f0)) - (wrap64 ((rd_T103 l0 t304).f0)))))) + (wrap64 ((rd t319 t305) * t306)))))) (wrap64 (12 * (wrap64 ((wrap64 ((rd_T103 l0 (ji20)).f0)) - (wrap64 ((rd_T103 l0 t304).f0))))))) < 0
              ·rw [if_pos c27] at H
               have c27b0 : decide ((Int.tmod (wrap64 ((wrap64 ((wrap64 ((rd_T103 l0 (ji20)).f1)) - (wrap64 ((rd_T103 l0 t304).f1)))) * (wrap64 ((wrap64 (x10_1 * (wrap64 ((wrap64 ((rd_T103 l0 (ji20)).f0)) - (wrap64 ((rd_T103 l0 t304).f0)))))) + (wrap64 ((rd t319 t305) * t306)))))) (wrap64 (12 * (wrap64 ((wrap64 ((rd_T103 l0 (ji20)).f0)) - (wrap64 ((rd_T103 l0 t304).f0))))))) < 0) = true := decide_eq_true c27
               clear c27
               obtain rfl := Option.some.inj H
               try go_wp2
               have n0_ := am (Kd.C_drew HR313.out)
               have n1_ := am (below_drew1 HB.out)
               clear HR313
               clear HB
               have HR313 := n0_
               have HB := n1_
               clear n0_ n1_
               have p315 : 0 ≤ (t304 : Int) := of_decide_eq_true (by first | (with_reducible assumption) | assumption)
               have q315 : t304 < (l0.length : Int) := of_decide_eq_true (by first | (with_reducible assumption) | assumption)
               obtain ⟨ad315, e315, hx315_0, hx315_1⟩ := at_T103 HR0.out t304 p315 q315
               have hw315_1 := hx315_1
               have hw315_0 := hx315_0
               cases e315
               replace hx315_0 := (HB.out.cell (World.block_lt_of_cell? w _ hx315_0)).trans hx315_0
               replace hx315_1 := (HB.out.cell (World.block_lt_of_cell? w _ hx315_1)).trans hx315_1
               replace p315 := eq_true p315
               replace q315 := eq_true q315
               have p316 : 0 ≤ ((ji20) : Int) := of_decide_eq_true (by first | (with_reducible assumption) | assumption)
               have q316 : (ji20) < (l0.length : Int) := of_decide_eq_true (by first | (with_reducible assumption) | assumption)
               obtain ⟨ad316, e316, hx316_0, hx316_1⟩ := at_T103 HR0.out (ji20) p316 q316
               have hw316_1 := hx316_1
               have hw316_0 := hx316_0
               obtain rfl : ad315 = ad316 := (by injection e316)
               replace hx316_0 := (HB.out.cell (World.block_lt_of_cell? w _ hx316_0)).trans hx316_0
               replace hx316_1 := (HB.out.cell (World.block_lt_of_cell? w _ hx316_1)).trans hx316_1
               replace p316 := eq_true p316
               replace q316 := eq_true q316
               refine start_ (n := 13) (S := fun w' => w'.cell? (ad315.add ((t304).toNat * 2)) = some (.int .i16 ((rd_T103 l0 t304).f0)) ∧ w'.cell? ⟨(ad315.add ((t304).toNat * 2)).block, (ad315.add ((t304).toNat * 2)).off + 1, none⟩ = some (.int .i8 ((rd_T103 l0 t304).f1)) ∧ w'.cell? (ad315.add (((ji20)).toNat * 2)) = some (.int .i16 ((rd_T103 l0 (ji20)).f0)) ∧ w'.cell? ⟨(ad315.add (((ji20)).toNat * 2)).block, (ad315.add (((ji20)).toNat * 2)).off + 1, none⟩ = some (.int .i8 ((rd_T103 l0 (ji20)).f1))) (ds := []) #[false, false, false, false, false, false, false, false, false, false, false, false, false] (by kernel_rfl) rfl rfl ⟨((HB.out.cell (World.block_lt_of_cell? w _ hw315_0)).trans hw315_0), ((HB.out.cell (World.block_lt_of_cell? w _ hw315_1)).trans hw315_1), ((HB.out.cell (World.block_lt_of_cell? w _ hw316_0)).trans hw316_0), ((HB.out.cell (World.block_lt_of_cell? w _ hw316_1)).trans hw316_1)⟩ (fun hHeld => ?_); refine with_tabW impl_height.tab11 impl_height.bits11 (fun HT_ HW_ => ?_)
               generalize wr.drew = w28 at HR313 HB hx315_0 hx315_1 hx316_0 hx316_1 hHeld ⊢
               refine pS (i := 0) (some 54) #[true, false, false, false, false, false, false, false, false, false, false, false, false] (any_of HT_.out (by kernel_rfl)) ?_
               refine pS (i := 1) (some 55) #[true, true, false, false, false, false, false, false, false, false, false, false, false] (any_of HT_.out (by kernel_rfl)) ?_
               refine pS (i := 2) (some 56) #[true, true, true, false, false, false, false, false, false, false, false, false, false] (any_of HT_.out (by kernel_rfl)) ?_
               refine pS (i := 4) (some 58) #[true, true, true, false, true, false, false, false, false, false, false, false, false] (any_of HT_.out (by kernel_rfl)) ?_
               refine pS (i := 5) (some 59) #[true, true, true, false, true, true, false, false, false, false, false, false, false] (any_of HT_.out (by kernel_rfl)) ?_
               refine pS (i := 6) (some 60) #[true, true, true, false, true, true, true, false, false, false, false, false, false] (any_of HT_.out (by kernel_rfl)) ?_
               refine pS (i := 7) (some 61) #[true, true, true, false, true, true, true, true, false, false, false, false, false] (any_of HT_.out (by kernel_rfl)) ?_
               refine tS (i := 3) (some 57) #[true, true, true, true, true, true, true, true, false, false, false, false, false] (take_ofW HT_.out HW_.out (by kernel_rfl)) hHeld ?_
               refine tS (i := 8) (some 62) #[true, true, true, true, true, true, true, true, true, false, false, false, false] (take_ofW HT_.out HW_.out (by kernel_rfl)) hHeld ?_
               refine join_ (σ := Nat × Nat) 2 #[true, true, true, true, true, true, true, true, true, true, true, false, false] (fun s_ => [(13, .pointer (some ⟨s_.1, 0, none⟩)), (14, .pointer (some ⟨s_.2, 0, none⟩))]) (fun s_ w' => (w'.cell? (ad315.add ((t304).toNat * 2)) = some (.int .i16 ((rd_T103 l0 t304).f0)) ∧ w'.cell? ⟨(ad315.add ((t304).toNat * 2)).block, (ad315.add ((t304).toNat * 2)).off + 1, none⟩ = some (.int .i8 ((rd_T103 l0 t304).f1)) ∧ w'.cell? (ad315.add (((ji20)).toNat * 2)) = some (.int .i16 ((rd_T103 l0 (ji20)).f0)) ∧ w'.cell? ⟨(ad315.add (((ji20)).toNat * 2)).block, (ad315.add (((ji20)).toNat * 2)).off + 1, none⟩ = some (.int .i8 ((rd_T103 l0 (ji20)).f1))) ∧ (w'.heap[s_.1]? = some (.cells #[.int .i16 0, .int .i8 0] 103 (0, 0))) ∧ (w'.heap[s_.2]? = some (.cells #[.int .i16 0, .int .i8 0] 103 (0, 0))) ∧ (w.heap.size ≤ s_.1) ∧ (w.heap.size ≤ s_.1) ∧ (s_.2 ≠ s_.1) ∧ (s_.1 ≠ s_.2) ∧ (w.heap.size ≤ s_.2) ∧ (w.heap.size ≤ s_.2) ∧ (Below w.heap.size w w')) ?_ ?_
               rotate_left
               ·intro hCont
                refine two_ (i := 9) (j := 10) (Ni := some 13) (Nj := some 14) #[true, true, true, true, true, true, true, true, true, true, false, false, false] #[true, true, true, true, true, true, true, true, true, false, true, false, false] rfl rfl rfl rfl (two_of HT_.out (by kernel_rfl)) (by decide) (by decide) (fun K hK => ?_) (fun K hK => ?_)
                ·skip
                 refine box_step ?hg (N := 13) ?hd (cs := #[.int .i16 0, .int .i8 0]) (t := 103) ?hr ?_; (case hd => rfl); (case hg => rfl); (case hr => first | (go_simp; done) | (go_simp; rfl))
                 intro gb317 hg w29 hbox hb
                 have n0_ := am (Kd.C_below (kc HR313) hb)
                 have n1_ := am (below_step (be HB) hb)
                 have n2_ := am (hbox)
                 have n3_ := am (gN hg (below_size (be HB)))
                 have n4_ := am (gN hg (below_size (be HB)))
                 clear HR313
                 clear HB
                 have HR313 := n0_
                 have HB := n1_
                 have BK317 := n2_
                 have GW317 := n3_
                 have GE317 := n4_
                 clear n0_ n1_ n2_ n3_ n4_
                 clear hb hbox hg
                 refine hK.out _ _ ⟨((HB.out.cell (World.block_lt_of_cell? w _ hw315_0)).trans hw315_0), ((HB.out.cell (World.block_lt_of_cell? w _ hw315_1)).trans hw315_1), ((HB.out.cell (World.block_lt_of_cell? w _ hw316_0)).trans hw316_0), ((HB.out.cell (World.block_lt_of_cell? w _ hw316_1)).trans hw316_1)⟩ (fun hHeld => ?_)
                 clear hK K
                 refine norm_ (a' := ?_) ?_ ?_
                 rotate_left
                 ·show Act.put _ (some 13) _ = _
                  simp only [Act.put, List.setIfInBounds_toArray, List.set_cons_zero, List.set_cons_succ, i64_w, i32_w]
                  rfl
                 refine one_ (i := 10) (N := some 14) #[true, true, true, true, true, true, true, true, true, true, true, false, false] rfl rfl (one_of HT_.out (by kernel_rfl)) (by decide) (fun K hK => ?_)
                 refine box_step ?hg (N := 14) ?hd (cs := #[.int .i16 0, .int .i8 0]) (t := 103) ?hr ?_; (case hd => rfl); (case hg => rfl); (case hr => first | (go_simp; done) | (go_simp; rfl))
                 intro gb318 hg w30 hbox hb
                 have n0_ := am (Kd.C_below (kc HR313) hb)
                 have n1_ := bB BK317 hb
                 have n2_ := am (below_step (be HB) hb)
                 have n3_ := am (hbox)
                 have n4_ := am (gN hg (below_size (be HB)))
                 have n5_ := am (gN hg (below_size (be HB)))
                 have n6_ := nL BK317 hg
                 have n7_ := nR BK317 hg
                 clear HR313
                 clear BK317
                 clear HB
                 have HR313 := n0_
                 have BK317 := n1_
                 have HB := n2_
                 have BK318 := n3_
                 have GW318 := n4_
                 have GE318 := n5_
                 have NB317_318 := n6_
                 have NB318_317 := n7_
                 clear n0_ n1_ n2_ n3_ n4_ n5_ n6_ n7_
                 clear hb hbox hg
                 refine hK.out _ _ ⟨((HB.out.cell (World.block_lt_of_cell? w _ hw315_0)).trans hw315_0), ((HB.out.cell (World.block_lt_of_cell? w _ hw315_1)).trans hw315_1), ((HB.out.cell (World.block_lt_of_cell? w _ hw316_0)).trans hw316_0), ((HB.out.cell (World.block_lt_of_cell? w _ hw316_1)).trans hw316_1)⟩ (fun hHeld => ?_)
                 clear hK K
                 refine norm_ (a' := ?_) ?_ ?_
                 rotate_left
                 ·show Act.put _ (some 14) _ = _
                  simp only [Act.put, List.setIfInBounds_toArray, List.set_cons_zero, List.set_cons_succ, i64_w, i32_w]
                  rfl
                 exact norm_ (by simp only [putAll, Act.put, List.setIfInBounds_toArray, List.set_cons_zero, List.set_cons_succ]) (hCont (gb317, gb318) _ ⟨hHeld, (kb BK317), (kb BK318), GW317.out, GE317.out, NB318_317.out, NB317_318.out, GW318.out, GE318.out, (be HB)⟩)
                ·skip
                 refine box_step ?hg (N := 14) ?hd (cs := #[.int .i16 0, .int .i8 0]) (t := 103) ?hr ?_; (case hd => rfl); (case hg => rfl); (case hr => first | (go_simp; done) | (go_simp; rfl))
                 intro gb318 hg w29 hbox hb
                 have n0_ := am (Kd.C_below (kc HR313) hb)
                 have n1_ := am (below_step (be HB) hb)
                 have n2_ := am (hbox)
                 have n3_ := am (gN hg (below_size (be HB)))
                 have n4_ := am (gN hg (below_size (be HB)))
                 clear HR313
                 clear HB
                 have HR313 := n0_
                 have HB := n1_
                 have BK318 := n2_
                 have GW318 := n3_
                 have GE318 := n4_
                 clear n0_ n1_ n2_ n3_ n4_
                 clear hb hbox hg
                 refine hK.out _ _ ⟨((HB.out.cell (World.block_lt_of_cell? w _ hw315_0)).trans hw315_0), ((HB.out.cell (World.block_lt_of_cell? w _ hw315_1)).trans hw315_1), ((HB.out.cell (World.block_lt_of_cell? w _ hw316_0)).trans hw316_0), ((HB.out.cell (World.block_lt_of_cell? w _ hw316_1)).trans hw316_1)⟩ (fun hHeld => ?_)
                 clear hK K
                 refine norm_ (a' := ?_) ?_ ?_
                 rotate_left
                 ·show Act.put _ (some 14) _ = _
                  simp only [Act.put, List.setIfInBounds_toArray, List.set_cons_zero, List.set_cons_succ, i64_w, i32_w]
                  rfl
                 refine one_ (i := 9) (N := some 13) #[true, true, true, true, true, true, true, true, true, true, true, false, false] rfl rfl (one_of HT_.out (by kernel_rfl)) (by decide) (fun K hK => ?_)
                 refine box_step ?hg (N := 13) ?hd (cs := #[.int .i16 0, .int .i8 0]) (t := 103) ?hr ?_; (case hd => rfl); (case hg => rfl); (case hr => first | (go_simp; done) | (go_simp; rfl))
                 intro gb317 hg w30 hbox hb
                 have n0_ := am (Kd.C_below (kc HR313) hb)
                 have n1_ := bB BK318 hb
                 have n2_ := am (below_step (be HB) hb)
                 have n3_ := am (hbox)
                 have n4_ := am (gN hg (below_size (be HB)))
                 have n5_ := am (gN hg (below_size (be HB)))
                 have n6_ := nL BK318 hg
                 have n7_ := nR BK318 hg
                 clear HR313
                 clear BK318
                 clear HB
                 have HR313 := n0_
                 have BK318 := n1_
                 have HB := n2_
                 have BK317 := n3_
                 have GW317 := n4_
                 have GE317 := n5_
                 have NB318_317 := n6_
                 have NB317_318 := n7_
                 clear n0_ n1_ n2_ n3_ n4_ n5_ n6_ n7_
                 clear hb hbox hg
                 refine hK.out _ _ ⟨((HB.out.cell (World.block_lt_of_cell? w _ hw315_0)).trans hw315_0), ((HB.out.cell (World.block_lt_of_cell? w _ hw315_1)).trans hw315_1), ((HB.out.cell (World.block_lt_of_cell? w _ hw316_0)).trans hw316_0), ((HB.out.cell (World.block_lt_of_cell? w _ hw316_1)).trans hw316_1)⟩ (fun hHeld => ?_)
                 clear hK K
                 refine norm_ (a' := ?_) ?_ ?_
                 rotate_left
                 ·show Act.put _ (some 13) _ = _
                  simp only [Act.put, List.setIfInBounds_toArray, List.set_cons_zero, List.set_cons_succ, i64_w, i32_w]
                  rfl
                 exact norm_ (by simp only [putAll, Act.put, List.setIfInBounds_toArray, List.set_cons_zero, List.set_cons_succ]) (hCont (gb317, gb318) _ ⟨hHeld, (kb BK317), (kb BK318), GW317.out, GE317.out, NB318_317.out, NB317_318.out, GW318.out, GE318.out, (be HB)⟩)
               rintro ⟨gb317, gb318⟩ w31 ⟨hS_, h0_, h1_, h2_, h3_, h4_, h5_, h6_, h7_, h8_⟩
               have n0_ : Aside0 (w31.heap[gb317]? = some (.cells #[.int .i16 0, .int .i8 0] 103 (0, 0))) := ⟨h0_⟩
               have n1_ : Aside0 (w31.heap[gb318]? = some (.cells #[.int .i16 0, .int .i8 0] 103 (0, 0))) := ⟨h1_⟩
               have n2_ : Aside0 (w.heap.size ≤ gb317) := ⟨h2_⟩
               have n3_ : Aside0 (w.heap.size ≤ gb317) := ⟨h3_⟩
               have n4_ : Aside0 (gb318 ≠ gb317) := ⟨h4_⟩
               have n5_ : Aside0 (gb317 ≠ gb318) := ⟨h5_⟩
               have n6_ : Aside0 (w.heap.size ≤ gb318) := ⟨h6_⟩
               have n7_ : Aside0 (w.heap.size ≤ gb318) := ⟨h7_⟩
               have n8_ : Aside0 (Below w.heap.size w w31) := ⟨h8_⟩
               clear HR313
               clear HB
               clear h0_ h1_ h2_ h3_ h4_ h5_ h6_ h7_ h8_
               have BK317 := n0_
               have BK318 := n1_
               have GW317 := n2_
               have GE317 := n3_
               have NB318_317 := n4_
               have NB317_318 := n5_
               have GW318 := n6_
               have GE318 := n7_
               have HB := n8_
               clear n0_ n1_ n2_ n3_ n4_ n5_ n6_ n7_ n8_
               have hHeld : w31.cell? (ad315.add ((t304).toNat * 2)) = some (.int .i16 ((rd_T103 l0 t304).f0)) ∧ w31.cell? ⟨(ad315.add ((t304).toNat * 2)).block, (ad315.add ((t304).toNat * 2)).off + 1, none⟩ = some (.int .i8 ((rd_T103 l0 t304).f1)) ∧ w31.cell? (ad315.add (((ji20)).toNat * 2)) = some (.int .i16 ((rd_T103 l0 (ji20)).f0)) ∧ w31.cell? ⟨(ad315.add (((ji20)).toNat * 2)).block, (ad315.add (((ji20)).toNat * 2)).off + 1, none⟩ = some (.int .i8 ((rd_T103 l0 (ji20)).f1)) := hS_
               refine norm_ (a' := ?_) ?_ ?_
               rotate_left
               ·simp only [putAll, Act.put, List.setIfInBounds_toArray, List.set_cons_zero, List.set_cons_succ]
                rfl
               refine one_ (i := 11) (N := none) #[true, true, true, true, true, true, true, true, true, true, true, true, false] rfl rfl (one_of HT_.out (by kernel_rfl)) (by decide) (fun K hK => ?_)
               have hs32 : w31.cell? ⟨gb317, 0, none⟩ = some (.int .i16 0) := (blk_cell BK317.out 0).trans rfl
               have hfs32 := blk_frozen BK317.out 0
               have hns32_1 := NB318_317.out
               have hms32_1 := NB317_318.out
               have hs33 : w31.cell? ⟨gb317, 1, none⟩ = some (.int .i8 0) := (blk_cell BK317.out 1).trans rfl
               have hfs33 := blk_frozen BK317.out 1
               have hns33_1 := NB318_317.out
               have hms33_1 := NB317_318.out
               refine skip_ (w1 := ?_) (by rfl) rfl ?_ ?_
               rotate_left
               ·go_simp
                rfl
               refine hK.out _ _ ⟨((cell_far (p := ⟨gb317, _, none⟩) (nf hw315_0 GW317) _).trans (((cell_far (p := ⟨gb317, _, none⟩) (nf hw315_0 GW317) _).trans (hHeld.1)))), ((cell_far (p := ⟨gb317, _, none⟩) (nf hw315_1 GW317) _).trans (((cell_far (p := ⟨gb317, _, none⟩) (nf hw315_1 GW317) _).trans (hHeld.2.1)))), ((cell_far (p := ⟨gb317, _, none⟩) (nf hw316_0 GW317) _).trans (((cell_far (p := ⟨gb317, _, none⟩) (nf hw316_0 GW317) _).trans (hHeld.2.2.1)))), ((cell_far (p := ⟨gb317, _, none⟩) (nf hw316_1 GW317) _).trans (((cell_far (p := ⟨gb317, _, none⟩) (nf hw316_1 GW317) _).trans (hHeld.2.2.2))))⟩ (fun hHeld => ?_)
               clear hK K
               refine one_ (i := 12) (N := none) #[true, true, true, true, true, true, true, true, true, true, true, true, true] rfl rfl (one_of HT_.out (by kernel_rfl)) (by decide) (fun K hK => ?_)
               have hs34 : w31.cell? ⟨gb318, 0, none⟩ = some (.int .i16 0) := (blk_cell BK318.out 0).trans rfl
               have hfs34 := blk_frozen BK318.out 0
               have hns34_0 := NB317_318.out
               have hms34_0 := NB318_317.out
               have hs35 : w31.cell? ⟨gb318, 1, none⟩ = some (.int .i8 0) := (blk_cell BK318.out 1).trans rfl
               have hfs35 := blk_frozen BK318.out 1
               have hns35_0 := NB317_318.out
               have hms35_0 := NB318_317.out
               refine skip_ (w1 := ?_) (by rfl) rfl ?_ ?_
               rotate_left
               ·go_simp
                rfl
               refine hK.out _ _ ⟨((cell_far (p := ⟨gb318, _, none⟩) (nf hw315_0 GW318) _).trans (((cell_far (p := ⟨gb318, _, none⟩) (nf hw315_0 GW318) _).trans (hHeld.1)))), ((cell_far (p := ⟨gb318, _, none⟩) (nf hw315_1 GW318) _).trans (((cell_far (p := ⟨gb318, _, none⟩) (nf hw315_1 GW318) _).trans (hHeld.2.1)))), ((cell_far (p := ⟨gb318, _, none⟩) (nf hw316_0 GW318) _).trans (((cell_far (p := ⟨gb318, _, none⟩) (nf hw316_0 GW318) _).trans (hHeld.2.2.1)))), ((cell_far (p := ⟨gb318, _, none⟩) (nf hw316_1 GW318) _).trans (((cell_far (p := ⟨gb318, _, none⟩) (nf hw316_1 GW318) _).trans (hHeld.2.2.2))))⟩ (fun hHeld => ?_)
               clear hK K
               refine done_ (done_of HT_.out (by kernel_rfl)) ?_
               have hnb36 := NB318_317.out
               have hnc36 := NB317_318.out
               obtain ⟨hcz37_0, hcz37_1, hfz37_0, hfz37_1⟩ := bx2 BK318
               obtain ⟨hcz38_0, hcz38_1, hfz38_0, hfz38_1⟩ := bx2 BK317
               try go_wp2
               have n0_ : Aside0 (((((w31.setCell ⟨gb317, 0, none⟩ (.int .i16 ((rd_T103 l0 t304).f0))).setCell ⟨gb317, 1, none⟩ (.int .i8 ((rd_T103 l0 t304).f1))).setCell ⟨gb318, 0, none⟩ (.int .i16 ((rd_T103 l0 (ji20)).f0))).setCell ⟨gb318, 1, none⟩ (.int .i8 ((rd_T103 l0 (ji20)).f1))).heap[gb317]? = some (.cells #[.int .i16 ((rd_T103 l0 t304).f0), .int .i8 ((rd_T103 l0 t304).f1)] 103 (0, 0))) := ⟨by (with_reducible repeat (first | refine blk_drewN ?_ _ | refine blk_drew ?_ | refine blk_alloc ?_ _)); refine blk_far ?_ NB317_318.out _; (with_reducible repeat (first | refine blk_drewN ?_ _ | refine blk_drew ?_ | refine blk_alloc ?_ _)); refine blk_far ?_ NB317_318.out _; (with_reducible repeat (first | refine blk_drewN ?_ _ | refine blk_drew ?_ | refine blk_alloc ?_ _)); refine blk_put (cs := #[.int .i16 ((rd_T103 l0 t304).f0), .int .i8 0]) ?_ 1 _ rfl; (with_reducible repeat (first | refine blk_drewN ?_ _ | refine blk_drew ?_ | refine blk_alloc ?_ _)); refine blk_put (cs := #[.int .i16 0, .int .i8 0]) ?_ 0 _ rfl; exact kb BK317⟩
               have n1_ : Aside0 (((((w31.setCell ⟨gb317, 0, none⟩ (.int .i16 ((rd_T103 l0 t304).f0))).setCell ⟨gb317, 1, none⟩ (.int .i8 ((rd_T103 l0 t304).f1))).setCell ⟨gb318, 0, none⟩ (.int .i16 ((rd_T103 l0 (ji20)).f0))).setCell ⟨gb318, 1, none⟩ (.int .i8 ((rd_T103 l0 (ji20)).f1))).heap[gb318]? = some (.cells #[.int .i16 ((rd_T103 l0 (ji20)).f0), .int .i8 ((rd_T103 l0 (ji20)).f1)] 103 (0, 0))) := ⟨by (with_reducible repeat (first | refine blk_drewN ?_ _ | refine blk_drew ?_ | refine blk_alloc ?_ _)); refine blk_put (cs := #[.int .i16 ((rd_T103 l0 (ji20)).f0), .int .i8 0]) ?_ 1 _ rfl; (with_reducible repeat (first | refine blk_drewN ?_ _ | refine blk_drew ?_ | refine blk_alloc ?_ _)); refine blk_put (cs := #[.int .i16 0, .int .i8 0]) ?_ 0 _ rfl; (with_reducible repeat (first | refine blk_drewN ?_ _ | refine blk_drew ?_ | refine blk_alloc ?_ _)); refine blk_far ?_ NB318_317.out _; (with_reducible repeat (first | refine blk_drewN ?_ _ | refine blk_drew ?_ | refine blk_alloc ?_ _)); refine blk_far ?_ NB318_317.out _; exact kb BK318⟩
               have n2_ : Aside0 (Below w.heap.size w ((((w31.setCell ⟨gb317, 0, none⟩ (.int .i16 ((rd_T103 l0 t304).f0))).setCell ⟨gb317, 1, none⟩ (.int .i8 ((rd_T103 l0 t304).f1))).setCell ⟨gb318, 0, none⟩ (.int .i16 ((rd_T103 l0 (ji20)).f0))).setCell ⟨gb318, 1, none⟩ (.int .i8 ((rd_T103 l0 (ji20)).f1)))) := ⟨be HB⟩
               (try clear BK317)
               (try clear BK318)
               (try clear HB)
               generalize ((((w31.setCell ⟨gb317, 0, none⟩ (.int .i16 ((rd_T103 l0 t304).f0))).setCell ⟨gb317, 1, none⟩ (.int .i8 ((rd_T103 l0 t304).f1))).setCell ⟨gb318, 0, none⟩ (.int .i16 ((rd_T103 l0 (ji20)).f0))).setCell ⟨gb318, 1, none⟩ (.int .i8 ((rd_T103 l0 (ji20)).f1))) = w39 at n0_ n1_ n2_ ⊢
               have BK317 := n0_
               have BK318 := n1_
               have HB := n2_
               clear n0_ n1_ n2_
               have n0_ := am (blk_drew BK317.out)
               have n1_ := am (blk_drew BK318.out)
               have n2_ := am (below_drew1 HB.out)
               clear BK317
               clear BK318
               clear HB
               have BK317 := n0_
               have BK318 := n1_
               have HB := n2_
               clear n0_ n1_ n2_
               refine start_ (n := 19) (S := fun w' => w'.cell? ⟨gb318, 0, none⟩ = some (.int .i16 ((rd_T103 l0 (ji20)).f0)) ∧ w'.cell? ⟨gb318, 1, none⟩ = some (.int .i8 ((rd_T103 l0 (ji20)).f1)) ∧ w'.cell? ⟨gb317, 0, none⟩ = some (.int .i16 ((rd_T103 l0 t304).f0)) ∧ w'.cell? ⟨gb317, 1, none⟩ = some (.int .i8 ((rd_T103 l0 t304).f1))) (ds := []) #[false, false, false, false, false, false, false, false, false, false, false, false, false, false, false, false, false, false, false] (by kernel_rfl) rfl rfl ⟨(blk_cell BK318.out 0).trans rfl, (blk_cell BK318.out 1).trans rfl, (blk_cell BK317.out 0).trans rfl, (blk_cell BK317.out 1).trans rfl⟩ (fun hHeld => ?_); refine with_tabW impl_height.tab13 impl_height.bits13 (fun HT_ HW_ => ?_)
               generalize w39.drew = w40 at BK317 BK318 HB hHeld ⊢
               refine pS (i := 0) (some 70) #[true, false, false, false, false, false, false, false, false, false, false, false, false, false, false, false, false, false, false] (any_of HT_.out (by kernel_rfl)) ?_
               refine pS (i := 3) (some 73) #[true, false, false, true, false, false, false, false, false, false, false, false, false, false, false, false, false, false, false] (any_of HT_.out (by kernel_rfl)) ?_
               refine pS (i := 7) (some 77) #[true, false, false, true, false, false, false, true, false, false, false, false, false, false, false, false, false, false, false] (any_of HT_.out (by kernel_rfl)) ?_
               refine pS (i := 8) (some 78) #[true, false, false, true, false, false, false, true, true, false, false, false, false, false, false, false, false, false, false] (any_of HT_.out (by kernel_rfl)) ?_
               refine pS (i := 9) (some 79) #[true, false, false, true, false, false, false, true, true, true, false, false, false, false, false, false, false, false, false] (any_of HT_.out (by kernel_rfl)) ?_
               refine pS (i := 11) (some 81) #[true, false, false, true, false, false, false, true, true, true, false, true, false, false, false, false, false, false, false] (any_of HT_.out (by kernel_rfl)) ?_
               refine pS (i := 14) (some 84) #[true, false, false, true, false, false, false, true, true, true, false, true, false, false, true, false, false, false, false] (any_of HT_.out (by kernel_rfl)) ?_
               refine tS (i := 1) (some 71) #[true, true, false, true, false, false, false, true, true, true, false, true, false, false, true, false, false, false, false] (take_ofW HT_.out HW_.out (by kernel_rfl)) hHeld ?_
               refine pS (i := 2) (some 72) #[true, true, true, true, false, false, false, true, true, true, false, true, false, false, true, false, false, false, false] (any_of HT_.out (by kernel_rfl)) ?_
               refine tS (i := 4) (some 74) #[true, true, true, true, true, false, false, true, true, true, false, true, false, false, true, false, false, false, false] (take_ofW HT_.out HW_.out (by kernel_rfl)) hHeld ?_
               refine pS (i := 5) (some 75) #[true, true, true, true, true, true, false, true, true, true, false, true, false, false, true, false, false, false, false] (any_of HT_.out (by kernel_rfl)) ?_
               refine pS (i := 6) (some 76) #[true, true, true, true, true, true, true, true, true, true, false, true, false, false, true, false, false, false, false] (any_of HT_.out (by kernel_rfl)) ?_
               refine one_ (i := 10) (N := some 80) #[true, true, true, true, true, true, true, true, true, true, true, true, false, false, true, false, false, false, false] rfl rfl (one_of HT_.out (by kernel_rfl)) (by decide) (fun K hK => ?_)
               refine goes_ Try.func177 (by kernel_rfl) rfl #[] (by rfl) rfl rfl (by (try simp only [List.map_toArray, List.map_cons, List.map_nil]); first | done | rfl | (simp only [List.length_drop, List.length_take]; rfl)) ?_
               with_reducible refine (impl_twelfths.calls  t319 _ A23.out).mono ?_
               rintro e w41 ⟨v320, rfl, ho0, hb⟩
               refine ⟨_, rfl, ?_⟩
               have n0_ := am (Kd.R_lower ho0 (below_size (be HB)))
               have n1_ := bB BK317 hb
               have n2_ := bB BK318 hb
               have n3_ := am (below_step (be HB) hb)
               clear BK317
               clear BK318
               clear HB
               have HO321 := n0_
               have BK317 := n1_
               have BK318 := n2_
               have HB := n3_
               clear n0_ n1_ n2_ n3_
               (try clear hb)
               (try clear hb2)
               (try clear hk)
               (try clear hi)
               (try clear ho0)
               obtain ⟨Ao42, co42, eo42⟩ := Kd.R_slice HO321.out
               (first | subst eo42 | (injection eo42 with f1_ f2_ f3_; have f4_ := f1_.symm; have f5_ := f3_.symm; clear f1_ f2_ f3_; subst f4_; subst f5_))
               have p322 : 0 ≤ (t305 : Int) := of_decide_eq_true (by first | (with_reducible assumption) | assumption)
               have q322 : t305 < (t319.length : Int) := of_decide_eq_true (by first | (with_reducible assumption) | assumption)
               obtain ⟨ad322, e322, hx322_0⟩ := Kd.at_int (Kd.R_reads' HO321.out).2.2 t305 p322 q322
               cases e322
               replace p322 := eq_true p322
               replace q322 := eq_true q322
               refine hK.out _ _ ⟨(blk_cell BK318.out 0).trans rfl, (blk_cell BK318.out 1).trans rfl, (blk_cell BK317.out 0).trans rfl, (blk_cell BK317.out 1).trans rfl⟩ (fun hHeld => ?_)
               clear hK K
               refine norm_ (a' := ?_) ?_ ?_
               rotate_left
               ·show Act.put _ (some 80) _ = _
                simp only [Act.put, List.setIfInBounds_toArray, List.set_cons_zero, List.set_cons_succ, i64_w, i32_w]
                rfl
               refine pS (i := 12) (some 82) #[true, true, true, true, true, true, true, true, true, true, true, true, true, false, true, false, false, false, false] (any_of HT_.out (by kernel_rfl)) ?_
               refine one_ (i := 13) (N := some 83) #[true, true, true, true, true, true, true, true, true, true, true, true, true, true, true, false, false, false, false] rfl rfl (one_of HT_.out (by kernel_rfl)) (by decide) (fun K hK => ?_)
               refine value_ (w1 := ?_) (v := ?_) (by rfl) rfl ?_ ?_
               rotate_left 2
               ·go_simp
                constructor
                ·rfl
                ·rfl
               refine hK.out _ _ ⟨hHeld.1, hHeld.2.1, hHeld.2.2.1, hHeld.2.2.2⟩ (fun hHeld => ?_)
               clear hK K
               refine norm_ (a' := ?_) ?_ ?_
               rotate_left
               ·show Act.put _ (some 83) _ = _
                simp only [Act.put, List.setIfInBounds_toArray, List.set_cons_zero, List.set_cons_succ, i64_w, i32_w]
                rfl
               refine pS (i := 15) (some 85) #[true, true, true, true, true, true, true, true, true, true, true, true, true, true, true, true, false, false, false] (any_of HT_.out (by kernel_rfl)) ?_
               refine pS (i := 16) (some 86) #[true, true, true, true, true, true, true, true, true, true, true, true, true, true, true, true, true, false, false] (any_of HT_.out (by kernel_rfl)) ?_
               refine pS (i := 17) (some 87) #[true, true, true, true, true, true, true, true, true, true, true, true, true, true, true, true, true, true, false] (any_of HT_.out (by kernel_rfl)) ?_
               refine pS (i := 18) (some 16) #[true, true, true, true, true, true, true, true, true, true, true, true, true, true, true, true, true, true, true] (any_of HT_.out (by kernel_rfl)) ?_
               refine done_ (done_of HT_.out (by kernel_rfl)) ?_
               obtain ⟨hcz43_0, hcz43_1, hfz43_0, hfz43_1⟩ := bx2 BK317
               try go_wp2
               go_ret
               exact ⟨by first | rfl | (simp [errW_none, errW_some] <;> rfl) | (simp only [← hji20]; first | rfl | (simp [errW_none, errW_some] <;> rfl)) | (simp [*, errW_none, errW_some] <;> rfl), be HB⟩
              ·rw [if_neg c27] at H
               have c27b0 : decide ((Int.tmod (wrap64 ((wrap64 ((wrap64 ((rd_T103 l0 (ji20)).f1)) - (wrap64 ((rd_T103 l0 t304).f1)))) * (wrap64 ((wrap64 (x10_1 * (wrap64 ((wrap64 ((rd_T103 l0 (ji20)).f0)) - (wrap64 ((rd_T103 l0 t304).f0)))))) + (wrap64 ((rd t319 t305) * t306)))))) (wrap64 (12 * (wrap64 ((wrap64 ((rd_T103 l0 (ji20)).f0)) - (wrap64 ((rd_T103 l0 t304).f0))))))) < 0) = false := decide_eq_false c27
               clear c27
               obtain rfl := Option.some.inj H
               try go_wp2
               have n0_ := am (Kd.C_drew HR313.out)
               have n1_ := am (below_drew1 HB.out)
               clear HR313
               clear HB
               have HR313 := n0_
               have HB := n1_
               clear n0_ n1_
               have p315 : 0 ≤ (t304 : Int) := of_decide_eq_true (by first | (with_reducible assumption) | assumption)
               have q315 : t304 < (l0.length : Int) := of_decide_eq_true (by first | (with_reducible assumption) | assumption)
               obtain ⟨ad315, e315, hx315_0, hx315_1⟩ := at_T103 HR0.out t304 p315 q315
               have hw315_1 := hx315_1
               have hw315_0 := hx315_0
               cases e315
               replace hx315_0 := (HB.out.cell (World.block_lt_of_cell? w _ hx315_0)).trans hx315_0
               replace hx315_1 := (HB.out.cell (World.block_lt_of_cell? w _ hx315_1)).trans hx315_1
               replace p315 := eq_true p315
               replace q315 := eq_true q315
               have p316 : 0 ≤ ((ji20) : Int) := of_decide_eq_true (by first | (with_reducible assumption) | assumption)
               have q316 : (ji20) < (l0.length : Int) := of_decide_eq_true (by first | (with_reducible assumption) | assumption)
               obtain ⟨ad316, e316, hx316_0, hx316_1⟩ := at_T103 HR0.out (ji20) p316 q316
               have hw316_1 := hx316_1
               have hw316_0 := hx316_0
               obtain rfl : ad315 = ad316 := (by injection e316)
               replace hx316_0 := (HB.out.cell (World.block_lt_of_cell? w _ hx316_0)).trans hx316_0
               replace hx316_1 := (HB.out.cell (World.block_lt_of_cell? w _ hx316_1)).trans hx316_1
               replace p316 := eq_true p316
               replace q316 := eq_true q316
               refine start_ (n := 13) (S := fun w' => w'.cell? (ad315.add ((t304).toNat * 2)) = some (.int .i16 ((rd_T103 l0 t304).f0)) ∧ w'.cell? ⟨(ad315.add ((t304).toNat * 2)).block, (ad315.add ((t304).toNat * 2)).off + 1, none⟩ = some (.int .i8 ((rd_T103 l0 t304).f1)) ∧ w'.cell? (ad315.add (((ji20)).toNat * 2)) = some (.int .i16 ((rd_T103 l0 (ji20)).f0)) ∧ w'.cell? ⟨(ad315.add (((ji20)).toNat * 2)).block, (ad315.add (((ji20)).toNat * 2)).off + 1, none⟩ = some (.int .i8 ((rd_T103 l0 (ji20)).f1))) (ds := []) #[false, false, false, false, false, false, false, false, false, false, false, false, false] (by kernel_rfl) rfl rfl ⟨((HB.out.cell (World.block_lt_of_cell? w _ hw315_0)).trans hw315_0), ((HB.out.cell (World.block_lt_of_cell? w _ hw315_1)).trans hw315_1), ((HB.out.cell (World.block_lt_of_cell? w _ hw316_0)).trans hw316_0), ((HB.out.cell (World.block_lt_of_cell? w _ hw316_1)).trans hw316_1)⟩ (fun hHeld => ?_); refine with_tabW impl_height.tab11 impl_height.bits11 (fun HT_ HW_ => ?_)
               generalize wr.drew = w44 at HR313 HB hx315_0 hx315_1 hx316_0 hx316_1 hHeld ⊢
               refine pS (i := 0) (some 54) #[true, false, false, false, false, false, false, false, false, false, false, false, false] (any_of HT_.out (by kernel_rfl)) ?_
               refine pS (i := 1) (some 55) #[true, true, false, false, false, false, false, false, false, false, false, false, false] (any_of HT_.out (by kernel_rfl)) ?_
               refine pS (i := 2) (some 56) #[true, true, true, false, false, false, false, false, false, false, false, false, false] (any_of HT_.out (by kernel_rfl)) ?_
               refine pS (i := 4) (some 58) #[true, true, true, false, true, false, false, false, false, false, false, false, false] (any_of HT_.out (by kernel_rfl)) ?_
               refine pS (i := 5) (some 59) #[true, true, true, false, true, true, false, false, false, false, false, false, false] (any_of HT_.out (by kernel_rfl)) ?_
               refine pS (i := 6) (some 60) #[true, true, true, false, true, true, true, false, false, false, false, false, false] (any_of HT_.out (by kernel_rfl)) ?_
               refine pS (i := 7) (some 61) #[true, true, true, false, true, true, true, true, false, false, false, false, false] (any_of HT_.out (by kernel_rfl)) ?_
               refine tS (i := 3) (some 57) #[true, true, true, true, true, true, true, true, false, false, false, false, false] (take_ofW HT_.out HW_.out (by kernel_rfl)) hHeld ?_
               refine tS (i := 8) (some 62) #[true, true, true, true, true, true, true, true, true, false, false, false, false] (take_ofW HT_.out HW_.out (by kernel_rfl)) hHeld ?_
               refine join_ (σ := Nat × Nat) 2 #[true, true, true, true, true, true, true, true, true, true, true, false, false] (fun s_ => [(13, .pointer (some ⟨s_.1, 0, none⟩)), (14, .pointer (some ⟨s_.2, 0, none⟩))]) (fun s_ w' => (w'.cell? (ad315.add ((t304).toNat * 2)) = some (.int .i16 ((rd_T103 l0 t304).f0)) ∧ w'.cell? ⟨(ad315.add ((t304).toNat * 2)).block, (ad315.add ((t304).toNat * 2)).off + 1, none⟩ = some (.int .i8 ((rd_T103 l0 t304).f1)) ∧ w'.cell? (ad315.add (((ji20)).toNat * 2)) = some (.int .i16 ((rd_T103 l0 (ji20)).f0)) ∧ w'.cell? ⟨(ad315.add (((ji20)).toNat * 2)).block, (ad315.add (((ji20)).toNat * 2)).off + 1, none⟩ = some (.int .i8 ((rd_T103 l0 (ji20)).f1))) ∧ (w'.heap[s_.1]? = some (.cells #[.int .i16 0, .int .i8 0] 103 (0, 0))) ∧ (w'.heap[s_.2]? = some (.cells #[.int .i16 0, .int .i8 0] 103 (0, 0))) ∧ (w.heap.size ≤ s_.1) ∧ (w.heap.size ≤ s_.1) ∧ (s_.2 ≠ s_.1) ∧ (s_.1 ≠ s_.2) ∧ (w.heap.size ≤ s_.2) ∧ (w.heap.size ≤ s_.2) ∧ (Below w.heap.size w w')) ?_ ?_
               rotate_left
               ·intro hCont
                refine two_ (i := 9) (j := 10) (Ni := some 13) (Nj := some 14) #[true, true, true, true, true, true, true, true, true, true, false, false, false] #[true, true, true, true, true, true, true, true, true, false, true, false, false] rfl rfl rfl rfl (two_of HT_.out (by kernel_rfl)) (by decide) (by decide) (fun K hK => ?_) (fun K hK => ?_)
                ·skip
                 refine box_step ?hg (N := 13) ?hd (cs := #[.int .i16 0, .int .i8 0]) (t := 103) ?hr ?_; (case hd => rfl); (case hg => rfl); (case hr => first | (go_simp; done) | (go_simp; rfl))
                 intro gb317 hg w45 hbox hb
                 have n0_ := am (Kd.C_below (kc HR313) hb)
                 have n1_ := am (below_step (be HB) hb)
                 have n2_ := am (hbox)
                 have n3_ := am (gN hg (below_size (be HB)))
                 have n4_ := am (gN hg (below_size (be HB)))
                 clear HR313
                 clear HB
                 have HR313 := n0_
                 have HB := n1_
                 have BK317 := n2_
                 have GW317 := n3_
                 have GE317 := n4_
                 clear n0_ n1_ n2_ n3_ n4_
                 clear hb hbox hg
                 refine hK.out _ _ ⟨((HB.out.cell (World.block_lt_of_cell? w _ hw315_0)).trans hw315_0), ((HB.out.cell (World.block_lt_of_cell? w _ hw315_1)).trans hw315_1), ((HB.out.cell (World.block_lt_of_cell? w _ hw316_0)).trans hw316_0), ((HB.out.cell (World.block_lt_of_cell? w _ hw316_1)).trans hw316_1)⟩ (fun hHeld => ?_)
                 clear hK K
                 refine norm_ (a' := ?_) ?_ ?_
                 rotate_left
                 ·show Act.put _ (some 13) _ = _
                  simp only [Act.put, List.setIfInBounds_toArray, List.set_cons_zero, List.set_cons_succ, i64_w, i32_w]
                  rfl
                 refine one_ (i := 10) (N := some 14) #[true, true, true, true, true, true, true, true, true, true, true, false, false] rfl rfl (one_of HT_.out (by kernel_rfl)) (by decide) (fun K hK => ?_)
                 refine box_step ?hg (N := 14) ?hd (cs := #[.int .i16 0, .int .i8 0]) (t := 103) ?hr ?_; (case hd => rfl); (case hg => rfl); (case hr => first | (go_simp; done) | (go_simp; rfl))
                 intro gb318 hg w46 hbox hb
                 have n0_ := am (Kd.C_below (kc HR313) hb)
                 have n1_ := bB BK317 hb
                 have n2_ := am (below_step (be HB) hb)
                 have n3_ := am (hbox)
                 have n4_ := am (gN hg (below_size (be HB)))
                 have n5_ := am (gN hg (below_size (be HB)))
                 have n6_ := nL BK317 hg
                 have n7_ := nR BK317 hg
                 clear HR313
                 clear BK317
                 clear HB
                 have HR313 := n0_
                 have BK317 := n1_
                 have HB := n2_
                 have BK318 := n3_
                 have GW318 := n4_
                 have GE318 := n5_
                 have NB317_318 := n6_
                 have NB318_317 := n7_
                 clear n0_ n1_ n2_ n3_ n4_ n5_ n6_ n7_
                 clear hb hbox hg
                 refine hK.out _ _ ⟨((HB.out.cell (World.block_lt_of_cell? w _ hw315_0)).trans hw315_0), ((HB.out.cell (World.block_lt_of_cell? w _ hw315_1)).trans hw315_1), ((HB.out.cell (World.block_lt_of_cell? w _ hw316_0)).trans hw316_0), ((HB.out.cell (World.block_lt_of_cell? w _ hw316_1)).trans hw316_1)⟩ (fun hHeld => ?_)
                 clear hK K
                 refine norm_ (a' := ?_) ?_ ?_
                 rotate_left
                 ·show Act.put _ (some 14) _ = _
                  simp only [Act.put, List.setIfInBounds_toArray, List.set_cons_zero, List.set_cons_succ, i64_w, i32_w]
                  rfl
                 exact norm_ (by simp only [putAll, Act.put, List.setIfInBounds_toArray, List.set_cons_zero, List.set_cons_succ]) (hCont (gb317, gb318) _ ⟨hHeld, (kb BK317), (kb BK318), GW317.out, GE317.out, NB318_317.out, NB317_318.out, GW318.out, GE318.out, (be HB)⟩)
                ·skip
                 refine box_step ?hg (N := 14) ?hd (cs := #[.int .i16 0, .int .i8 0]) (t := 103) ?hr ?_; (case hd => rfl); (case hg => rfl); (case hr => first | (go_simp; done) | (go_simp; rfl))
                 intro gb318 hg w45 hbox hb
                 have n0_ := am (Kd.C_below (kc HR313) hb)
                 have n1_ := am (below_step (be HB) hb)
                 have n2_ := am (hbox)
                 have n3_ := am (gN hg (below_size (be HB)))
                 have n4_ := am (gN hg (below_size (be HB)))
                 clear HR313
                 clear HB
                 have HR313 := n0_
                 have HB := n1_
                 have BK318 := n2_
                 have GW318 := n3_
                 have GE318 := n4_
                 clear n0_ n1_ n2_ n3_ n4_
                 clear hb hbox hg
                 refine hK.out _ _ ⟨((HB.out.cell (World.block_lt_of_cell? w _ hw315_0)).trans hw315_0), ((HB.out.cell (World.block_lt_of_cell? w _ hw315_1)).trans hw315_1), ((HB.out.cell (World.block_lt_of_cell? w _ hw316_0)).trans hw316_0), ((HB.out.cell (World.block_lt_of_cell? w _ hw316_1)).trans hw316_1)⟩ (fun hHeld => ?_)
                 clear hK K
                 refine norm_ (a' := ?_) ?_ ?_
                 rotate_left
                 ·show Act.put _ (some 14) _ = _
                  simp only [Act.put, List.setIfInBounds_toArray, List.set_cons_zero, List.set_cons_succ, i64_w, i32_w]
                  rfl
                 refine one_ (i := 9) (N := some 13) #[true, true, true, true, true, true, true, true, true, true, true, false, false] rfl rfl (one_of HT_.out (by kernel_rfl)) (by decide) (fun K hK => ?_)
                 refine box_step ?hg (N := 13) ?hd (cs := #[.int .i16 0, .int .i8 0]) (t := 103) ?hr ?_; (case hd => rfl); (case hg => rfl); (case hr => first | (go_simp; done) | (go_simp; rfl))
                 intro gb317 hg w46 hbox hb
                 have n0_ := am (Kd.C_below (kc HR313) hb)
                 have n1_ := bB BK318 hb
                 have n2_ := am (below_step (be HB) hb)
                 have n3_ := am (hbox)
                 have n4_ := am (gN hg (below_size (be HB)))
                 have n5_ := am (gN hg (below_size (be HB)))
                 have n6_ := nL BK318 hg
                 have n7_ := nR BK318 hg
                 clear HR313
                 clear BK318
                 clear HB
                 have HR313 := n0_
                 have BK318 := n1_
                 have HB := n2_
                 have BK317 := n3_
                 have GW317 := n4_
                 have GE317 := n5_
                 have NB318_317 := n6_
                 have NB317_318 := n7_
                 clear n0_ n1_ n2_ n3_ n4_ n5_ n6_ n7_
                 clear hb hbox hg
                 refine hK.out _ _ ⟨((HB.out.cell (World.block_lt_of_cell? w _ hw315_0)).trans hw315_0), ((HB.out.cell (World.block_lt_of_cell? w _ hw315_1)).trans hw315_1), ((HB.out.cell (World.block_lt_of_cell? w _ hw316_0)).trans hw316_0), ((HB.out.cell (World.block_lt_of_cell? w _ hw316_1)).trans hw316_1)⟩ (fun hHeld => ?_)
                 clear hK K
                 refine norm_ (a' := ?_) ?_ ?_
                 rotate_left
                 ·show Act.put _ (some 13) _ = _
                  simp only [Act.put, List.setIfInBounds_toArray, List.set_cons_zero, List.set_cons_succ, i64_w, i32_w]
                  rfl
                 exact norm_ (by simp only [putAll, Act.put, List.setIfInBounds_toArray, List.set_cons_zero, List.set_cons_succ]) (hCont (gb317, gb318) _ ⟨hHeld, (kb BK317), (kb BK318), GW317.out, GE317.out, NB318_317.out, NB317_318.out, GW318.out, GE318.out, (be HB)⟩)
               rintro ⟨gb317, gb318⟩ w47 ⟨hS_, h0_, h1_, h2_, h3_, h4_, h5_, h6_, h7_, h8_⟩
               have n0_ : Aside0 (w47.heap[gb317]? = some (.cells #[.int .i16 0, .int .i8 0] 103 (0, 0))) := ⟨h0_⟩
               have n1_ : Aside0 (w47.heap[gb318]? = some (.cells #[.int .i16 0, .int .i8 0] 103 (0, 0))) := ⟨h1_⟩
               have n2_ : Aside0 (w.heap.size ≤ gb317) := ⟨h2_⟩
               have n3_ : Aside0 (w.heap.size ≤ gb317) := ⟨h3_⟩
               have n4_ : Aside0 (gb318 ≠ gb317) := ⟨h4_⟩
               have n5_ : Aside0 (gb317 ≠ gb318) := ⟨h5_⟩
               have n6_ : Aside0 (w.heap.size ≤ gb318) := ⟨h6_⟩
               have n7_ : Aside0 (w.heap.size ≤ gb318) := ⟨h7_⟩
               have n8_ : Aside0 (Below w.heap.size w w47) := ⟨h8_⟩
               clear HR313
               clear HB
               clear h0_ h1_ h2_ h3_ h4_ h5_ h6_ h7_ h8_
               have BK317 := n0_
               have BK318 := n1_
               have GW317 := n2_
               have GE317 := n3_
               have NB318_317 := n4_
               have NB317_318 := n5_
               have GW318 := n6_
               have GE318 := n7_
               have HB := n8_
               clear n0_ n1_ n2_ n3_ n4_ n5_ n6_ n7_ n8_
               have hHeld : w47.cell? (ad315.add ((t304).toNat * 2)) = some (.int .i16 ((rd_T103 l0 t304).f0)) ∧ w47.cell? ⟨(ad315.add ((t304).toNat * 2)).block, (ad315.add ((t304).toNat * 2)).off + 1, none⟩ = some (.int .i8 ((rd_T103 l0 t304).f1)) ∧ w47.cell? (ad315.add (((ji20)).toNat * 2)) = some (.int .i16 ((rd_T103 l0 (ji20)).f0)) ∧ w47.cell? ⟨(ad315.add (((ji20)).toNat * 2)).block, (ad315.add (((ji20)).toNat * 2)).off + 1, none⟩ = some (.int .i8 ((rd_T103 l0 (ji20)).f1)) := hS_
               refine norm_ (a' := ?_) ?_ ?_
               rotate_left
               ·simp only [putAll, Act.put, List.setIfInBounds_toArray, List.set_cons_zero, List.set_cons_succ]
                rfl
               refine one_ (i := 11) (N := none) #[true, true, true, true, true, true, true, true, true, true, true, true, false] rfl rfl (one_of HT_.out (by kernel_rfl)) (by decide) (fun K hK => ?_)
               have hs48 : w47.cell? ⟨gb317, 0, none⟩ = some (.int .i16 0) := (blk_cell BK317.out 0).trans rfl
               have hfs48 := blk_frozen BK317.out 0
               have hns48_1 := NB318_317.out
               have hms48_1 := NB317_318.out
               have hs49 : w47.cell? ⟨gb317, 1, none⟩ = some (.int .i8 0) := (blk_cell BK317.out 1).trans rfl
               have hfs49 := blk_frozen BK317.out 1
               have hns49_1 := NB318_317.out
               have hms49_1 := NB317_318.out
               refine skip_ (w1 := ?_) (by rfl) rfl ?_ ?_
               rotate_left
               ·go_simp
                rfl
               refine hK.out _ _ ⟨((cell_far (p := ⟨gb317, _, none⟩) (nf hw315_0 GW317) _).trans (((cell_far (p := ⟨gb317, _, none⟩) (nf hw315_0 GW317) _).trans (hHeld.1)))), ((cell_far (p := ⟨gb317, _, none⟩) (nf hw315_1 GW317) _).trans (((cell_far (p := ⟨gb317, _, none⟩) (nf hw315_1 GW317) _).trans (hHeld.2.1)))), ((cell_far (p := ⟨gb317, _, none⟩) (nf hw316_0 GW317) _).trans (((cell_far (p := ⟨gb317, _, none⟩) (nf hw316_0 GW317) _).trans (hHeld.2.2.1)))), ((cell_far (p := ⟨gb317, _, none⟩) (nf hw316_1 GW317) _).trans (((cell_far (p := ⟨gb317, _, none⟩) (nf hw316_1 GW317) _).trans (hHeld.2.2.2))))⟩ (fun hHeld => ?_)
               clear hK K
               refine one_ (i := 12) (N := none) #[true, true, true, true, true, true, true, true, true, true, true, true, true] rfl rfl (one_of HT_.out (by kernel_rfl)) (by decide) (fun K hK => ?_)
               have hs50 : w47.cell? ⟨gb318, 0, none⟩ = some (.int .i16 0) := (blk_cell BK318.out 0).trans rfl
               have hfs50 := blk_frozen BK318.out 0
               have hns50_0 := NB317_318.out
               have hms50_0 := NB318_317.out
               have hs51 : w47.cell? ⟨gb318, 1, none⟩ = some (.int .i8 0) := (blk_cell BK318.out 1).trans rfl
               have hfs51 := blk_frozen BK318.out 1
               have hns51_0 := NB317_318.out
               have hms51_0 := NB318_317.out
               refine skip_ (w1 := ?_) (by rfl) rfl ?_ ?_
               rotate_left
               ·go_simp
                rfl
               refine hK.out _ _ ⟨((cell_far (p := ⟨gb318, _, none⟩) (nf hw315_0 GW318) _).trans (((cell_far (p := ⟨gb318, _, none⟩) (nf hw315_0 GW318) _).trans (hHeld.1)))), ((cell_far (p := ⟨gb318, _, none⟩) (nf hw315_1 GW318) _).trans (((cell_far (p := ⟨gb318, _, none⟩) (nf hw315_1 GW318) _).trans (hHeld.2.1)))), ((cell_far (p := ⟨gb318, _, none⟩) (nf hw316_0 GW318) _).trans (((cell_far (p := ⟨gb318, _, none⟩) (nf hw316_0 GW318) _).trans (hHeld.2.2.1)))), ((cell_far (p := ⟨gb318, _, none⟩) (nf hw316_1 GW318) _).trans (((cell_far (p := ⟨gb318, _, none⟩) (nf hw316_1 GW318) _).trans (hHeld.2.2.2))))⟩ (fun hHeld => ?_)
               clear hK K
               refine done_ (done_of HT_.out (by kernel_rfl)) ?_
               have hnb52 := NB318_317.out
               have hnc52 := NB317_318.out
               obtain ⟨hcz53_0, hcz53_1, hfz53_0, hfz53_1⟩ := bx2 BK318
               obtain ⟨hcz54_0, hcz54_1, hfz54_0, hfz54_1⟩ := bx2 BK317
               try go_wp2
               have n0_ : Aside0 (((((w47.setCell ⟨gb317, 0, none⟩ (.int .i16 ((rd_T103 l0 t304).f0))).setCell ⟨gb317, 1, none⟩ (.int .i8 ((rd_T103 l0 t304).f1))).setCell ⟨gb318, 0, none⟩ (.int .i16 ((rd_T103 l0 (ji20)).f0))).setCell ⟨gb318, 1, none⟩ (.int .i8 ((rd_T103 l0 (ji20)).f1))).heap[gb317]? = some (.cells #[.int .i16 ((rd_T103 l0 t304).f0), .int .i8 ((rd_T103 l0 t304).f1)] 103 (0, 0))) := ⟨by (with_reducible repeat (first | refine blk_drewN ?_ _ | refine blk_drew ?_ | refine blk_alloc ?_ _)); refine blk_far ?_ NB317_318.out _; (with_reducible repeat (first | refine blk_drewN ?_ _ | refine blk_drew ?_ | refine blk_alloc ?_ _)); refine blk_far ?_ NB317_318.out _; (with_reducible repeat (first | refine blk_drewN ?_ _ | refine blk_drew ?_ | refine blk_alloc ?_ _)); refine blk_put (cs := #[.int .i16 ((rd_T103 l0 t304).f0), .int .i8 0]) ?_ 1 _ rfl; (with_reducible repeat (first | refine blk_drewN ?_ _ | refine blk_drew ?_ | refine blk_alloc ?_ _)); refine blk_put (cs := #[.int .i16 0, .int .i8 0]) ?_ 0 _ rfl; exact kb BK317⟩
               have n1_ : Aside0 (((((w47.setCell ⟨gb317, 0, none⟩ (.int .i16 ((rd_T103 l0 t304).f0))).setCell ⟨gb317, 1, none⟩ (.int .i8 ((rd_T103 l0 t304).f1))).setCell ⟨gb318, 0, none⟩ (.int .i16 ((rd_T103 l0 (ji20)).f0))).setCell ⟨gb318, 1, none⟩ (.int .i8 ((rd_T103 l0 (ji20)).f1))).heap[gb318]? = some (.cells #[.int .i16 ((rd_T103 l0 (ji20)).f0), .int .i8 ((rd_T103 l0 (ji20)).f1)] 103 (0, 0))) := ⟨by (with_reducible repeat (first | refine blk_drewN ?_ _ | refine blk_drew ?_ | refine blk_alloc ?_ _)); refine blk_put (cs := #[.int .i16 ((rd_T103 l0 (ji20)).f0), .int .i8 0]) ?_ 1 _ rfl; (with_reducible repeat (first | refine blk_drewN ?_ _ | refine blk_drew ?_ | refine blk_alloc ?_ _)); refine blk_put (cs := #[.int .i16 0, .int .i8 0]) ?_ 0 _ rfl; (with_reducible repeat (first | refine blk_drewN ?_ _ | refine blk_drew ?_ | refine blk_alloc ?_ _)); refine blk_far ?_ NB318_317.out _; (with_reducible repeat (first | refine blk_drewN ?_ _ | refine blk_drew ?_ | refine blk_alloc ?_ _)); refine blk_far ?_ NB318_317.out _; exact kb BK318⟩
               have n2_ : Aside0 (Below w.heap.size w ((((w47.setCell ⟨gb317, 0, none⟩ (.int .i16 ((rd_T103 l0 t304).f0))).setCell ⟨gb317, 1, none⟩ (.int .i8 ((rd_T103 l0 t304).f1))).setCell ⟨gb318, 0, none⟩ (.int .i16 ((rd_T103 l0 (ji20)).f0))).setCell ⟨gb318, 1, none⟩ (.int .i8 ((rd_T103 l0 (ji20)).f1)))) := ⟨be HB⟩
               (try clear BK317)
               (try clear BK318)
               (try clear HB)
               generalize ((((w47.setCell ⟨gb317, 0, none⟩ (.int .i16 ((rd_T103 l0 t304).f0))).setCell ⟨gb317, 1, none⟩ (.int .i8 ((rd_T103 l0 t304).f1))).setCell ⟨gb318, 0, none⟩ (.int .i16 ((rd_T103 l0 (ji20)).f0))).setCell ⟨gb318, 1, none⟩ (.int .i8 ((rd_T103 l0 (ji20)).f1))) = w55 at n0_ n1_ n2_ ⊢
               have BK317 := n0_
               have BK318 := n1_
               have HB := n2_
               clear n0_ n1_ n2_
               have n0_ := am (blk_drew BK317.out)
               have n1_ := am (blk_drew BK318.out)
               have n2_ := am (below_drew1 HB.out)
               clear BK317
               clear BK318
               clear HB
               have BK317 := n0_
               have BK318 := n1_
               have HB := n2_
               clear n0_ n1_ n2_
               refine start_ (n := 19) (S := fun w' => w'.cell? ⟨gb318, 0, none⟩ = some (.int .i16 ((rd_T103 l0 (ji20)).f0)) ∧ w'.cell? ⟨gb318, 1, none⟩ = some (.int .i8 ((rd_T103 l0 (ji20)).f1)) ∧ w'.cell? ⟨gb317, 0, none⟩ = some (.int .i16 ((rd_T103 l0 t304).f0)) ∧ w'.cell? ⟨gb317, 1, none⟩ = some (.int .i8 ((rd_T103 l0 t304).f1))) (ds := []) #[false, false, false, false, false, false, false, false, false, false, false, false, false, false, false, false, false, false, false] (by kernel_rfl) rfl rfl ⟨(blk_cell BK318.out 0).trans rfl, (blk_cell BK318.out 1).trans rfl, (blk_cell BK317.out 0).trans rfl, (blk_cell BK317.out 1).trans rfl⟩ (fun hHeld => ?_); refine with_tabW impl_height.tab13 impl_height.bits13 (fun HT_ HW_ => ?_)
               generalize w55.drew = w56 at BK317 BK318 HB hHeld ⊢
               refine pS (i := 0) (some 70) #[true, false, false, false, false, false, false, false, false, false, false, false, false, false, false, false, false, false, false] (any_of HT_.out (by kernel_rfl)) ?_
               refine pS (i := 3) (some 73) #[true, false, false, true, false, false, false, false, false, false, false, false, false, false, false, false, false, false, false] (any_of HT_.out (by kernel_rfl)) ?_
               refine pS (i := 7) (some 77) #[true, false, false, true, false, false, false, true, false, false, false, false, false, false, false, false, false, false, false] (any_of HT_.out (by kernel_rfl)) ?_
               refine pS (i := 8) (some 78) #[true, false, false, true, false, false, false, true, true, false, false, false, false, false, false, false, false, false, false] (any_of HT_.out (by kernel_rfl)) ?_
               refine pS (i := 9) (some 79) #[true, false, false, true, false, false, false, true, true, true, false, false, false, false, false, false, false, false, false] (any_of HT_.out (by kernel_rfl)) ?_
               refine pS (i := 11) (some 81) #[true, false, false, true, false, false, false, true, true, true, false, true, false, false, false, false, false, false, false] (any_of HT_.out (by kernel_rfl)) ?_
               refine pS (i := 14) (some 84) #[true, false, false, true, false, false, false, true, true, true, false, true, false, false, true, false, false, false, false] (any_of HT_.out (by kernel_rfl)) ?_
               refine tS (i := 1) (some 71) #[true, true, false, true, false, false, false, true, true, true, false, true, false, false, true, false, false, false, false] (take_ofW HT_.out HW_.out (by kernel_rfl)) hHeld ?_
               refine pS (i := 2) (some 72) #[true, true, true, true, false, false, false, true, true, true, false, true, false, false, true, false, false, false, false] (any_of HT_.out (by kernel_rfl)) ?_
               refine tS (i := 4) (some 74) #[true, true, true, true, true, false, false, true, true, true, false, true, false, false, true, false, false, false, false] (take_ofW HT_.out HW_.out (by kernel_rfl)) hHeld ?_
               refine pS (i := 5) (some 75) #[true, true, true, true, true, true, false, true, true, true, false, true, false, false, true, false, false, false, false] (any_of HT_.out (by kernel_rfl)) ?_
               refine pS (i := 6) (some 76) #[true, true, true, true, true, true, true, true, true, true, false, true, false, false, true, false, false, false, false] (any_of HT_.out (by kernel_rfl)) ?_
               refine one_ (i := 10) (N := some 80) #[true, true, true, true, true, true, true, true, true, true, true, true, false, false, true, false, false, false, false] rfl rfl (one_of HT_.out (by kernel_rfl)) (by decide) (fun K hK => ?_)
               refine goes_ Try.func177 (by kernel_rfl) rfl #[] (by rfl) rfl rfl (by (try simp only [List.map_toArray, List.map_cons, List.map_nil]); first | done | rfl | (simp only [List.length_drop, List.length_take]; rfl)) ?_
               with_reducible refine (impl_twelfths.calls  t319 _ A23.out).mono ?_
               rintro e w57 ⟨v320, rfl, ho0, hb⟩
               refine ⟨_, rfl, ?_⟩
               have n0_ := am (Kd.R_lower ho0 (below_size (be HB)))
               have n1_ := bB BK317 hb
               have n2_ := bB BK318 hb
               have n3_ := am (below_step (be HB) hb)
               clear BK317
               clear BK318
               clear HB
               have HO321 := n0_
               have BK317 := n1_
               have BK318 := n2_
               have HB := n3_
               clear n0_ n1_ n2_ n3_
               (try clear hb)
               (try clear hb2)
               (try clear hk)
               (try clear hi)
               (try clear ho0)
               obtain ⟨Ao58, co58, eo58⟩ := Kd.R_slice HO321.out
               (first | subst eo58 | (injection eo58 with f1_ f2_ f3_; have f4_ := f1_.symm; have f5_ := f3_.symm; clear f1_ f2_ f3_; subst f4_; subst f5_))
               have p322 : 0 ≤ (t305 : Int) := of_decide_eq_true (by first | (with_reducible assumption) | assumption)
               have q322 : t305 < (t319.length : Int) := of_decide_eq_true (by first | (with_reducible assumption) | assumption)
               obtain ⟨ad322, e322, hx322_0⟩ := Kd.at_int (Kd.R_reads' HO321.out).2.2 t305 p322 q322
               cases e322
               replace p322 := eq_true p322
               replace q322 := eq_true q322
               refine hK.out _ _ ⟨(blk_cell BK318.out 0).trans rfl, (blk_cell BK318.out 1).trans rfl, (blk_cell BK317.out 0).trans rfl, (blk_cell BK317.out 1).trans rfl⟩ (fun hHeld => ?_)
               clear hK K
               refine norm_ (a' := ?_) ?_ ?_
               rotate_left
               ·show Act.put _ (some 80) _ = _
                simp only [Act.put, List.setIfInBounds_toArray, List.set_cons_zero, List.set_cons_succ, i64_w, i32_w]
                rfl
               refine pS (i := 12) (some 82) #[true, true, true, true, true, true, true, true, true, true, true, true, true, false, true, false, false, false, false] (any_of HT_.out (by kernel_rfl)) ?_
               refine one_ (i := 13) (N := some 83) #[true, true, true, true, true, true, true, true, true, true, true, true, true, true, true, false, false, false, false] rfl rfl (one_of HT_.out (by kernel_rfl)) (by decide) (fun K hK => ?_)
               refine value_ (w1 := ?_) (v := ?_) (by rfl) rfl ?_ ?_
               rotate_left 2
               ·go_simp
                constructor
                ·rfl
                ·rfl
               refine hK.out _ _ ⟨hHeld.1, hHeld.2.1, hHeld.2.2.1, hHeld.2.2.2⟩ (fun hHeld => ?_)
               clear hK K
               refine norm_ (a' := ?_) ?_ ?_
               rotate_left
               ·show Act.put _ (some 83) _ = _
                simp only [Act.put, List.setIfInBounds_toArray, List.set_cons_zero, List.set_cons_succ, i64_w, i32_w]
                rfl
               refine pS (i := 15) (some 85) #[true, true, true, true, true, true, true, true, true, true, true, true, true, true, true, true, false, false, false] (any_of HT_.out (by kernel_rfl)) ?_
               refine pS (i := 16) (some 86) #[true, true, true, true, true, true, true, true, true, true, true, true, true, true, true, true, true, false, false] (any_of HT_.out (by kernel_rfl)) ?_
               refine pS (i := 17) (some 87) #[true, true, true, true, true, true, true, true, true, true, true, true, true, true, true, true, true, true, false] (any_of HT_.out (by kernel_rfl)) ?_
               refine pS (i := 18) (some 16) #[true, true, true, true, true, true, true, true, true, true, true, true, true, true, true, true, true, true, true] (any_of HT_.out (by kernel_rfl)) ?_
               refine done_ (done_of HT_.out (by kernel_rfl)) ?_
               obtain ⟨hcz59_0, hcz59_1, hfz59_0, hfz59_1⟩ := bx2 BK317
               try go_wp2
               go_ret
               exact ⟨by first | rfl | (simp [errW_none, errW_some] <;> rfl) | (simp only [← hji20]; first | rfl | (simp [errW_none, errW_some] <;> rfl)) | (simp [*, errW_none, errW_some] <;> rfl), be HB⟩
            ·rw [if_neg c25] at H
             exact absurd H (by simp)
           ·rw [if_neg c24] at H
            exact absurd H (by simp)
          ·rw [if_neg c22] at H
           exact absurd H (by simp)
         ·rw [if_neg c21] at H
          exact absurd H (by simp)
        ·rw [if_neg c19] at H
         exact absurd H (by simp)
       ·rw [if_neg c18] at H
        exact absurd H (by simp)
   ·rw [if_neg c11] at H
    exact absurd H (by simp)
  ·rw [if_neg c10] at H
   exact absurd H (by simp)

end Go.Proofs.Ytcollbifdfhfoaa.PFnExactAllAfloat
