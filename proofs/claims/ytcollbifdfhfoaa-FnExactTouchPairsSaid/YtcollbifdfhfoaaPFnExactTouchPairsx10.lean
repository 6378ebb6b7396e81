-- Written by a program out of this seat's translation (functions, and that the code comes to them).
import Derived.Test.YtcollbifdfhfoaaPFnExactTouchPairsx0
import Derived.Test.YtcollbifdfhfoaaPFnExactTouchPairsx2
import Derived.Test.YtcollbifdfhfoaaPFnExactTouchPairsx5
import Derived.Test.YtcollbifdfhfoaaPFnExactTouchPairsx8
import Derived.Test.YtcollbifdfhfoaaPFnExactTouchPairsx9
namespace Go.Proofs.Ytcollbifdfhfoaa.PFnExactTouchPairs
open Go.RowKit Go.Proofs.YtcollbifdfhfoaaW.PrintWords Go.Proofs.YtcollbifdfhfoaaW.PrintLast Go.Proofs.YtcollbifdfhfoaaW.PrintMore
attribute [local go_sem] max2_int min2_int max_two min_two max_three min_three max_four min_four   -- for this text's walks alone
open Go.Proofs.Ytcollbifdfhfoaa.Bay Go.Proofs.Ytcollbifdfhfoaa.Short
attribute [local go_sem ↓] lv26_eq lv28_eq
attribute [local go_sem] lvv_set lvv_drewN lvv_drew lv26_run BayAt26_set BayAt26_drewN BayAt26_drew lv28_run BayAt28_set BayAt28_drewN BayAt28_drew
set_option linter.unusedVariables false
set_option linter.unusedSimpArgs false

/-! ### laws_heldInt64A2S: function 59 -/
mutual
def laws_heldInt64A2S.l0 : Nat → List (S82) → Int → Int → Option (Int)
 | 0, _, _, _ => none
 | k + 1, x0, x1, x5 => if x5 < (x0.length : Int) then (laws_heldInt64A2S.l1 k x0 x1 x5 0) else (some x1)
def laws_heldInt64A2S.l1 : Nat → List (S82) → Int → Int → Int → Option (Int)
 | 0, _, _, _, _ => none
 | k + 1, x0, x1, x5, x6 => if x6 < 2 then (if 0 ≤ x5 then (if x5 < (x0.length : Int) then (if 0 ≤ x6 then (if x6 = 0 then (if ((rd_T82 x0 x5).f0) = x1 then (laws_heldInt64A2S.l1 k x0 (wrap64 (x1 + 1)) x5 (wrap64 (x6 + 1))) else (some (-1))) else (if x6 = 1 then (if ((rd_T82 x0 x5).f1) = x1 then (laws_heldInt64A2S.l1 k x0 (wrap64 (x1 + 1)) x5 (wrap64 (x6 + 1))) else (some (-1))) else (none))) else (none)) else (none)) else (none)) else (laws_heldInt64A2S.l0 k x0 x1 (wrap64 (x5 + 1)))
end
def laws_heldInt64A2S.f (k : Nat) (l0 : List (S82)) (a1 : Int) : Option (Int) := laws_heldInt64A2S.l0 k l0 a1 0
set_option maxHeartbeats 8000000 in
set_option maxRecDepth 100000 in
theorem laws_heldInt64A2S.calls (k : Nat) (A0 : Option Addr) (c0 : Nat) (l0 : List (S82)) (a1 : Int) (r : Int) (w : World) (hr0 : Kd.C k82 w A0 l0.length l0) (hc0 : l0.length ≤ c0) (h : laws_heldInt64A2S.f k l0 a1 = some r) :
  Calls Try.prog 59 #[.slice A0 l0.length c0, .int .i64 a1] w fun e w' => e = .returned (.int .i64 r) ∧ Drawn0 w w' := by
 have HR0 := am hr0
 have HC0 := am hc0
 clear hr0 hc0
 have H : (laws_heldInt64A2S.l0 k l0 a1 0) = some r := h
 clear h
 have H' := am H
 clear H
 go_enter Try.func59, Try.ntmps59
 go_wp2
 go_loopg [1, 5] k (fun kq v1 v5 w' => ∃ (x1_1 : Int) (x5_1 : Int), v1 = .int .i64 x1_1 ∧ v5 = .int .i64 x5_1 ∧ Aside0 (laws_heldInt64A2S.l0 kq l0 x1_1 x5_1 = some r) ∧ Aside0 (kq ≤ k) ∧ Drawn0 w w')
 case atStart => exact ⟨(a1), (0), vx, vx, H', ⟨Nat.le_refl _⟩, by repeat (first | exact Drawn0.refl _ | apply Drawn0.step)⟩
 case round =>
  clear H'
  try clear p2
  obtain ⟨x1_1, x5_1, rfl, rfl, HA, HK1, ⟨m1, rfl⟩⟩ := hrel
  cases gk with
  | zero => exact absurd HA.out (by simp [laws_heldInt64A2S.l0])
  | succ k1 =>
   have H := HA.out
   clear HA
   simp only [laws_heldInt64A2S.l0] at H
   by_cases c3 : x5_1 < (l0.length : Int)
   ·rw [if_pos c3] at H
    have c3b0 : decide (x5_1 < (l0.length : Int)) = true := decide_eq_true c3
    clear c3
    have H' := am H
    clear H
    go_wp2
    go_loopg [1, 6] k1 (fun kq v1 v6 w' => ∃ (x1_2 : Int) (x6_2 : Int), v1 = .int .i64 x1_2 ∧ v6 = .int .i64 x6_2 ∧ Aside0 (laws_heldInt64A2S.l1 kq l0 x1_2 x5_1 x6_2 = some r) ∧ Aside0 (kq ≤ k1) ∧ Drawn0 w w')
    case atStart => exact ⟨(x1_1), (0), vx, vx, H', ⟨Nat.le_refl _⟩, by repeat (first | exact Drawn0.refl _ | apply Drawn0.step)⟩
    case round =>
     clear H'
     try clear p2
     try clear c3
     try clear c3b0
     try clear p2
     obtain ⟨x1_2, x6_2, rfl, rfl, HA, HK2, ⟨m2, rfl⟩⟩ := hrel
     cases gk with
     | zero => exact absurd HA.out (by simp [laws_heldInt64A2S.l1])
     | succ k2 =>
      have H := HA.out
      clear HA
      simp only [laws_heldInt64A2S.l1] at H
      by_cases c4 : x6_2 < 2
      ·rw [if_pos c4] at H
       have c4b0 : decide (x6_2 < 2) = true := decide_eq_true c4
       clear c4
       by_cases c5 : 0 ≤ x5_1
       ·rw [if_pos c5] at H
        have c5b0 : decide (0 ≤ x5_1) = true := decide_eq_true c5
        have c5b1 : 0 ≤ x5_1 := c5
        clear c5
        by_cases c6 : x5_1 < (l0.length : Int)
        ·rw [if_pos c6] at H
         have c6b0 : decide (x5_1 < (l0.length : Int)) = true := decide_eq_true c6
         clear c6
         by_cases c7 : 0 ≤ x6_2
         ·rw [if_pos c7] at H
          have c7b0 : decide (0 ≤ x6_2) = true := decide_eq_true c7
          have c7b1 : 0 ≤ x6_2 := c7
          clear c7
          by_cases c8 : x6_2 = 0
          ·subst c8
           rw [if_pos rfl] at H
           by_cases c9 : ((rd_T82 l0 x5_1).f0) = x1_2
           ·rw [if_pos c9] at H
            have c9b0 : (((rd_T82 l0 x5_1).f0) == x1_2) = true := beq_iff_eq.mpr c9
            have c9b1 : (((rd_T82 l0 x5_1).f0) != x1_2) = false := bne_eq_false_iff_eq.mpr c9
            clear c9
            have H' := am H
            clear H
            have p260 : 0 ≤ (x5_1 : Int) := of_decide_eq_true (by first | (with_reducible assumption) | assumption)
            have q260 : x5_1 < (l0.length : Int) := of_decide_eq_true (by first | (with_reducible assumption) | assumption)
            obtain ⟨ad260, e260, hx260_0, hx260_1⟩ := at_T82 HR0.out x5_1 p260 q260
            cases e260
            replace p260 := eq_true p260
            replace q260 := eq_true q260
            go_wp2
            go_roundg k2
            case measure => have := HK1.out; have := HK2.out; omega
            case rel => exact ⟨(wrap64 (x1_2 + 1)), (wrap64 (0 + 1)), vx, vx, H', ⟨by have := HK1.out; have := HK2.out; omega⟩, by repeat (first | exact Drawn0.refl _ | apply Drawn0.step)⟩
           ·rw [if_neg c9] at H
            have c9b0 : (((rd_T82 l0 x5_1).f0) == x1_2) = false := beq_eq_false_iff_ne.mpr c9
            have c9b1 : (((rd_T82 l0 x5_1).f0) != x1_2) = true := bne_iff_ne.mpr c9
            obtain rfl := Option.some.inj H
            have p260 : 0 ≤ (x5_1 : Int) := of_decide_eq_true (by first | (with_reducible assumption) | assumption)
            have q260 : x5_1 < (l0.length : Int) := of_decide_eq_true (by first | (with_reducible assumption) | assumption)
            obtain ⟨ad260, e260, hx260_0, hx260_1⟩ := at_T82 HR0.out x5_1 p260 q260
            cases e260
            replace p260 := eq_true p260
            replace q260 := eq_true q260
            go_wp2
            go_ret
            exact ⟨by first | rfl | (simp; done) | (simp [*]; done), by repeat (first | exact Drawn0.refl _ | apply Drawn0.step)⟩
          ·rw [if_neg c8] at H
           by_cases c10 : x6_2 = 1
           ·subst c10
            rw [if_pos rfl] at H
            by_cases c11 : ((rd_T82 l0 x5_1).f1) = x1_2
            ·rw [if_pos c11] at H
             have c11b0 : (((rd_T82 l0 x5_1).f1) == x1_2) = true := beq_iff_eq.mpr c11
             have c11b1 : (((rd_T82 l0 x5_1).f1) != x1_2) = false := bne_eq_false_iff_eq.mpr c11
             clear c11
             have H' := am H
             clear H
             have p260 : 0 ≤ (x5_1 : Int) := of_decide_eq_true (by first | (with_reducible assumption) | assumption)
             have q260 : x5_1 < (l0.length : Int) := of_decide_eq_true (by first | (with_reducible assumption) | assumption)
             obtain ⟨ad260, e260, hx260_0, hx260_1⟩ := at_T82 HR0.out x5_1 p260 q260
             cases e260
             replace p260 := eq_true p260
             replace q260 := eq_true q260
             go_wp2
             go_roundg k2
             case measure => have := HK1.out; have := HK2.out; omega
             case rel => exact ⟨(wrap64 (x1_2 + 1)), (wrap64 (1 + 1)), vx, vx, H', ⟨by have := HK1.out; have := HK2.out; omega⟩, by repeat (first | exact Drawn0.refl _ | apply Drawn0.step)⟩
            ·rw [if_neg c11] at H
             have c11b0 : (((rd_T82 l0 x5_1).f1) == x1_2) = false := beq_eq_false_iff_ne.mpr c11
             have c11b1 : (((rd_T82 l0 x5_1).f1) != x1_2) = true := bne_iff_ne.mpr c11
             obtain rfl := Option.some.inj H
             have p260 : 0 ≤ (x5_1 : Int) := of_decide_eq_true (by first | (with_reducible assumption) | assumption)
             have q260 : x5_1 < (l0.length : Int) := of_decide_eq_true (by first | (with_reducible assumption) | assumption)
             obtain ⟨ad260, e260, hx260_0, hx260_1⟩ := at_T82 HR0.out x5_1 p260 q260
             cases e260
             replace p260 := eq_true p260
             replace q260 := eq_true q260
             go_wp2
             go_ret
             exact ⟨by first | rfl | (simp; done) | (simp [*]; done), by repeat (first | exact Drawn0.refl _ | apply Drawn0.step)⟩
           ·rw [if_neg c10] at H
            exact absurd H (by simp)
         ·rw [if_neg c7] at H
          exact absurd H (by simp)
        ·rw [if_neg c6] at H
         exact absurd H (by simp)
       ·rw [if_neg c5] at H
        exact absurd H (by simp)
      ·rw [if_neg c4] at H
       have c4b0 : decide (x6_2 < 2) = false := decide_eq_false c4
       clear c4
       have H' := am H
       clear H
       go_wp2
       go_roundg k2
       case measure => have := HK1.out; have := HK2.out; omega
       case rel => exact ⟨(x1_2), (wrap64 (x5_1 + 1)), vx, vx, H', ⟨by have := HK1.out; have := HK2.out; omega⟩, by repeat (first | exact Drawn0.refl _ | apply Drawn0.step)⟩
   ·rw [if_neg c3] at H
    have c3b0 : decide (x5_1 < (l0.length : Int)) = false := decide_eq_false c3
    clear c3
    obtain rfl := Option.some.inj H
    go_wp2
    go_ret
    exact ⟨by first | rfl | (simp; done) | (simp [*]; done), by repeat (first | exact Drawn0.refl _ | apply Drawn0.step)⟩

/-! ### laws_FnExactTouchPairs: function 13 -/
mutual
def laws_FnExactTouchPairs.j0 : Nat → List (S34) → List (S82) → Int → List (S38) → List (S82) → Int → Bool → Int → Int → (Nat → Int) → Option (Bool)
 | 0, _, _, _, _, _, _, _, _, _, _ => none
 | k + 1, x1, x6, x7, x8, x9, x10, x46, x262000, x262001, x262002 => if x46 = true then (some false) else ((laws_toBoatS.f k x1).bind fun t284 => ((laws_eqBoatS.f k x8 t284).bind fun t287 => (if t287 = true then ((laws_markBoatS.f k x8 1).bind fun bt288 => (if bt288.1 < 0 then (laws_FnExactTouchPairs.j1 k x1 x6 x7 x9 true x262000 x262001 x262002) else ((laws_eqInt64A2S.f k x9 x6).bind fun t290 => (if t290 = true then (laws_FnExactTouchPairs.j1 k x1 x6 x7 x9 (x10 != x7) x262000 x262001 x262002) else (laws_FnExactTouchPairs.j1 k x1 x6 x7 x9 true x262000 x262001 x262002))))) else (some false))))
def laws_FnExactTouchPairs.j1 : Nat → List (S34) → List (S82) → Int → List (S82) → Bool → Int → Int → (Nat → Int) → Option (Bool)
 | 0, _, _, _, _, _, _, _, _ => none
 | k + 1, x1, x6, x7, x9, x67, x262000, x262001, x262002 => if x67 = true then (some false) else ((laws_markInt64A2S.f k x9 1).bind fun bt291 => ((laws_heldInt64A2S.f k bt291.2 1).bind fun t293 => (if t293 < 0 then (some false) else (if t293 = bt291.1 then ((laws_toBay.f x262000 x262001 x262002).bind fun bt294 => ((laws_toBoatS.f k x1).bind fun t297 => ((impl_TouchPairs.f k bt294.1 bt294.2.1 bt294.2.2 t297).bind fun bt300 => ((laws_eqInt64A2S.f k bt300.1 x6).bind fun t304 => (if t304 = true then (laws_FnExactTouchPairs.j2 k bt291.2 bt291.1 (bt300.2 != x7)) else (laws_FnExactTouchPairs.j2 k bt291.2 bt291.1 true)))))) else (some false)))))
def laws_FnExactTouchPairs.j2 : Nat → List (S82) → Int → Bool → Option (Bool)
 | 0, _, _, _ => none
 | k + 1, x9, x12, x95 => if x95 = true then (some false) else ((laws_heldInt64A2S.f k x9 1).bind fun t305 => (if t305 < 0 then (some false) else (if t305 = x12 then (some true) else (some false))))
end
def laws_FnExactTouchPairs.f (k : Nat) (a0_0 : Int) (a0_1 : Int) (a0_2 : (Nat → Int)) (l1 : List (S34)) : Option (Bool) := (laws_szBoatS.f l1 1048576).bind fun t262 => (if t262 < 0 then (some true) else ((laws_toBay.f a0_0 a0_1 a0_2).bind fun bt263 => ((laws_toBoatS.f k l1).bind fun t266 => ((spec_TouchPairs.f k bt263.1 bt263.2.1 bt263.2.2 t266).bind fun bt269 => ((laws_toBoatS.f k l1).bind fun t273 => ((laws_toBay.f a0_0 a0_1 a0_2).bind fun bt276 => ((impl_TouchPairs.f k bt276.1 bt276.2.1 bt276.2.2 t273).bind fun bt279 => ((laws_eqInt64A2S.f k bt279.1 bt269.1).bind fun t283 => (if t283 = true then (laws_FnExactTouchPairs.j0 k l1 bt269.1 bt269.2 t273 bt279.1 bt279.2 (bt279.2 != bt269.2) a0_0 a0_1 a0_2) else (laws_FnExactTouchPairs.j0 k l1 bt269.1 bt269.2 t273 bt279.1 bt279.2 true a0_0 a0_1 a0_2))))))))))
set_option maxHeartbeats 8000000 in
set_option maxRecDepth 100000 in
theorem laws_FnExactTouchPairs.calls (k : Nat) (a0_0 : Int) (a0_1 : Int) (a0_2 : (Nat → Int)) (A1 : Option Addr) (c1 : Nat) (l1 : List (S34)) (r : Bool) (w : World) (hr1 : Kd.C k34 w A1 l1.length l1) (hc1 : l1.length ≤ c1) (h : laws_FnExactTouchPairs.f k a0_0 a0_1 a0_2 l1 = some r) :
  Calls Try.prog 13 #[.agg (csBay a0_0 a0_1 a0_2), .slice A1 l1.length c1] w fun e w' => e = .returned (.bool r) ∧ Below w.heap.size w w' := by
 have hu26 := Try.underlying26
 have HR1 := am hr1
 have HC1 := am hc1
 clear hr1 hc1
 have HB := am (Below.refl w.heap.size w)
 have H : ((laws_szBoatS.f l1 1048576).bind fun t262 => (if t262 < 0 then (some true) else ((laws_toBay.f a0_0 a0_1 a0_2).bind fun bt263 => ((laws_toBoatS.f k l1).bind fun t266 => ((spec_TouchPairs.f k bt263.1 bt263.2.1 bt263.2.2 t266).bind fun bt269 => ((laws_toBoatS.f k l1).bind fun t273 => ((laws_toBay.f a0_0 a0_1 a0_2).bind fun bt276 => ((impl_TouchPairs.f k bt276.1 bt276.2.1 bt276.2.2 t273).bind fun bt279 => ((laws_eqInt64A2S.f k bt279.1 bt269.1).bind fun t283 => (if t283 = true then (laws_FnExactTouchPairs.j0 k l1 bt269.1 bt269.2 t273 bt279.1 bt279.2 (bt279.2 != bt269.2) a0_0 a0_1 a0_2) else (laws_FnExactTouchPairs.j0 k l1 bt269.1 bt269.2 t273 bt279.1 bt279.2 true a0_0 a0_1 a0_2))))))))))) = some r := h
 clear h
 replace H := Option.bind_eq_some_iff.mp H
 obtain ⟨t262, A30, H⟩ := H
 try dsimp only at H
 have A3 := am A30
 clear A30
 by_cases c4 : t262 < 0
 ·rw [if_pos c4] at H
  have c4b0 : decide (t262 < 0) = true := decide_eq_true c4
  clear c4
  obtain rfl := Option.some.inj H
  go_enter Try.func13, Try.ntmps13
  go_wp2_with (first | ((with_reducible refine gate_dst (N := 2) rfl ?_); refine bxe (N := 2) (cs := (csBay a0_0 a0_1 a0_2)) (t := 26) ?_; intro gb261 hg w5 hbox hb; have BK261 := am (hbox); have GW261 := am (gN hg (below_size (be HB))); have GE261 := am (gN hg (below_size (be HB))); replace HB := am (below_step (be HB) hb); clear hb hbox hg) | ((with_reducible refine gate_callee (f := 31) rfl ?_); refine gL (some 18) Try.func31 #[.slice A1 l1.length c1, .int .i64 1048576] ?_; (with_reducible refine (laws_szBoatS.calls _ _ l1 1048576 t262 _ ?side1 ?side2 A3.out).mono ?_); (case side1 => repeat (first | exact (Kd.C_below HR1.out HB.out) | (with_reducible refine Kd.C_alloc ?_ _) | (with_reducible refine Kd.C_drewN ?_ _) | (with_reducible refine Kd.C_drew ?_))); (case side2 => exact HC1.out); rintro e w' ⟨rfl, ⟨nd, rfl⟩⟩; refine ⟨_, rfl, ?_⟩))
  go_ret
  exact ⟨by first | rfl | (simp [errW_none, errW_some] <;> rfl) | (simp [*, errW_none, errW_some] <;> rfl), be HB⟩
 ·rw [if_neg c4] at H
  have c4b0 : decide (t262 < 0) = false := decide_eq_false c4
  clear c4
  replace H := Option.bind_eq_some_iff.mp H
  obtain ⟨⟨t263, t264, t265⟩, A60, H⟩ := H
  try dsimp only at H
  have A6 := am A60
  clear A60
  replace H := Option.bind_eq_some_iff.mp H
  obtain ⟨t266, A70, H⟩ := H
  try dsimp only at H
  have A7 := am A70
  clear A70
  replace H := Option.bind_eq_some_iff.mp H
  obtain ⟨⟨t269, t272⟩, A80, H⟩ := H
  try dsimp only at H
  have A8 := am A80
  clear A80
  replace H := Option.bind_eq_some_iff.mp H
  obtain ⟨t273, A90, H⟩ := H
  try dsimp only at H
  have A9 := am A90
  clear A90
  replace H := Option.bind_eq_some_iff.mp H
  obtain ⟨⟨t276, t277, t278⟩, A100, H⟩ := H
  try dsimp only at H
  have A10 := am A100
  clear A100
  replace H := Option.bind_eq_some_iff.mp H
  obtain ⟨⟨t279, t282⟩, A110, H⟩ := H
  try dsimp only at H
  have A11 := am A110
  clear A110
  have HC12 := am H
  clear H
  go_enter Try.func13, Try.ntmps13
  go_upto_region 8 with (first | ((with_reducible refine gate_dst (N := 2) rfl ?_); refine bxe (N := 2) (cs := (csBay a0_0 a0_1 a0_2)) (t := 26) ?_; intro gb261 hg w13 hbox hb; have BK261 := am (hbox); have GW261 := am (gN hg (below_size (be HB))); have GE261 := am (gN hg (below_size (be HB))); replace HB := am (below_step (be HB) hb); clear hb hbox hg) | ((with_reducible refine gate_callee (f := 31) rfl ?_); refine gL (some 18) Try.func31 #[.slice A1 l1.length c1, .int .i64 1048576] ?_; (with_reducible refine (laws_szBoatS.calls _ _ l1 1048576 t262 _ ?side1 ?side2 A3.out).mono ?_); (case side1 => repeat (first | exact (Kd.C_below HR1.out HB.out) | (with_reducible refine Kd.C_alloc ?_ _) | (with_reducible refine Kd.C_drewN ?_ _) | (with_reducible refine Kd.C_drew ?_))); (case side2 => exact HC1.out); rintro e w' ⟨rfl, ⟨nd, rfl⟩⟩; refine ⟨_, rfl, ?_⟩; have hcz14_0 : w13.cell? ⟨gb261, 0, none⟩ = some (.int .i8 a0_0) := (blk_cell BK261.out 0).trans rfl; have hcz14_1 : w13.cell? ⟨gb261, 1, none⟩ = some (.int .i8 a0_1) := (blk_cell BK261.out 1).trans rfl; have hwz14 := lv26_at BK261.out; have haz14 := at_cells BK261.out; have hyz14 := BayAt26_of BK261.out; have hvz14 := lvv_of BK261.out; have hfz14_0 := blk_frozen BK261.out 0; have hfz14_1 := blk_frozen BK261.out 1; have hfz14_2 := blk_frozen BK261.out 2) | ((with_reducible refine gate_callee (f := 26) rfl ?_); refine gL (some 23) Try.func26 #[.agg (csBay a0_0 a0_1 a0_2)] ?_; (with_reducible refine (laws_toBay.calls a0_0 a0_1 a0_2 t263 t264 t265 _ A6.out).mono ?_); rintro e w15 ⟨rfl, hb⟩; refine ⟨_, rfl, ?_⟩; replace BK261 := bB BK261 hb; replace HB := am (below_step (be HB) hb); (try clear hb); (try clear hb2); (try clear hk); (try clear hi)) | ((with_reducible refine gate_callee (f := 33) rfl ?_); refine gL (some 25) Try.func33 #[.slice A1 l1.length c1] ?_; (with_reducible refine (laws_toBoatS.calls k _ _ l1 t266 _ ?side1 ?side2 A7.out).mono ?_); (case side1 => repeat (first | exact (Kd.C_below HR1.out HB.out) | (with_reducible refine Kd.C_alloc ?_ _) | (with_reducible refine Kd.C_drewN ?_ _) | (with_reducible refine Kd.C_drew ?_))); (case side2 => exact HC1.out); rintro e w16 ⟨v267, rfl, ho0, hb⟩; refine ⟨_, rfl, ?_⟩; have HO268 := am (Kd.R_lower ho0 (below_size (be HB))); replace BK261 := bB BK261 hb; replace HB := am (below_step (be HB) hb); (try clear hb); (try clear hb2); (try clear hk); (try clear hi); (try clear ho0); obtain ⟨Ao17, co17, eo17⟩ := Kd.R_slice HO268.out; subst eo17) | ((with_reducible refine gate_callee (f := 54) rfl ?_); refine gL (some 26) Try.func54 #[.agg (csBay t263 t264 t265), .slice Ao17 t266.length co17] ?_; (with_reducible refine (spec_TouchPairs.calls k t263 t264 t265 _ _ t266 t269 t272 _ ?side1 ?side2 A8.out).mono ?_); (case side1 => repeat (first | exact (Kd.R_reads' HO268.out).2.2 | (with_reducible refine Kd.C_alloc ?_ _) | (with_reducible refine Kd.C_drewN ?_ _) | (with_reducible refine Kd.C_drew ?_))); (case side2 => exact (Kd.R_reads' HO268.out).2.1); rintro e w18 ⟨v270, rfl, ho0, hb⟩; refine ⟨_, rfl, ?_⟩; have HO271 := am (Kd.R_lower ho0 (below_size (be HB))); replace HO268 := am (Kd.R_below (kr HO268) hb); replace BK261 := bB BK261 hb; replace HB := am (below_step (be HB) hb); (try clear hb); (try clear hb2); (try clear hk); (try clear hi); (try clear ho0)) | ((with_reducible refine gate_callee (f := 33) rfl ?_); refine gL (some 30) Try.func33 #[.slice A1 l1.length c1] ?_; (with_reducible refine (laws_toBoatS.calls k _ _ l1 t273 _ ?side1 ?side2 A9.out).mono ?_); (case side1 => repeat (first | exact (Kd.C_below HR1.out HB.out) | (with_reducible refine Kd.C_alloc ?_ _) | (with_reducible refine Kd.C_drewN ?_ _) | (with_reducible refine Kd.C_drew ?_))); (case side2 => exact HC1.out); rintro e w19 ⟨v274, rfl, ho0, hb⟩; refine ⟨_, rfl, ?_⟩; have HO275 := am (Kd.R_lower (Kd.R_new' ho0 (Kd.R_lt (kr HO268))) (below_size (be HB))); replace HO268 := am (Kd.R_elder' (kr HO268) (Kd.R_base ho0) hb); replace HO271 := am (Kd.R_below (kr HO271) hb); replace BK261 := bB BK261 hb; replace HB := am (below_step (be HB) hb); (try clear hb); (try clear hb2); (try clear hk); (try clear hi); (try clear ho0); have hcz20_0 : w19.cell? ⟨gb261, 0, none⟩ = some (.int .i8 a0_0) := (blk_cell BK261.out 0).trans rfl; have hcz20_1 : w19.cell? ⟨gb261, 1, none⟩ = some (.int .i8 a0_1) := (blk_cell BK261.out 1).trans rfl; have hwz20 := lv26_at BK261.out; have haz20 := at_cells BK261.out; have hyz20 := BayAt26_of BK261.out; have hvz20 := lvv_of BK261.out; have hfz20_0 := blk_frozen BK261.out 0; have hfz20_1 := blk_frozen BK261.out 1; have hfz20_2 := blk_frozen BK261.out 2) | ((with_reducible refine gate_callee (f := 26) rfl ?_); refine gL (some 33) Try.func26 #[.agg (csBay a0_0 a0_1 a0_2)] ?_; (with_reducible refine (laws_toBay.calls a0_0 a0_1 a0_2 t276 t277 t278 _ A10.out).mono ?_); rintro e w21 ⟨rfl, hb⟩; refine ⟨_, rfl, ?_⟩; replace HO268 := am (Kd.R_below (kr HO268) hb); replace HO271 := am (Kd.R_below (kr HO271) hb); replace HO275 := am (Kd.R_below (kr HO275) hb); replace BK261 := bB BK261 hb; replace HB := am (below_step (be HB) hb); (try clear hb); (try clear hb2); (try clear hk); (try clear hi); obtain ⟨Ao22, co22, eo22⟩ := Kd.R_slice HO275.out; subst eo22) | ((with_reducible refine gate_callee (f := 55) rfl ?_); refine gL (some 35) Try.func55 #[.agg (csBay t276 t277 t278), .slice Ao22 t273.length co22] ?_; (with_reducible refine (impl_TouchPairs.calls k t276 t277 t278 _ _ t273 t279 t282 _ ?side1 ?side2 A11.out).mono ?_); (case side1 => repeat (first | exact (Kd.R_reads' HO275.out).2.2 | (with_reducible refine Kd.C_alloc ?_ _) | (with_reducible refine Kd.C_drewN ?_ _) | (with_reducible refine Kd.C_drew ?_))); (case side2 => exact (Kd.R_reads' HO275.out).2.1); rintro e w23 ⟨v280, rfl, ho0, hb⟩; refine ⟨_, rfl, ?_⟩; have HO281 := am (Kd.R_lower (Kd.R_new' ho0 (Kd.R_lt (kr HO271))) (below_size (be HB))); replace HO268 := am (Kd.R_below (kr HO268) hb); replace HO271 := am (Kd.R_elder' (kr HO271) (Kd.R_base ho0) hb); replace HO275 := am (Kd.R_below (kr HO275) hb); replace BK261 := bB BK261 hb; replace HB := am (below_step (be HB) hb); (try clear hb); (try clear hb2); (try clear hk); (try clear hi); (try clear ho0)))
  (try simp only [Act.put, List.setIfInBounds_toArray, List.set_cons_zero, List.set_cons_succ])
  go_cut [46] (fun v46 wc => ∃ (kq : Nat) (x46_11 : Bool), v46 = .bool x46_11 ∧ Aside0 (laws_FnExactTouchPairs.j0 kq l1 t269 t272 t273 t279 t282 x46_11 a0_0 a0_1 a0_2 = some r) ∧ Aside0 (kq ≤ k) ∧ Aside0 (Kd.R k82 82 wc w.heap.size (fun k_ => some k_ ≠ (v280 : Value).ownBlock) v270 t269) ∧ Aside0 (Kd.R k38 38 wc w.heap.size (fun _ => True) (.slice Ao22 t273.length co22) t273) ∧ Aside0 (Kd.R k82 82 wc w.heap.size (fun k_ => some k_ ≠ (v270 : Value).ownBlock) v280 t279) ∧ Aside0 (wc.heap[gb261]? = some (.cells (csBay a0_0 a0_1 a0_2) 26 (0, 0))) ∧ Aside0 (Below w.heap.size w wc))
  case first =>
   have H := HC12.out
   clear HC12
   replace H := Option.bind_eq_some_iff.mp H
   obtain ⟨t283, A240, H⟩ := H
   try dsimp only at H
   have A24 := am A240
   clear A240
   by_cases c25 : t283 = true
   ·subst c25
    rw [if_pos rfl] at H
    have H' := am H
    clear H
    obtain ⟨Ao26, co26, eo26⟩ := Kd.R_slice HO281.out
    subst eo26
    obtain ⟨Ao27, co27, eo27⟩ := Kd.R_slice HO271.out
    subst eo27
    go_wp2_with (first | ((with_reducible refine gate_callee (f := 56) rfl ?_); refine gL (some 40) Try.func56 #[.slice Ao26 t279.length co26, .slice Ao27 t269.length co27] ?_; (with_reducible refine (laws_eqInt64A2S.calls k _ _ t279 _ _ t269 true _ ?side1 ?side2 ?side3 ?side4 A24.out).mono ?_); (case side1 => repeat (first | exact (Kd.R_reads' HO281.out).2.2 | (with_reducible refine Kd.C_alloc ?_ _) | (with_reducible refine Kd.C_drewN ?_ _) | (with_reducible refine Kd.C_drew ?_))); (case side2 => exact (Kd.R_reads' HO281.out).2.1); (case side3 => repeat (first | exact (Kd.R_reads' HO271.out).2.2 | (with_reducible refine Kd.C_alloc ?_ _) | (with_reducible refine Kd.C_drewN ?_ _) | (with_reducible refine Kd.C_drew ?_))); (case side4 => exact (Kd.R_reads' HO271.out).2.1); rintro e w28 ⟨rfl, hb⟩; refine ⟨_, rfl, ?_⟩; replace HO268 := am (Kd.R_below (kr HO268) hb); replace HO271 := am (Kd.R_below (kr HO271) hb); replace HO275 := am (Kd.R_below (kr HO275) hb); replace HO281 := am (Kd.R_below (kr HO281) hb); replace BK261 := bB BK261 hb; replace HB := am (below_step (be HB) hb); (try clear hb); (try clear hb2); (try clear hk); (try clear hi)))
    go_meet
    case rel => exact ⟨_, ((t282 != t272)), vx, H', ⟨by first | omega | exact Nat.le_refl _⟩, ⟨by (with_reducible repeat (first | apply Kd.R_alloc | apply Kd.R_drewN | apply Kd.R_drew)); exact Kd.R_mono HO271.out (fun _ hk => hk.2)⟩, ⟨by (with_reducible repeat (first | apply Kd.R_alloc | apply Kd.R_drewN | apply Kd.R_drew)); exact Kd.R_mono HO275.out (fun _ hk => trivial)⟩, ⟨by (with_reducible repeat (first | apply Kd.R_alloc | apply Kd.R_drewN | apply Kd.R_drew)); exact Kd.R_mono HO281.out (fun _ hk => hk.2)⟩, ⟨kb BK261⟩, ⟨be HB⟩⟩
   ·replace c25 := Bool.eq_false_iff.mpr c25
    subst c25
    have H1 : (laws_FnExactTouchPairs.j0 k l1 t269 t272 t273 t279 t282 true a0_0 a0_1 a0_2) = some r := by rw [if_neg (show ¬ (false = true) by decide)] at H; exact H
    clear H
    have H := H1
    clear H1
    have H' := am H
    clear H
    obtain ⟨Ao29, co29, eo29⟩ := Kd.R_slice HO281.out
    subst eo29
    obtain ⟨Ao30, co30, eo30⟩ := Kd.R_slice HO271.out
    subst eo30
    go_wp2_with (first | ((with_reducible refine gate_callee (f := 56) rfl ?_); refine gL (some 40) Try.func56 #[.slice Ao29 t279.length co29, .slice Ao30 t269.length co30] ?_; (with_reducible refine (laws_eqInt64A2S.calls k _ _ t279 _ _ t269 false _ ?side1 ?side2 ?side3 ?side4 A24.out).mono ?_); (case side1 => repeat (first | exact (Kd.R_reads' HO281.out).2.2 | (with_reducible refine Kd.C_alloc ?_ _) | (with_reducible refine Kd.C_drewN ?_ _) | (with_reducible refine Kd.C_drew ?_))); (case side2 => exact (Kd.R_reads' HO281.out).2.1); (case side3 => repeat (first | exact (Kd.R_reads' HO271.out).2.2 | (with_reducible refine Kd.C_alloc ?_ _) | (with_reducible refine Kd.C_drewN ?_ _) | (with_reducible refine Kd.C_drew ?_))); (case side4 => exact (Kd.R_reads' HO271.out).2.1); rintro e w31 ⟨rfl, hb⟩; refine ⟨_, rfl, ?_⟩; replace HO268 := am (Kd.R_below (kr HO268) hb); replace HO271 := am (Kd.R_below (kr HO271) hb); replace HO275 := am (Kd.R_below (kr HO275) hb); replace HO281 := am (Kd.R_below (kr HO281) hb); replace BK261 := bB BK261 hb; replace HB := am (below_step (be HB) hb); (try clear hb); (try clear hb2); (try clear hk); (try clear hi)))
    go_meet
    case rel => exact ⟨_, (true), vx, H', ⟨by first | omega | exact Nat.le_refl _⟩, ⟨by (with_reducible repeat (first | apply Kd.R_alloc | apply Kd.R_drewN | apply Kd.R_drew)); exact Kd.R_mono HO271.out (fun _ hk => hk.2)⟩, ⟨by (with_reducible repeat (first | apply Kd.R_alloc | apply Kd.R_drewN | apply Kd.R_drew)); exact Kd.R_mono HO275.out (fun _ hk => trivial)⟩, ⟨by (with_reducible repeat (first | apply Kd.R_alloc | apply Kd.R_drewN | apply Kd.R_drew)); exact Kd.R_mono HO281.out (fun _ hk => hk.2)⟩, ⟨kb BK261⟩, ⟨be HB⟩⟩
  case rest =>
   clear HC12
   try clear c1
   try clear c2
   try clear p2
   try clear c3
   try clear c4
   try clear c4b0
   try clear c5
   try clear c13
   try clear c25
   try clear c26
   try clear c31
   try clear hcz14_0
   try clear hcz14_1
   try clear hcz20_0
   try clear hcz20_1
   try clear hfz14_0
   try clear hfz14_1
   try clear hfz14_2
   try clear hfz20_0
   try clear hfz20_1
   try clear hfz20_2
   obtain ⟨kq, x46_11, rfl, HA, HJ11, HO_6, HO_8, HO_9, BK261, HB⟩ := hcut
   cases kq with
   | zero => exact absurd HA.out (by simp [laws_FnExactTouchPairs.j0])
   | succ kj11 =>
    have H := HA.out
    clear HA
    simp only [laws_FnExactTouchPairs.j0] at H
    by_cases c32 : x46_11 = true
    ·subst c32
     rw [if_pos rfl] at H
     obtain rfl := Option.some.inj H
     go_wp2
     go_ret
     exact ⟨by first | rfl | (simp [errW_none, errW_some] <;> rfl) | (simp [*, errW_none, errW_some] <;> rfl), be HB⟩
    ·replace c32 := Bool.eq_false_iff.mpr c32
     subst c32
     have H1 : ((laws_toBoatS.f kj11 l1).bind fun t284 => ((laws_eqBoatS.f kj11 t273 t284).bind fun t287 => (if t287 = true then ((laws_markBoatS.f kj11 t273 1).bind fun bt288 => (if bt288.1 < 0 then (laws_FnExactTouchPairs.j1 kj11 l1 t269 t272 t279 true a0_0 a0_1 a0_2) else ((laws_eqInt64A2S.f kj11 t279 t269).bind fun t290 => (if t290 = true then (laws_FnExactTouchPairs.j1 kj11 l1 t269 t272 t279 (t282 != t272) a0_0 a0_1 a0_2) else (laws_FnExactTouchPairs.j1 kj11 l1 t269 t272 t279 true a0_0 a0_1 a0_2))))) else (some false)))) = some r := by rw [if_neg (show ¬ (false = true) by decide)] at H; exact H
     clear H
     have H := H1
     clear H1
     replace H := Option.bind_eq_some_iff.mp H
     obtain ⟨t284, A330, H⟩ := H
     try dsimp only at H
     have A33 := am A330
     clear A330
     replace H := Option.bind_eq_some_iff.mp H
     obtain ⟨t287, A340, H⟩ := H
     try dsimp only at H
     have A34 := am A340
     clear A340
     by_cases c35 : t287 = true
     ·subst c35
      rw [if_pos rfl] at H
      replace H := Option.bind_eq_some_iff.mp H
      obtain ⟨⟨t288, t289⟩, A360, H⟩ := H
      try dsimp only at H
      have A36 := am A360
      clear A360
      have HC37 := am H
      clear H
      go_upto_region 14 with (first | ((with_reducible refine gate_callee (f := 33) rfl ?_); refine gL (some 49) Try.func33 #[.slice A1 l1.length c1] ?_; (with_reducible refine (laws_toBoatS.calls kj11 _ _ l1 t284 _ ?side1 ?side2 A33.out).mono ?_); (case side1 => repeat (first | exact (Kd.C_below HR1.out HB.out) | (with_reducible refine Kd.C_alloc ?_ _) | (with_reducible refine Kd.C_drewN ?_ _) | (with_reducible refine Kd.C_drew ?_))); (case side2 => exact HC1.out); rintro e w38 ⟨v285, rfl, ho0, hb⟩; refine ⟨_, rfl, ?_⟩; have HO286 := am (Kd.R_lower (Kd.R_new' ho0 (Kd.R_lt (kr HO_8))) (below_size (be HB))); replace HO_6 := am (Kd.R_below (kr HO_6) hb); replace HO_8 := am (Kd.R_elder' (kr HO_8) (Kd.R_base ho0) hb); replace HO_9 := am (Kd.R_below (kr HO_9) hb); replace BK261 := bB BK261 hb; replace HB := am (below_step (be HB) hb); (try clear hb); (try clear hb2); (try clear hk); (try clear hi); (try clear ho0); obtain ⟨Ao39, co39, eo39⟩ := Kd.R_slice HO286.out; subst eo39) | ((with_reducible refine gate_callee (f := 35) rfl ?_); refine gL (some 50) Try.func35 #[.slice Ao22 t273.length co22, .slice Ao39 t284.length co39] ?_; (with_reducible refine (laws_eqBoatS.calls kj11 _ _ t273 _ _ t284 true _ ?side1 ?side2 ?side3 ?side4 A34.out).mono ?_); (case side1 => repeat (first | exact (Kd.R_reads' HO_8.out).2.2 | (with_reducible refine Kd.C_alloc ?_ _) | (with_reducible refine Kd.C_drewN ?_ _) | (with_reducible refine Kd.C_drew ?_))); (case side2 => exact (Kd.R_reads' HO_8.out).2.1); (case side3 => repeat (first | exact (Kd.R_reads' HO286.out).2.2 | (with_reducible refine Kd.C_alloc ?_ _) | (with_reducible refine Kd.C_drewN ?_ _) | (with_reducible refine Kd.C_drew ?_))); (case side4 => exact (Kd.R_reads' HO286.out).2.1); rintro e w40 ⟨rfl, hb⟩; refine ⟨_, rfl, ?_⟩; replace HO_6 := am (Kd.R_below (kr HO_6) hb); replace HO_8 := am (Kd.R_below (kr HO_8) hb); replace HO_9 := am (Kd.R_below (kr HO_9) hb); replace HO286 := am (Kd.R_below (kr HO286) hb); replace BK261 := bB BK261 hb; replace HB := am (below_step (be HB) hb); (try clear hb); (try clear hb2); (try clear hk); (try clear hi)) | ((with_reducible refine gate_callee (f := 57) rfl ?_); refine gL (some 54) Try.func57 #[.slice Ao22 t273.length co22, .int .i64 1] ?_; (with_reducible refine (laws_markBoatS.calls kj11 (fun k_ => some k_ = (.slice Ao22 t273.length co22 : Value).ownBlock) (.slice Ao22 t273.length co22) t273 1 t288 t289 w _ ?side1 ?side2 A36.out).mono ?_); (case side1 => exact be HB); (case side2 => exact Kd.R_tight rfl HO_8.out); rintro e w41 ⟨rfl, hy0, hb, hkp⟩; refine ⟨_, rfl, ?_⟩; replace HO_6 := am (Kd.R_mono (ok' := fun k_ => some k_ ≠ (v280 : Value).ownBlock) (Kd.R_keptB ((Kd.R_apart' HO_6.out (Kd.R_typed HO_8.out) (by decide))) hkp (fun k_ hk_ hs_ => (hk_.2) hs_)) (fun k_ hk_ => hk_.1.1)); replace HO_9 := am (Kd.R_mono (ok' := fun k_ => some k_ ≠ (v270 : Value).ownBlock) (Kd.R_keptB ((Kd.R_apart' HO_9.out (Kd.R_typed HO_8.out) (by decide))) hkp (fun k_ hk_ hs_ => (hk_.2) hs_)) (fun k_ hk_ => hk_.1.1)); replace BK261 := am (blk_kept (kb BK261) hkp (fun hs_ => (fun e_ => (Kd.R_ne HO_8.out BK261.out (by decide)) e_) hs_)); replace HO_8 := am (Kd.R_reok rfl hy0 (fun k_ e_ => HO_8.out.1 k_ e_)); replace HO286 := am (Kd.R_mono (ok' := fun k_ => some k_ ≠ (.slice Ao22 t273.length co22 : Value).ownBlock) (Kd.R_keptB (HO286.out) hkp (fun k_ hk_ hs_ => (hk_.2) hs_)) (fun k_ hk_ => hk_.1.2)); replace HB := am (hb); (try clear hb); (try clear hkp); (try clear hy0)))
      (try simp only [Act.put, List.setIfInBounds_toArray, List.set_cons_zero, List.set_cons_succ])
      go_cut [67] (fun v67 wc => ∃ (kq : Nat) (x67_36 : Bool), v67 = .bool x67_36 ∧ Aside0 (laws_FnExactTouchPairs.j1 kq l1 t269 t272 t279 x67_36 a0_0 a0_1 a0_2 = some r) ∧ Aside0 (kq ≤ kj11) ∧ Aside0 (Kd.R k82 82 wc w.heap.size (fun k_ => some k_ ≠ (v280 : Value).ownBlock) v270 t269) ∧ Aside0 (Kd.R k82 82 wc w.heap.size (fun k_ => some k_ ≠ (v270 : Value).ownBlock) v280 t279) ∧ Aside0 (wc.heap[gb261]? = some (.cells (csBay a0_0 a0_1 a0_2) 26 (0, 0))) ∧ Aside0 (Below w.heap.size w wc))
      case first =>
       have H := HC37.out
       clear HC37
       by_cases c42 : t288 < 0
       ·rw [if_pos c42] at H
        have c42b0 : decide (t288 < 0) = true := decide_eq_true c42
        clear c42
        (first | rw [c42b0] | (simp only [i64_w, i32_w]; rw [c42b0]) | skip)
        have H' := am H
        clear H
        go_wp2
        go_meet
        case rel => exact ⟨_, (true), vx, H', ⟨by have := HJ11.out; first | omega | exact Nat.le_refl _⟩, ⟨kr HO_6⟩, ⟨kr HO_9⟩, ⟨kb BK261⟩, ⟨be HB⟩⟩
       ·rw [if_neg c42] at H
        have c42b0 : decide (t288 < 0) = false := decide_eq_false c42
        clear c42
        (first | rw [c42b0] | (simp only [i64_w, i32_w]; rw [c42b0]) | skip)
        replace H := Option.bind_eq_some_iff.mp H
        obtain ⟨t290, A430, H⟩ := H
        try dsimp only at H
        have A43 := am A430
        clear A430
        by_cases c44 : t290 = true
        ·subst c44
         rw [if_pos rfl] at H
         have H' := am H
         clear H
         obtain ⟨Ao45, co45, eo45⟩ := Kd.R_slice HO_9.out
         subst eo45
         obtain ⟨Ao46, co46, eo46⟩ := Kd.R_slice HO_6.out
         subst eo46
         go_wp2_with (first | (go_at_call 56; (with_reducible refine (laws_eqInt64A2S.calls kj11 _ _ t279 _ _ t269 true _ ?side1 ?side2 ?side3 ?side4 A43.out).mono ?_); (case side1 => repeat (first | exact (Kd.R_reads' HO_9.out).2.2 | (with_reducible refine Kd.C_alloc ?_ _) | (with_reducible refine Kd.C_drewN ?_ _) | (with_reducible refine Kd.C_drew ?_))); (case side2 => exact (Kd.R_reads' HO_9.out).2.1); (case side3 => repeat (first | exact (Kd.R_reads' HO_6.out).2.2 | (with_reducible refine Kd.C_alloc ?_ _) | (with_reducible refine Kd.C_drewN ?_ _) | (with_reducible refine Kd.C_drew ?_))); (case side4 => exact (Kd.R_reads' HO_6.out).2.1); rintro e w47 ⟨rfl, hb⟩; replace HO_6 := am (Kd.R_below (kr HO_6) hb); replace HO_8 := am (Kd.R_below (kr HO_8) hb); replace HO_9 := am (Kd.R_below (kr HO_9) hb); replace HO286 := am (Kd.R_below (kr HO286) hb); replace BK261 := bB BK261 hb; replace HB := am (below_step (be HB) hb); (try clear hb); (try clear hb2); (try clear hk); (try clear hi)))
         go_meet
         case rel => exact ⟨_, ((t282 != t272)), vx, H', ⟨by have := HJ11.out; first | omega | exact Nat.le_refl _⟩, ⟨kr HO_6⟩, ⟨kr HO_9⟩, ⟨kb BK261⟩, ⟨be HB⟩⟩
        ·replace c44 := Bool.eq_false_iff.mpr c44
         subst c44
         have H1 : (laws_FnExactTouchPairs.j1 kj11 l1 t269 t272 t279 true a0_0 a0_1 a0_2) = some r := by rw [if_neg (show ¬ (false = true) by decide)] at H; exact H
         clear H
         have H := H1
         clear H1
         have H' := am H
         clear H
         obtain ⟨Ao48, co48, eo48⟩ := Kd.R_slice HO_9.out
         subst eo48
         obtain ⟨Ao49, co49, eo49⟩ := Kd.R_slice HO_6.out
         subst eo49
         go_wp2_with (first | (go_at_call 56; (with_reducible refine (laws_eqInt64A2S.calls kj11 _ _ t279 _ _ t269 false _ ?side1 ?side2 ?side3 ?side4 A43.out).mono ?_); (case side1 => repeat (first | exact (Kd.R_reads' HO_9.out).2.2 | (with_reducible refine Kd.C_alloc ?_ _) | (with_reducible refine Kd.C_drewN ?_ _) | (with_reducible refine Kd.C_drew ?_))); (case side2 => exact (Kd.R_reads' HO_9.out).2.1); (case side3 => repeat (first | exact (Kd.R_reads' HO_6.out).2.2 | (with_reducible refine Kd.C_alloc ?_ _) | (with_reducible refine Kd.C_drewN ?_ _) | (with_reducible refine Kd.C_drew ?_))); (case side4 => exact (Kd.R_reads' HO_6.out).2.1); rintro e w50 ⟨rfl, hb⟩; replace HO_6 := am (Kd.R_below (kr HO_6) hb); replace HO_8 := am (Kd.R_below (kr HO_8) hb); replace HO_9 := am (Kd.R_below (kr HO_9) hb); replace HO286 := am (Kd.R_below (kr HO286) hb); replace BK261 := bB BK261 hb; replace HB := am (below_step (be HB) hb); (try clear hb); (try clear hb2); (try clear hk); (try clear hi)))
         go_meet
         case rel => exact ⟨_, (true), vx, H', ⟨by have := HJ11.out; first | omega | exact Nat.le_refl _⟩, ⟨kr HO_6⟩, ⟨kr HO_9⟩, ⟨kb BK261⟩, ⟨be HB⟩⟩
      case rest =>
       clear HC37
       try clear c1
       try clear c2
       try clear p2
       try clear c3
       try clear c4
       try clear c4b0
       try clear c5
       try clear c13
       try clear c25
       try clear c26
       try clear c31
       try clear c32
       try clear c33
       try clear c35
       try clear c42
       try clear c42b0
       try clear c44
       try clear hcz14_0
       try clear hcz14_1
       try clear hcz20_0
       try clear hcz20_1
       try clear hfz14_0
       try clear hfz14_1
       try clear hfz14_2
       try clear hfz20_0
       try clear hfz20_1
       try clear hfz20_2
       try clear p2
       obtain ⟨kq, x67_36, rfl, HA, HJ36, HO_6, HO_9, BK261, HB⟩ := hcut
       cases kq with
       | zero => exact absurd HA.out (by simp [laws_FnExactTouchPairs.j1])
       | succ kj36 =>
        have H := HA.out
        clear HA
        simp only [laws_FnExactTouchPairs.j1] at H
        by_cases c51 : x67_36 = true
        ·subst c51
         rw [if_pos rfl] at H
         obtain rfl := Option.some.inj H
         go_wp2
         go_ret
         exact ⟨by first | rfl | (simp [errW_none, errW_some] <;> rfl) | (simp [*, errW_none, errW_some] <;> rfl), be HB⟩
        ·replace c51 := Bool.eq_false_iff.mpr c51
         subst c51
         have H1 : ((laws_markInt64A2S.f kj36 t279 1).bind fun bt291 => ((laws_heldInt64A2S.f kj36 bt291.2 1).bind fun t293 => (if t293 < 0 then (some false) else (if t293 = bt291.1 then ((laws_toBay.f a0_0 a0_1 a0_2).bind fun bt294 => ((laws_toBoatS.f kj36 l1).bind fun t297 => ((impl_TouchPairs.f kj36 bt294.1 bt294.2.1 bt294.2.2 t297).bind fun bt300 => ((laws_eqInt64A2S.f kj36 bt300.1 t269).bind fun t304 => (if t304 = true then (laws_FnExactTouchPairs.j2 kj36 bt291.2 bt291.1 (bt300.2 != t272)) else (laws_FnExactTouchPairs.j2 kj36 bt291.2 bt291.1 true)))))) else (some false))))) = some r := by rw [if_neg (show ¬ (false = true) by decide)] at H; exact H
         clear H
         have H := H1
         clear H1
         replace H := Option.bind_eq_some_iff.mp H
         obtain ⟨⟨t291, t292⟩, A520, H⟩ := H
         try dsimp only at H
         have A52 := am A520
         clear A520
         replace H := Option.bind_eq_some_iff.mp H
         obtain ⟨t293, A530, H⟩ := H
         try dsimp only at H
         have A53 := am A530
         clear A530
         by_cases c54 : t293 < 0
         ·rw [if_pos c54] at H
          have c54b0 : decide (t293 < 0) = true := decide_eq_true c54
          clear c54
          obtain rfl := Option.some.inj H
          obtain ⟨Ao55, co55, eo55⟩ := Kd.R_slice HO_9.out
          subst eo55
          go_wp2_with (first | ((with_reducible refine gate_callee (f := 58) rfl ?_); refine gL (some 70) Try.func58 #[.slice Ao55 t279.length co55, .int .i64 1] ?_; (with_reducible refine (laws_markInt64A2S.calls kj36 (fun k_ => some k_ = (.slice Ao55 t279.length co55 : Value).ownBlock) (.slice Ao55 t279.length co55) t279 1 t291 t292 w _ ?side1 ?side2 A52.out).mono ?_); (case side1 => exact be HB); (case side2 => exact Kd.R_tight rfl HO_9.out); rintro e w56 ⟨rfl, hy0, hb, hkp⟩; refine ⟨_, rfl, ?_⟩; replace HO_6 := am (Kd.R_mono (ok' := fun k_ => some k_ ≠ (.slice Ao55 t279.length co55 : Value).ownBlock) (Kd.R_keptB (HO_6.out) hkp (fun k_ hk_ hs_ => (hk_) hs_)) (fun k_ hk_ => hk_.1)); replace BK261 := am (blk_kept (kb BK261) hkp (fun hs_ => (fun e_ => (Kd.R_ne HO_9.out BK261.out (by decide)) e_) hs_)); replace HO_9 := am (Kd.R_reok rfl hy0 (fun k_ e_ => HO_9.out.1 k_ e_)); replace HB := am (hb); (try clear hb); (try clear hkp); (try clear hy0)) | ((with_reducible refine gate_callee (f := 59) rfl ?_); refine goesL_ (some 73) rfl rfl Try.func59 (by kernel_rfl) rfl #[.slice Ao55 t292.length co55, .int .i64 1] rfl (by (try simp only [List.map_toArray, List.map_cons, List.map_nil]); first | done | (rw [show t292.length = t279.length from (Kd.R_reads' HO_9.out).1.symm] <;> rfl) | rfl | (simp only [List.length_drop, List.length_take]; rfl)) ?_; (with_reducible refine (laws_heldInt64A2S.calls kj36 _ _ t292 1 t293 _ ?side1 ?side2 A53.out).mono ?_); (case side1 => repeat (first | exact (Kd.R_reads' HO_9.out).2.2 | (with_reducible refine Kd.C_alloc ?_ _) | (with_reducible refine Kd.C_drewN ?_ _) | (with_reducible refine Kd.C_drew ?_))); (case side2 => rw [show t292.length = t279.length from (Kd.R_reads' HO_9.out).1.symm]; exact (Kd.R_reads' HO_9.out).2.1); rintro e w' ⟨rfl, ⟨nd, rfl⟩⟩; refine ⟨_, rfl, ?_⟩))
          go_ret
          exact ⟨by first | rfl | (simp [errW_none, errW_some] <;> rfl) | (simp [*, errW_none, errW_some] <;> rfl), be HB⟩
         ·rw [if_neg c54] at H
          have c54b0 : decide (t293 < 0) = false := decide_eq_false c54
          clear c54
          by_cases c57 : t293 = t291
          ·rw [if_pos c57] at H
           have c57b0 : (t293 == t291) = true := beq_iff_eq.mpr c57
           have c57b1 : (t293 != t291) = false := bne_eq_false_iff_eq.mpr c57
           clear c57
           replace H := Option.bind_eq_some_iff.mp H
           obtain ⟨⟨t294, t295, t296⟩, A580, H⟩ := H
           try dsimp only at H
           have A58 := am A580
           clear A580
           replace H := Option.bind_eq_some_iff.mp H
           obtain ⟨t297, A590, H⟩ := H
           try dsimp only at H
           have A59 := am A590
           clear A590
           replace H := Option.bind_eq_some_iff.mp H
           obtain ⟨⟨t300, t303⟩, A600, H⟩ := H
           try dsimp only at H
           have A60 := am A600
           clear A600
           have HC61 := am H
           clear H
           obtain ⟨Ao62, co62, eo62⟩ := Kd.R_slice HO_9.out
           subst eo62
           go_upto_region 25 with (first | ((with_reducible refine gate_callee (f := 58) rfl ?_); refine gL (some 70) Try.func58 #[.slice Ao62 t279.length co62, .int .i64 1] ?_; (with_reducible refine (laws_markInt64A2S.calls kj36 (fun k_ => some k_ = (.slice Ao62 t279.length co62 : Value).ownBlock) (.slice Ao62 t279.length co62) t279 1 t291 t292 w _ ?side1 ?side2 A52.out).mono ?_); (case side1 => exact be HB); (case side2 => exact Kd.R_tight rfl HO_9.out); rintro e w63 ⟨rfl, hy0, hb, hkp⟩; refine ⟨_, rfl, ?_⟩; replace HO_6 := am (Kd.R_mono (ok' := fun k_ => some k_ ≠ (.slice Ao62 t279.length co62 : Value).ownBlock) (Kd.R_keptB (HO_6.out) hkp (fun k_ hk_ hs_ => (hk_) hs_)) (fun k_ hk_ => hk_.1)); replace BK261 := am (blk_kept (kb BK261) hkp (fun hs_ => (fun e_ => (Kd.R_ne HO_9.out BK261.out (by decide)) e_) hs_)); replace HO_9 := am (Kd.R_reok rfl hy0 (fun k_ e_ => HO_9.out.1 k_ e_)); replace HB := am (hb); (try clear hb); (try clear hkp); (try clear hy0)) | ((with_reducible refine gate_callee (f := 59) rfl ?_); refine goesL_ (some 73) rfl rfl Try.func59 (by kernel_rfl) rfl #[.slice Ao62 t292.length co62, .int .i64 1] rfl (by (try simp only [List.map_toArray, List.map_cons, List.map_nil]); first | done | (rw [show t292.length = t279.length from (Kd.R_reads' HO_9.out).1.symm] <;> rfl) | rfl | (simp only [List.length_drop, List.length_take]; rfl)) ?_; (with_reducible refine (laws_heldInt64A2S.calls kj36 _ _ t292 1 t293 _ ?side1 ?side2 A53.out).mono ?_); (case side1 => repeat (first | exact (Kd.R_reads' HO_9.out).2.2 | (with_reducible refine Kd.C_alloc ?_ _) | (with_reducible refine Kd.C_drewN ?_ _) | (with_reducible refine Kd.C_drew ?_))); (case side2 => rw [show t292.length = t279.length from (Kd.R_reads' HO_9.out).1.symm]; exact (Kd.R_reads' HO_9.out).2.1); rintro e w' ⟨rfl, ⟨nd, rfl⟩⟩; refine ⟨_, rfl, ?_⟩; have hcz64_0 : w63.cell? ⟨gb261, 0, none⟩ = some (.int .i8 a0_0) := (blk_cell BK261.out 0).trans rfl; have hcz64_1 : w63.cell? ⟨gb261, 1, none⟩ = some (.int .i8 a0_1) := (blk_cell BK261.out 1).trans rfl; have hwz64 := lv26_at BK261.out; have haz64 := at_cells BK261.out; have hyz64 := BayAt26_of BK261.out; have hvz64 := lvv_of BK261.out; have hfz64_0 := blk_frozen BK261.out 0; have hfz64_1 := blk_frozen BK261.out 1; have hfz64_2 := blk_frozen BK261.out 2) | ((with_reducible refine gate_callee (f := 26) rfl ?_); refine gL (some 81) Try.func26 #[.agg (csBay a0_0 a0_1 a0_2)] ?_; (with_reducible refine (laws_toBay.calls a0_0 a0_1 a0_2 t294 t295 t296 _ A58.out).mono ?_); rintro e w65 ⟨rfl, hb⟩; refine ⟨_, rfl, ?_⟩; replace HO_6 := am (Kd.R_below (kr HO_6) hb); replace HO_9 := am (Kd.R_below (kr HO_9) hb); replace BK261 := bB BK261 hb; replace HB := am (below_step (be HB) hb); (try clear hb); (try clear hb2); (try clear hk); (try clear hi)) | ((with_reducible refine gate_callee (f := 33) rfl ?_); refine gL (some 83) Try.func33 #[.slice A1 l1.length c1] ?_; (with_reducible refine (laws_toBoatS.calls kj36 _ _ l1 t297 _ ?side1 ?side2 A59.out).mono ?_); (case side1 => repeat (first | exact (Kd.C_below HR1.out HB.out) | (with_reducible refine Kd.C_alloc ?_ _) | (with_reducible refine Kd.C_drewN ?_ _) | (with_reducible refine Kd.C_drew ?_))); (case side2 => exact HC1.out); rintro e w66 ⟨v298, rfl, ho0, hb⟩; refine ⟨_, rfl, ?_⟩; have HO299 := am (Kd.R_lower ho0 (below_size (be HB))); replace HO_6 := am (Kd.R_below (kr HO_6) hb); replace HO_9 := am (Kd.R_below (kr HO_9) hb); replace BK261 := bB BK261 hb; replace HB := am (below_step (be HB) hb); (try clear hb); (try clear hb2); (try clear hk); (try clear hi); (try clear ho0); obtain ⟨Ao67, co67, eo67⟩ := Kd.R_slice HO299.out; subst eo67) | ((with_reducible refine gate_callee (f := 55) rfl ?_); refine gL (some 84) Try.func55 #[.agg (csBay t294 t295 t296), .slice Ao67 t297.length co67] ?_; (with_reducible refine (impl_TouchPairs.calls kj36 t294 t295 t296 _ _ t297 t300 t303 _ ?side1 ?side2 A60.out).mono ?_); (case side1 => repeat (first | exact (Kd.R_reads' HO299.out).2.2 | (with_reducible refine Kd.C_alloc ?_ _) | (with_reducible refine Kd.C_drewN ?_ _) | (with_reducible refine Kd.C_drew ?_))); (case side2 => exact (Kd.R_reads' HO299.out).2.1); rintro e w68 ⟨v301, rfl, ho0, hb⟩; refine ⟨_, rfl, ?_⟩; have HO302 := am (Kd.R_lower (Kd.R_new' (Kd.R_new' ho0 (Kd.R_lt (kr HO_6))) (Kd.R_lt (kr HO_9))) (below_size (be HB))); replace HO_6 := am (Kd.R_elder' (kr HO_6) (Kd.R_base ho0) hb); replace HO_9 := am (Kd.R_elder' (kr HO_9) (Kd.R_base ho0) hb); replace HO299 := am (Kd.R_below (kr HO299) hb); replace BK261 := bB BK261 hb; replace HB := am (below_step (be HB) hb); (try clear hb); (try clear hb2); (try clear hk); (try clear hi); (try clear ho0)))
           (try simp only [Act.put, List.setIfInBounds_toArray, List.set_cons_zero, List.set_cons_succ])
           go_cut [95] (fun v95 wc => ∃ (kq : Nat) (x95_60 : Bool), v95 = .bool x95_60 ∧ Aside0 (laws_FnExactTouchPairs.j2 kq t292 t291 x95_60 = some r) ∧ Aside0 (kq ≤ kj36) ∧ Aside0 (Kd.R k82 82 wc w.heap.size (fun _ => True) (.slice Ao62 t279.length co62) t292) ∧ Aside0 (wc.heap[gb261]? = some (.cells (csBay a0_0 a0_1 a0_2) 26 (0, 0))) ∧ Aside0 (Below w.heap.size w wc))
           case first =>
            have H := HC61.out
            clear HC61
            replace H := Option.bind_eq_some_iff.mp H
            obtain ⟨t304, A690, H⟩ := H
            try dsimp only at H
            have A69 := am A690
            clear A690
            by_cases c70 : t304 = true
            ·subst c70
             rw [if_pos rfl] at H
             have H' := am H
             clear H
             obtain ⟨Ao71, co71, eo71⟩ := Kd.R_slice HO302.out
             subst eo71
             obtain ⟨Ao72, co72, eo72⟩ := Kd.R_slice HO_6.out
             subst eo72
             go_wp2_with (first | ((with_reducible refine gate_callee (f := 56) rfl ?_); refine gL (some 89) Try.func56 #[.slice Ao71 t300.length co71, .slice Ao72 t269.length co72] ?_; (with_reducible refine (laws_eqInt64A2S.calls kj36 _ _ t300 _ _ t269 true _ ?side1 ?side2 ?side3 ?side4 A69.out).mono ?_); (case side1 => repeat (first | exact (Kd.R_reads' HO302.out).2.2 | (with_reducible refine Kd.C_alloc ?_ _) | (with_reducible refine Kd.C_drewN ?_ _) | (with_reducible refine Kd.C_drew ?_))); (case side2 => exact (Kd.R_reads' HO302.out).2.1); (case side3 => repeat (first | exact (Kd.R_reads' HO_6.out).2.2 | (with_reducible refine Kd.C_alloc ?_ _) | (with_reducible refine Kd.C_drewN ?_ _) | (with_reducible refine Kd.C_drew ?_))); (case side4 => exact (Kd.R_reads' HO_6.out).2.1); rintro e w73 ⟨rfl, hb⟩; refine ⟨_, rfl, ?_⟩; replace HO_6 := am (Kd.R_below (kr HO_6) hb); replace HO_9 := am (Kd.R_below (kr HO_9) hb); replace HO299 := am (Kd.R_below (kr HO299) hb); replace HO302 := am (Kd.R_below (kr HO302) hb); replace BK261 := bB BK261 hb; replace HB := am (below_step (be HB) hb); (try clear hb); (try clear hb2); (try clear hk); (try clear hi)))
             go_meet
             case rel => exact ⟨_, ((t303 != t272)), vx, H', ⟨by have := HJ11.out; have := HJ36.out; first | omega | exact Nat.le_refl _⟩, ⟨by (with_reducible repeat (first | apply Kd.R_alloc | apply Kd.R_drewN | apply Kd.R_drew)); exact Kd.R_mono HO_9.out (fun _ hk => trivial)⟩, ⟨kb BK261⟩, ⟨be HB⟩⟩
            ·replace c70 := Bool.eq_false_iff.mpr c70
             subst c70
             have H1 : (laws_FnExactTouchPairs.j2 kj36 t292 t291 true) = some r := by rw [if_neg (show ¬ (false = true) by decide)] at H; exact H
             clear H
             have H := H1
             clear H1
             have H' := am H
             clear H
             obtain ⟨Ao74, co74, eo74⟩ := Kd.R_slice HO302.out
             subst eo74
             obtain ⟨Ao75, co75, eo75⟩ := Kd.R_slice HO_6.out
             subst eo75
             go_wp2_with (first | ((with_reducible refine gate_callee (f := 56) rfl ?_); refine gL (some 89) Try.func56 #[.slice Ao74 t300.length co74, .slice Ao75 t269.length co75] ?_; (with_reducible refine (laws_eqInt64A2S.calls kj36 _ _ t300 _ _ t269 false _ ?side1 ?side2 ?side3 ?side4 A69.out).mono ?_); (case side1 => repeat (first | exact (Kd.R_reads' HO302.out).2.2 | (with_reducible refine Kd.C_alloc ?_ _) | (with_reducible refine Kd.C_drewN ?_ _) | (with_reducible refine Kd.C_drew ?_))); (case side2 => exact (Kd.R_reads' HO302.out).2.1); (case side3 => repeat (first | exact (Kd.R_reads' HO_6.out).2.2 | (with_reducible refine Kd.C_alloc ?_ _) | (with_reducible refine Kd.C_drewN ?_ _) | (with_reducible refine Kd.C_drew ?_))); (case side4 => exact (Kd.R_reads' HO_6.out).2.1); rintro e w76 ⟨rfl, hb⟩; refine ⟨_, rfl, ?_⟩; replace HO_6 := am (Kd.R_below (kr HO_6) hb); replace HO_9 := am (Kd.R_below (kr HO_9) hb); replace HO299 := am (Kd.R_below (kr HO299) hb); replace HO302 := am (Kd.R_below (kr HO302) hb); replace BK261 := bB BK261 hb; replace HB := am (below_step (be HB) hb); (try clear hb); (try clear hb2); (try clear hk); (try clear hi)))
             go_meet
             case rel => exact ⟨_, (true), vx, H', ⟨by have := HJ11.out; have := HJ36.out; first | omega | exact Nat.le_refl _⟩, ⟨by (with_reducible repeat (first | apply Kd.R_alloc | apply Kd.R_drewN | apply Kd.R_drew)); exact Kd.R_mono HO_9.out (fun _ hk => trivial)⟩, ⟨kb BK261⟩, ⟨be HB⟩⟩
           case rest =>
            clear HC61
            try clear c1
            try clear c2
            try clear p2
            try clear c3
            try clear c4
            try clear c4b0
            try clear c5
            try clear c7
            try clear c13
            try clear c25
            try clear c26
            try clear c31
            try clear c32
            try clear c33
            try clear c35
            try clear c42
            try clear c42b0
            try clear c44
            try clear c51
            try clear c54
            try clear c54b0
            try clear c55
            try clear c56
            try clear c57
            try clear c57b0
            try clear c57b1
            try clear c58
            try clear c59
            try clear c70
            try clear hcz14_0
            try clear hcz14_1
            try clear hcz20_0
            try clear hcz20_1
            try clear hcz64_0
            try clear hcz64_1
            try clear hfz14_0
            try clear hfz14_1
            try clear hfz14_2
            try clear hfz20_0
            try clear hfz20_1
            try clear hfz20_2
            try clear hfz64_0
            try clear hfz64_1
            try clear hfz64_2
            try clear p2
            obtain ⟨kq, x95_60, rfl, HA, HJ60, HO_9, BK261, HB⟩ := hcut
            have hl9_60 := (Kd.R_reads' HO_9.out).1
            rw [hl9_60] at HO_9
            (try simp only [hl9_60])
            (try simp only [hl9_60] at BK261)
            cases kq with
            | zero => exact absurd HA.out (by simp [laws_FnExactTouchPairs.j2])
            | succ kj60 =>
             have H := HA.out
             clear HA
             simp only [laws_FnExactTouchPairs.j2] at H
             by_cases c77 : x95_60 = true
             ·subst c77
              rw [if_pos rfl] at H
              obtain rfl := Option.some.inj H
              go_wp2
              go_ret
              exact ⟨by first | rfl | (simp [errW_none, errW_some] <;> rfl) | (simp [*, errW_none, errW_some] <;> rfl), be HB⟩
             ·replace c77 := Bool.eq_false_iff.mpr c77
              subst c77
              have H1 : ((laws_heldInt64A2S.f kj60 t292 1).bind fun t305 => (if t305 < 0 then (some false) else (if t305 = t291 then (some true) else (some false)))) = some r := by rw [if_neg (show ¬ (false = true) by decide)] at H; exact H
              clear H
              have H := H1
              clear H1
              replace H := Option.bind_eq_some_iff.mp H
              obtain ⟨t305, A780, H⟩ := H
              try dsimp only at H
              have A78 := am A780
              clear A780
              by_cases c79 : t305 < 0
              ·rw [if_pos c79] at H
               have c79b0 : decide (t305 < 0) = true := decide_eq_true c79
               clear c79
               obtain rfl := Option.some.inj H
               go_wp2_with (first | ((with_reducible refine gate_callee (f := 59) rfl ?_); refine gL (some 98) Try.func59 #[.slice Ao62 t292.length co62, .int .i64 1] ?_; (with_reducible refine (laws_heldInt64A2S.calls kj60 _ _ t292 1 t305 _ ?side1 ?side2 A78.out).mono ?_); (case side1 => repeat (first | exact (Kd.R_reads' HO_9.out).2.2 | (with_reducible refine Kd.C_alloc ?_ _) | (with_reducible refine Kd.C_drewN ?_ _) | (with_reducible refine Kd.C_drew ?_))); (case side2 => exact (Kd.R_reads' HO_9.out).2.1); rintro e w' ⟨rfl, ⟨nd, rfl⟩⟩; refine ⟨_, rfl, ?_⟩))
               go_ret
               exact ⟨by first | rfl | (simp [errW_none, errW_some] <;> rfl) | (simp [*, errW_none, errW_some] <;> rfl), be HB⟩
              ·rw [if_neg c79] at H
               have c79b0 : decide (t305 < 0) = false := decide_eq_false c79
               clear c79
               by_cases c80 : t305 = t291
               ·rw [if_pos c80] at H
                have c80b0 : (t305 == t291) = true := beq_iff_eq.mpr c80
                have c80b1 : (t305 != t291) = false := bne_eq_false_iff_eq.mpr c80
                clear c80
                obtain rfl := Option.some.inj H
                go_wp2_with (first | ((with_reducible refine gate_callee (f := 59) rfl ?_); refine gL (some 98) Try.func59 #[.slice Ao62 t292.length co62, .int .i64 1] ?_; (with_reducible refine (laws_heldInt64A2S.calls kj60 _ _ t292 1 t305 _ ?side1 ?side2 A78.out).mono ?_); (case side1 => repeat (first | exact (Kd.R_reads' HO_9.out).2.2 | (with_reducible refine Kd.C_alloc ?_ _) | (with_reducible refine Kd.C_drewN ?_ _) | (with_reducible refine Kd.C_drew ?_))); (case side2 => exact (Kd.R_reads' HO_9.out).2.1); rintro e w' ⟨rfl, ⟨nd, rfl⟩⟩; refine ⟨_, rfl, ?_⟩))
                go_ret
                exact ⟨by first | rfl | (simp [errW_none, errW_some] <;> rfl) | (simp [*, errW_none, errW_some] <;> rfl), be HB⟩
               ·rw [if_neg c80] at H
                have c80b0 : (t305 == t291) = false := beq_eq_false_iff_ne.mpr c80
                have c80b1 : (t305 != t291) = true := bne_iff_ne.mpr c80
                obtain rfl := Option.some.inj H
                go_wp2_with (first | ((with_reducible refine gate_callee (f := 59) rfl ?_); refine gL (some 98) Try.func59 #[.slice Ao62 t292.length co62, .int .i64 1] ?_; (with_reducible refine (laws_heldInt64A2S.calls kj60 _ _ t292 1 t305 _ ?side1 ?side2 A78.out).mono ?_); (case side1 => repeat (first | exact (Kd.R_reads' HO_9.out).2.2 | (with_reducible refine Kd.C_alloc ?_ _) | (with_reducible refine Kd.C_drewN ?_ _) | (with_reducible refine Kd.C_drew ?_))); (case side2 => exact (Kd.R_reads' HO_9.out).2.1); rintro e w' ⟨rfl, ⟨nd, rfl⟩⟩; refine ⟨_, rfl, ?_⟩))
                go_ret
                exact ⟨by first | rfl | (simp [errW_none, errW_some] <;> rfl) | (simp [*, errW_none, errW_some] <;> rfl), be HB⟩
          ·rw [if_neg c57] at H
           have c57b0 : (t293 == t291) = false := beq_eq_false_iff_ne.mpr c57
           have c57b1 : (t293 != t291) = true := bne_iff_ne.mpr c57
           obtain rfl := Option.some.inj H
           obtain ⟨Ao81, co81, eo81⟩ := Kd.R_slice HO_9.out
           subst eo81
           go_wp2_with (first | ((with_reducible refine gate_callee (f := 58) rfl ?_); refine gL (some 70) Try.func58 #[.slice Ao81 t279.length co81, .int .i64 1] ?_; (with_reducible refine (laws_markInt64A2S.calls kj36 (fun k_ => some k_ = (.slice Ao81 t279.length co81 : Value).ownBlock) (.slice Ao81 t279.length co81) t279 1 t291 t292 w _ ?side1 ?side2 A52.out).mono ?_); (case side1 => exact be HB); (case side2 => exact Kd.R_tight rfl HO_9.out); rintro e w82 ⟨rfl, hy0, hb, hkp⟩; refine ⟨_, rfl, ?_⟩; replace HO_6 := am (Kd.R_mono (ok' := fun k_ => some k_ ≠ (.slice Ao81 t279.length co81 : Value).ownBlock) (Kd.R_keptB (HO_6.out) hkp (fun k_ hk_ hs_ => (hk_) hs_)) (fun k_ hk_ => hk_.1)); replace BK261 := am (blk_kept (kb BK261) hkp (fun hs_ => (fun e_ => (Kd.R_ne HO_9.out BK261.out (by decide)) e_) hs_)); replace HO_9 := am (Kd.R_reok rfl hy0 (fun k_ e_ => HO_9.out.1 k_ e_)); replace HB := am (hb); (try clear hb); (try clear hkp); (try clear hy0)) | ((with_reducible refine gate_callee (f := 59) rfl ?_); refine goesL_ (some 73) rfl rfl Try.func59 (by kernel_rfl) rfl #[.slice Ao81 t292.length co81, .int .i64 1] rfl (by (try simp only [List.map_toArray, List.map_cons, List.map_nil]); first | done | (rw [show t292.length = t279.length from (Kd.R_reads' HO_9.out).1.symm] <;> rfl) | rfl | (simp only [List.length_drop, List.length_take]; rfl)) ?_; (with_reducible refine (laws_heldInt64A2S.calls kj36 _ _ t292 1 t293 _ ?side1 ?side2 A53.out).mono ?_); (case side1 => repeat (first | exact (Kd.R_reads' HO_9.out).2.2 | (with_reducible refine Kd.C_alloc ?_ _) | (with_reducible refine Kd.C_drewN ?_ _) | (with_reducible refine Kd.C_drew ?_))); (case side2 => rw [show t292.length = t279.length from (Kd.R_reads' HO_9.out).1.symm]; exact (Kd.R_reads' HO_9.out).2.1); rintro e w' ⟨rfl, ⟨nd, rfl⟩⟩; refine ⟨_, rfl, ?_⟩))
           go_ret
           exact ⟨by first | rfl | (simp [errW_none, errW_some] <;> rfl) | (simp [*, errW_none, errW_some] <;> rfl), be HB⟩
     ·replace c35 := Bool.eq_false_iff.mpr c35
      subst c35
      have H1 : (some false) = some r := by rw [if_neg (show ¬ (false = true) by decide)] at H; exact H
      clear H
      have H := H1
      clear H1
      obtain rfl := Option.some.inj H
      go_wp2_with (first | ((with_reducible refine gate_callee (f := 33) rfl ?_); refine gL (some 49) Try.func33 #[.slice A1 l1.length c1] ?_; (with_reducible refine (laws_toBoatS.calls kj11 _ _ l1 t284 _ ?side1 ?side2 A33.out).mono ?_); (case side1 => repeat (first | exact (Kd.C_below HR1.out HB.out) | (with_reducible refine Kd.C_alloc ?_ _) | (with_reducible refine Kd.C_drewN ?_ _) | (with_reducible refine Kd.C_drew ?_))); (case side2 => exact HC1.out); rintro e w83 ⟨v285, rfl, ho0, hb⟩; refine ⟨_, rfl, ?_⟩; have HO286 := am (Kd.R_lower (Kd.R_new' ho0 (Kd.R_lt (kr HO_8))) (below_size (be HB))); replace HO_6 := am (Kd.R_below (kr HO_6) hb); replace HO_8 := am (Kd.R_elder' (kr HO_8) (Kd.R_base ho0) hb); replace HO_9 := am (Kd.R_below (kr HO_9) hb); replace BK261 := bB BK261 hb; replace HB := am (below_step (be HB) hb); (try clear hb); (try clear hb2); (try clear hk); (try clear hi); (try clear ho0); obtain ⟨Ao84, co84, eo84⟩ := Kd.R_slice HO286.out; subst eo84) | ((with_reducible refine gate_callee (f := 35) rfl ?_); refine gL (some 50) Try.func35 #[.slice Ao22 t273.length co22, .slice Ao84 t284.length co84] ?_; (with_reducible refine (laws_eqBoatS.calls kj11 _ _ t273 _ _ t284 false _ ?side1 ?side2 ?side3 ?side4 A34.out).mono ?_); (case side1 => repeat (first | exact (Kd.R_reads' HO_8.out).2.2 | (with_reducible refine Kd.C_alloc ?_ _) | (with_reducible refine Kd.C_drewN ?_ _) | (with_reducible refine Kd.C_drew ?_))); (case side2 => exact (Kd.R_reads' HO_8.out).2.1); (case side3 => repeat (first | exact (Kd.R_reads' HO286.out).2.2 | (with_reducible refine Kd.C_alloc ?_ _) | (with_reducible refine Kd.C_drewN ?_ _) | (with_reducible refine Kd.C_drew ?_))); (case side4 => exact (Kd.R_reads' HO286.out).2.1); rintro e w85 ⟨rfl, hb⟩; refine ⟨_, rfl, ?_⟩; replace HO_6 := am (Kd.R_below (kr HO_6) hb); replace HO_8 := am (Kd.R_below (kr HO_8) hb); replace HO_9 := am (Kd.R_below (kr HO_9) hb); replace HO286 := am (Kd.R_below (kr HO286) hb); replace BK261 := bB BK261 hb; replace HB := am (below_step (be HB) hb); (try clear hb); (try clear hb2); (try clear hk); (try clear hi)))
      go_ret
      exact ⟨by first | rfl | (simp [errW_none, errW_some] <;> rfl) | (simp [*, errW_none, errW_some] <;> rfl), be HB⟩

end Go.Proofs.Ytcollbifdfhfoaa.PFnExactTouchPairs
