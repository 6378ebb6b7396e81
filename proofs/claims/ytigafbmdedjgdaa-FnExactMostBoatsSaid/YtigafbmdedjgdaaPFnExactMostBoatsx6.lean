-- Written by a program out of this seat's translation (functions, and that the code comes to them).
import Derived.Test.YtigafbmdedjgdaaPFnExactMostBoatsx0
import Derived.Test.YtigafbmdedjgdaaPFnExactMostBoatsx2
import Derived.Test.YtigafbmdedjgdaaPFnExactMostBoatsx5
namespace Go.Proofs.Ytigafbmdedjgdaa.PFnExactMostBoats
open Go.RowKit Go.Proofs.YtigafbmdedjgdaaW.PrintWords Go.Proofs.YtigafbmdedjgdaaW.PrintLast Go.Proofs.YtigafbmdedjgdaaW.PrintMore
attribute [local go_sem] max2_int min2_int max_two min_two max_three min_three max_four min_four   -- for this text's walks alone
open Go.Proofs.Ytigafbmdedjgdaa.Bay Go.Proofs.Ytigafbmdedjgdaa.Short
attribute [local go_sem ↓] lv26_eq lv32_eq
attribute [local go_sem] lvv_set lvv_drewN lvv_drew lv26_run BayAt26_set BayAt26_drewN BayAt26_drew lv32_run BayAt32_set BayAt32_drewN BayAt32_drew
set_option linter.unusedVariables false
set_option linter.unusedSimpArgs false

/-! ### spec_l01Right: function 24 -/
mutual
def spec_l01Right.l0 : Nat → List (S48) → Int → Int → Int → (Nat → Int) → Option (Bool × Int × Int × (Nat → Int))
 | 0, _, _, _, _, _ => none
 | k + 1, x1, x5, x1000, x1001, x1002 => if x5 < (x1.length : Int) then (if 0 ≤ x5 then ((spec_l01Safe.f k x1000 x1001 x1002 ((rd_T48 x1 x5).f0.f0) ((rd_T48 x1 x5).f0.f1) ((rd_T48 x1 x5).f1) ((rd_T48 x1 x5).f2) ((rd_T48 x1 x5).f3) ((rd_T48 x1 x5).f4)).bind fun bt192 => (if bt192.1 = true then (spec_l01Right.l1 k x1 x5 0 bt192.2.1 bt192.2.2.1 bt192.2.2.2) else (some (false, bt192.2.1, bt192.2.2.1, bt192.2.2.2)))) else (none)) else (some (true, x1000, x1001, x1002))
def spec_l01Right.l1 : Nat → List (S48) → Int → Int → Int → Int → (Nat → Int) → Option (Bool × Int × Int × (Nat → Int))
 | 0, _, _, _, _, _, _ => none
 | k + 1, x1, x5, x6, x1000, x1001, x1002 => if x6 < x5 then (if 0 ≤ x5 then (if x5 < (x1.length : Int) then (if 0 ≤ x6 then (if x6 < (x1.length : Int) then ((spec_l01Touch.f k x1000 x1001 x1002 ((rd_T48 x1 x5).f0.f0) ((rd_T48 x1 x5).f0.f1) ((rd_T48 x1 x5).f1) ((rd_T48 x1 x5).f2) ((rd_T48 x1 x5).f3) ((rd_T48 x1 x5).f4) ((rd_T48 x1 x6).f0.f0) ((rd_T48 x1 x6).f0.f1) ((rd_T48 x1 x6).f1) ((rd_T48 x1 x6).f2) ((rd_T48 x1 x6).f3) ((rd_T48 x1 x6).f4)).bind fun bt198 => (if bt198.1 = true then (some (false, bt198.2.1, bt198.2.2.1, bt198.2.2.2)) else (spec_l01Right.l1 k x1 x5 (wrap64 (x6 + 1)) bt198.2.1 bt198.2.2.1 bt198.2.2.2))) else (none)) else (none)) else (none)) else (none)) else (spec_l01Right.l0 k x1 (wrap64 (x5 + 1)) x1000 x1001 x1002)
end
def spec_l01Right.f (k : Nat) (s0_0 : Int) (s0_1 : Int) (s0_2 : (Nat → Int)) (l1 : List (S48)) : Option (Bool × Int × Int × (Nat → Int)) := spec_l01Right.l0 k l1 0 s0_0 s0_1 s0_2
def spec_l01Right.T9 : Bool × List (List Nat × List Nat) := (true, [([], []), ([], []), ([], []), ([1, 2], [1, 2]), ([3], [3]), ([], []), ([], []), ([5, 6], [5, 6]), ([7], [7]), ([0, 4, 8], [0, 4, 8])])
def spec_l01Right.B9 : List Nat := [0, 0, 0, 6, 14, 0, 0, 96, 224, 511]
theorem spec_l01Right.tab9 : rtab .any (opsOf Try.f24 9) = spec_l01Right.T9 := by kernel_rfl
theorem spec_l01Right.bits9 : waitsOk spec_l01Right.T9.2 spec_l01Right.B9 = true := by kernel_rfl
set_option maxHeartbeats 8000000 in
set_option maxRecDepth 100000 in
theorem spec_l01Right.calls (k : Nat) (g : Nat) (s0_0 : Int) (s0_1 : Int) (s0_2 : (Nat → Int)) (A1 : Option Addr) (c1 : Nat) (l1 : List (S48)) (r1 : Bool) (r2 : Int) (r3 : Int) (r4 : (Nat → Int)) (w0 w : World) (hI : IsS32 w0 w g s0_0 s0_1 s0_2) (hB : Below w0.heap.size w0 w) (hr1 : ∀ W_, KeepBut w W_ g none → Kd.C k48 W_ A1 l1.length l1) (hc1 : l1.length ≤ c1) (h : spec_l01Right.f k s0_0 s0_1 s0_2 l1 = some (r1, r2, r3, r4)) :
  Calls Try.prog 24 #[.pointer (some ⟨g, 0, none⟩), .slice A1 l1.length c1] w fun e w' => e = .returned (.bool r1) ∧ IsS32 w0 w' g r2 r3 r4 ∧ Below w0.heap.size w0 w' ∧ KeepBut w w' g none := by
 have hu48 := Try.underlying48
 have HR1 := am hr1
 have HC1 := am hc1
 clear hr1 hc1
 have HI0 := am hI
 have HK := am (KeepBut.refl w g none)
 have HL := am hB.size
 clear hI
 have HW0 := am hB.size
 have HB := am hB
 clear hB
 have H : (spec_l01Right.l0 k l1 0 s0_0 s0_1 s0_2) = some (r1, r2, r3, r4) := h
 clear h
 have H' := am H
 clear H
 go_enter Try.func24, Try.ntmps24
 go_wp2
 go_loopg [5] k (fun kq v5 w' => ∃ (x5_1 : Int) (x1000_1 : Int) (x1001_1 : Int) (x1002_1 : (Nat → Int)), v5 = .int .i64 x5_1 ∧ Aside0 (spec_l01Right.l0 kq l1 x5_1 x1000_1 x1001_1 x1002_1 = some (r1, r2, r3, r4)) ∧ Aside0 (kq ≤ k) ∧ Aside0 (IsS32 w0 w' g x1000_1 x1001_1 x1002_1) ∧ Aside0 (KeepBut w w' g none) ∧ Aside0 (Below w0.heap.size w0 w'))
 case atStart => exact ⟨(0), (s0_0), (s0_1), (s0_2), vv, H', ⟨Nat.le_refl _⟩, ⟨si32 HI0⟩, ⟨ke HK⟩, ⟨be HB⟩⟩
 case round =>
  clear H'
  try clear c1
  try clear c2
  try clear p2
  obtain ⟨x5_1, x1000_1, x1001_1, x1002_1, rfl, HA, HK1, HI0, HK, HB⟩ := hrel
  cases gk with
  | zero => exact absurd HA.out (by simp [spec_l01Right.l0])
  | succ k1 =>
   have H := HA.out
   clear HA
   simp only [spec_l01Right.l0] at H
   by_cases c3 : x5_1 < (l1.length : Int)
   ·rw [if_pos c3] at H
    have c3b0 : decide (x5_1 < (l1.length : Int)) = true := decide_eq_true c3
    clear c3
    by_cases c4 : 0 ≤ x5_1
    ·rw [if_pos c4] at H
     have c4b0 : decide (0 ≤ x5_1) = true := decide_eq_true c4
     have c4b1 : 0 ≤ x5_1 := c4
     clear c4
     replace H := Option.bind_eq_some_iff.mp H
     obtain ⟨⟨t192, t193, t194, t195⟩, A50, H⟩ := H
     try dsimp only at H
     have A5 := am A50
     clear A50
     by_cases c6 : t192 = true
     ·subst c6
      rw [if_pos rfl] at H
      have H' := am H
      clear H
      have p191 : 0 ≤ (x5_1 : Int) := of_decide_eq_true (by first | (with_reducible assumption) | assumption)
      have q191 : x5_1 < (l1.length : Int) := of_decide_eq_true (by first | (with_reducible assumption) | assumption)
      obtain ⟨ad191, e191, hx191_0, hx191_1, hx191_2, hx191_3, hx191_4, hx191_5⟩ := at_T48 (Kd.C_foot_now HR1.out HK.out) x5_1 p191 q191
      cases e191
      replace p191 := eq_true p191
      replace q191 := eq_true q191
      go_wp2_with (first | ((with_reducible refine gate_callee (f := 36) rfl ?_); refine gL (some 18) Try.func36 #[.pointer (some ⟨g, 0, none⟩), .agg #[.int .i8 ((rd_T48 l1 x5_1).f0.f0), .int .i8 ((rd_T48 l1 x5_1).f0.f1), .int .i8 ((rd_T48 l1 x5_1).f1), .int .i8 ((rd_T48 l1 x5_1).f2), .int .i8 ((rd_T48 l1 x5_1).f3), .int .i8 ((rd_T48 l1 x5_1).f4)]] ?_; (with_reducible refine (spec_l01Safe.calls k1 g x1000_1 x1001_1 x1002_1 ((rd_T48 l1 x5_1).f0.f0) ((rd_T48 l1 x5_1).f0.f1) ((rd_T48 l1 x5_1).f1) ((rd_T48 l1 x5_1).f2) ((rd_T48 l1 x5_1).f3) ((rd_T48 l1 x5_1).f4) true t193 t194 t195 w0 _ ?side1 ?side2 A5.out).mono ?_); (case side1 => exact si32 HI0); (case side2 => exact be HB); rintro e w7 ⟨rfl, hi, hb, hk⟩; refine ⟨_, rfl, ?_⟩; replace HK := am (KeepBut.trans (ke HK) hk (.inl rfl)); replace HB := am (hb); replace HI0 := am (hi); (try clear hb); (try clear hb2); (try clear hk); (try clear hi)))
      go_loopg [6] k1 (fun kq v6 w' => ∃ (x6_2 : Int) (x1000_2 : Int) (x1001_2 : Int) (x1002_2 : (Nat → Int)), v6 = .int .i64 x6_2 ∧ Aside0 (spec_l01Right.l1 kq l1 x5_1 x6_2 x1000_2 x1001_2 x1002_2 = some (r1, r2, r3, r4)) ∧ Aside0 (kq ≤ k1) ∧ Aside0 (IsS32 w0 w' g x1000_2 x1001_2 x1002_2) ∧ Aside0 (KeepBut w w' g none) ∧ Aside0 (Below w0.heap.size w0 w'))
      case atStart => exact ⟨(0), (t193), (t194), (t195), vv, H', ⟨Nat.le_refl _⟩, ⟨si32 HI0⟩, ⟨ke HK⟩, ⟨be HB⟩⟩
      case round =>
       clear H'
       try clear c1
       try clear p1
       try clear q1
       try clear hx1
       try clear c2
       try clear p2
       try clear c3
       try clear c3b0
       try clear c4
       try clear c4b0
       try clear c4b1
       try clear c6
       try clear hx191_0
       try clear hx191_1
       try clear hx191_2
       try clear hx191_3
       try clear hx191_4
       try clear hx191_5
       try clear p191
       try clear p2
       try clear q191
       obtain ⟨x6_2, x1000_2, x1001_2, x1002_2, rfl, HA, HK2, HI0, HK, HB⟩ := hrel
       cases gk with
       | zero => exact absurd HA.out (by simp [spec_l01Right.l1])
       | succ k2 =>
        have H := HA.out
        clear HA
        simp only [spec_l01Right.l1] at H
        by_cases c8 : x6_2 < x5_1
        ·rw [if_pos c8] at H
         have c8b0 : decide (x6_2 < x5_1) = true := decide_eq_true c8
         clear c8
         by_cases c9 : 0 ≤ x5_1
         ·rw [if_pos c9] at H
          have c9b0 : decide (0 ≤ x5_1) = true := decide_eq_true c9
          have c9b1 : 0 ≤ x5_1 := c9
          clear c9
          by_cases c10 : x5_1 < (l1.length : Int)
          ·rw [if_pos c10] at H
           have c10b0 : decide (x5_1 < (l1.length : Int)) = true := decide_eq_true c10
           clear c10
           by_cases c11 : 0 ≤ x6_2
           ·rw [if_pos c11] at H
            have c11b0 : decide (0 ≤ x6_2) = true := decide_eq_true c11
            have c11b1 : 0 ≤ x6_2 := c11
            clear c11
            by_cases c12 : x6_2 < (l1.length : Int)
            ·rw [if_pos c12] at H
             have c12b0 : decide (x6_2 < (l1.length : Int)) = true := decide_eq_true c12
             clear c12
             replace H := Option.bind_eq_some_iff.mp H
             obtain ⟨⟨t198, t199, t200, t201⟩, A130, H⟩ := H
             try dsimp only at H
             have A13 := am A130
             clear A130
             by_cases c14 : t198 = true
             ·subst c14
              rw [if_pos rfl] at H
              simp only [Option.some.injEq, Prod.mk.injEq] at H
              obtain ⟨rfl, rfl, rfl, rfl⟩ := H
              try go_wp2
              have n0_ := am (IsS32.drew HI0.out)
              have n1_ := am (keep_drew HK.out)
              have n2_ := am (below_drew1 HB.out)
              clear HI0
              clear HK
              clear HB
              have HI0 := n0_
              have HK := n1_
              have HB := n2_
              clear n0_ n1_ n2_
              have p196 : 0 ≤ (x5_1 : Int) := of_decide_eq_true (by first | (with_reducible assumption) | assumption)
              have q196 : x5_1 < (l1.length : Int) := of_decide_eq_true (by first | (with_reducible assumption) | assumption)
              obtain ⟨ad196, e196, hx196_0, hx196_1, hx196_2, hx196_3, hx196_4, hx196_5⟩ := at_T48 (Kd.C_foot_now HR1.out HK.out) x5_1 p196 q196
              have hw196_5 := hx196_5
              have hw196_4 := hx196_4
              have hw196_3 := hx196_3
              have hw196_2 := hx196_2
              have hw196_1 := hx196_1
              have hw196_0 := hx196_0
              obtain rfl : ad191 = ad196 := (by injection e196)
              have hne196_5 := (show (⟨(ad191.add ((x5_1).toNat * 6)).block, (ad191.add ((x5_1).toNat * 6)).off + 5, none⟩ : Addr).block ≠ g from by first | (rw [add_block]; exact Kd.foot_ne HR1.out (by omega) (by decide)) | (show (Addr.add _ _).block ≠ _; rw [add_block]; exact Kd.foot_ne HR1.out (by omega) (by decide)) | exact Kd.foot_ne HR1.out (by omega) (by decide) | (dsimp only; exact Kd.foot_ne HR1.out (by omega) (by decide)))
              have hlt196_5 := (Kd.foot_lt HR1.out (by omega) (by decide))
              have hne196_4 := (show (⟨(ad191.add ((x5_1).toNat * 6)).block, (ad191.add ((x5_1).toNat * 6)).off + 4, none⟩ : Addr).block ≠ g from by first | (rw [add_block]; exact Kd.foot_ne HR1.out (by omega) (by decide)) | (show (Addr.add _ _).block ≠ _; rw [add_block]; exact Kd.foot_ne HR1.out (by omega) (by decide)) | exact Kd.foot_ne HR1.out (by omega) (by decide) | (dsimp only; exact Kd.foot_ne HR1.out (by omega) (by decide)))
              have hlt196_4 := (Kd.foot_lt HR1.out (by omega) (by decide))
              have hne196_3 := (show (⟨(ad191.add ((x5_1).toNat * 6)).block, (ad191.add ((x5_1).toNat * 6)).off + 3, none⟩ : Addr).block ≠ g from by first | (rw [add_block]; exact Kd.foot_ne HR1.out (by omega) (by decide)) | (show (Addr.add _ _).block ≠ _; rw [add_block]; exact Kd.foot_ne HR1.out (by omega) (by decide)) | exact Kd.foot_ne HR1.out (by omega) (by decide) | (dsimp only; exact Kd.foot_ne HR1.out (by omega) (by decide)))
              have hlt196_3 := (Kd.foot_lt HR1.out (by omega) (by decide))
              have hne196_2 := (show (⟨(ad191.add ((x5_1).toNat * 6)).block, (ad191.add ((x5_1).toNat * 6)).off + 2, none⟩ : Addr).block ≠ g from by first | (rw [add_block]; exact Kd.foot_ne HR1.out (by omega) (by decide)) | (show (Addr.add _ _).block ≠ _; rw [add_block]; exact Kd.foot_ne HR1.out (by omega) (by decide)) | exact Kd.foot_ne HR1.out (by omega) (by decide) | (dsimp only; exact Kd.foot_ne HR1.out (by omega) (by decide)))
              have hlt196_2 := (Kd.foot_lt HR1.out (by omega) (by decide))
              have hne196_1 := (show (⟨(ad191.add ((x5_1).toNat * 6)).block, (ad191.add ((x5_1).toNat * 6)).off + 1, none⟩ : Addr).block ≠ g from by first | (rw [add_block]; exact Kd.foot_ne HR1.out (by omega) (by decide)) | (show (Addr.add _ _).block ≠ _; rw [add_block]; exact Kd.foot_ne HR1.out (by omega) (by decide)) | exact Kd.foot_ne HR1.out (by omega) (by decide) | (dsimp only; exact Kd.foot_ne HR1.out (by omega) (by decide)))
              have hlt196_1 := (Kd.foot_lt HR1.out (by omega) (by decide))
              have hne196_0 := (show ((ad191.add ((x5_1).toNat * 6)) : Addr).block ≠ g from by first | (rw [add_block]; exact Kd.foot_ne HR1.out (by omega) (by decide)) | (show (Addr.add _ _).block ≠ _; rw [add_block]; exact Kd.foot_ne HR1.out (by omega) (by decide)) | exact Kd.foot_ne HR1.out (by omega) (by decide) | (dsimp only; exact Kd.foot_ne HR1.out (by omega) (by decide)))
              have hlt196_0 := (Kd.foot_lt HR1.out (by omega) (by decide))
              replace p196 := eq_true p196
              replace q196 := eq_true q196
              have p197 : 0 ≤ (x6_2 : Int) := of_decide_eq_true (by first | (with_reducible assumption) | assumption)
              have q197 : x6_2 < (l1.length : Int) := of_decide_eq_true (by first | (with_reducible assumption) | assumption)
              obtain ⟨ad197, e197, hx197_0, hx197_1, hx197_2, hx197_3, hx197_4, hx197_5⟩ := at_T48 (Kd.C_foot_now HR1.out HK.out) x6_2 p197 q197
              have hw197_5 := hx197_5
              have hw197_4 := hx197_4
              have hw197_3 := hx197_3
              have hw197_2 := hx197_2
              have hw197_1 := hx197_1
              have hw197_0 := hx197_0
              obtain rfl : ad191 = ad197 := (by injection e197)
              have hne197_5 := (show (⟨(ad191.add ((x6_2).toNat * 6)).block, (ad191.add ((x6_2).toNat * 6)).off + 5, none⟩ : Addr).block ≠ g from by first | (rw [add_block]; exact Kd.foot_ne HR1.out (by omega) (by decide)) | (show (Addr.add _ _).block ≠ _; rw [add_block]; exact Kd.foot_ne HR1.out (by omega) (by decide)) | exact Kd.foot_ne HR1.out (by omega) (by decide) | (dsimp only; exact Kd.foot_ne HR1.out (by omega) (by decide)))
              have hlt197_5 := (Kd.foot_lt HR1.out (by omega) (by decide))
              have hne197_4 := (show (⟨(ad191.add ((x6_2).toNat * 6)).block, (ad191.add ((x6_2).toNat * 6)).off + 4, none⟩ : Addr).block ≠ g from by first | (rw [add_block]; exact Kd.foot_ne HR1.out (by omega) (by decide)) | (show (Addr.add _ _).block ≠ _; rw [add_block]; exact Kd.foot_ne HR1.out (by omega) (by decide)) | exact Kd.foot_ne HR1.out (by omega) (by decide) | (dsimp only; exact Kd.foot_ne HR1.out (by omega) (by decide)))
              have hlt197_4 := (Kd.foot_lt HR1.out (by omega) (by decide))
              have hne197_3 := (show (⟨(ad191.add ((x6_2).toNat * 6)).block, (ad191.add ((x6_2).toNat * 6)).off + 3, none⟩ : Addr).block ≠ g from by first | (rw [add_block]; exact Kd.foot_ne HR1.out (by omega) (by decide)) | (show (Addr.add _ _).block ≠ _; rw [add_block]; exact Kd.foot_ne HR1.out (by omega) (by decide)) | exact Kd.foot_ne HR1.out (by omega) (by decide) | (dsimp only; exact Kd.foot_ne HR1.out (by omega) (by decide)))
              have hlt197_3 := (Kd.foot_lt HR1.out (by omega) (by decide))
              have hne197_2 := (show (⟨(ad191.add ((x6_2).toNat * 6)).block, (ad191.add ((x6_2).toNat * 6)).off + 2, none⟩ : Addr).block ≠ g from by first | (rw [add_block]; exact Kd.foot_ne HR1.out (by omega) (by decide)) | (show (Addr.add _ _).block ≠ _; rw [add_block]; exact Kd.foot_ne HR1.out (by omega) (by decide)) | exact Kd.foot_ne HR1.out (by omega) (by decide) | (dsimp only; exact Kd.foot_ne HR1.out (by omega) (by decide)))
              have hlt197_2 := (Kd.foot_lt HR1.out (by omega) (by decide))
              have hne197_1 := (show (⟨(ad191.add ((x6_2).toNat * 6)).block, (ad191.add ((x6_2).toNat * 6)).off + 1, none⟩ : Addr).block ≠ g from by first | (rw [add_block]; exact Kd.foot_ne HR1.out (by omega) (by decide)) | (show (Addr.add _ _).block ≠ _; rw [add_block]; exact Kd.foot_ne HR1.out (by omega) (by decide)) | exact Kd.foot_ne HR1.out (by omega) (by decide) | (dsimp only; exact Kd.foot_ne HR1.out (by omega) (by decide)))
              have hlt197_1 := (Kd.foot_lt HR1.out (by omega) (by decide))
              have hne197_0 := (show ((ad191.add ((x6_2).toNat * 6)) : Addr).block ≠ g from by first | (rw [add_block]; exact Kd.foot_ne HR1.out (by omega) (by decide)) | (show (Addr.add _ _).block ≠ _; rw [add_block]; exact Kd.foot_ne HR1.out (by omega) (by decide)) | exact Kd.foot_ne HR1.out (by omega) (by decide) | (dsimp only; exact Kd.foot_ne HR1.out (by omega) (by decide)))
              have hlt197_0 := (Kd.foot_lt HR1.out (by omega) (by decide))
              replace p197 := eq_true p197
              replace q197 := eq_true q197
              refine start_ (n := 10) (S := fun w' => w'.cell? (ad191.add ((x5_1).toNat * 6)) = some (.int .i8 ((rd_T48 l1 x5_1).f0.f0)) ∧ w'.cell? ⟨(ad191.add ((x5_1).toNat * 6)).block, (ad191.add ((x5_1).toNat * 6)).off + 1, none⟩ = some (.int .i8 ((rd_T48 l1 x5_1).f0.f1)) ∧ w'.cell? ⟨(ad191.add ((x5_1).toNat * 6)).block, (ad191.add ((x5_1).toNat * 6)).off + 2, none⟩ = some (.int .i8 ((rd_T48 l1 x5_1).f1)) ∧ w'.cell? ⟨(ad191.add ((x5_1).toNat * 6)).block, (ad191.add ((x5_1).toNat * 6)).off + 3, none⟩ = some (.int .i8 ((rd_T48 l1 x5_1).f2)) ∧ w'.cell? ⟨(ad191.add ((x5_1).toNat * 6)).block, (ad191.add ((x5_1).toNat * 6)).off + 4, none⟩ = some (.int .i8 ((rd_T48 l1 x5_1).f3)) ∧ w'.cell? ⟨(ad191.add ((x5_1).toNat * 6)).block, (ad191.add ((x5_1).toNat * 6)).off + 5, none⟩ = some (.int .i8 ((rd_T48 l1 x5_1).f4)) ∧ w'.cell? (ad191.add ((x6_2).toNat * 6)) = some (.int .i8 ((rd_T48 l1 x6_2).f0.f0)) ∧ w'.cell? ⟨(ad191.add ((x6_2).toNat * 6)).block, (ad191.add ((x6_2).toNat * 6)).off + 1, none⟩ = some (.int .i8 ((rd_T48 l1 x6_2).f0.f1)) ∧ w'.cell? ⟨(ad191.add ((x6_2).toNat * 6)).block, (ad191.add ((x6_2).toNat * 6)).off + 2, none⟩ = some (.int .i8 ((rd_T48 l1 x6_2).f1)) ∧ w'.cell? ⟨(ad191.add ((x6_2).toNat * 6)).block, (ad191.add ((x6_2).toNat * 6)).off + 3, none⟩ = some (.int .i8 ((rd_T48 l1 x6_2).f2)) ∧ w'.cell? ⟨(ad191.add ((x6_2).toNat * 6)).block, (ad191.add ((x6_2).toNat * 6)).off + 4, none⟩ = some (.int .i8 ((rd_T48 l1 x6_2).f3)) ∧ w'.cell? ⟨(ad191.add ((x6_2).toNat * 6)).block, (ad191.add ((x6_2).toNat * 6)).off + 5, none⟩ = some (.int .i8 ((rd_T48 l1 x6_2).f4))) (ds := []) #[false, false, false, false, false, false, false, false, false, false] (by kernel_rfl) rfl rfl ⟨hx196_0, hx196_1, hx196_2, hx196_3, hx196_4, hx196_5, hx197_0, hx197_1, hx197_2, hx197_3, hx197_4, hx197_5⟩ (fun hHeld => ?_); refine with_tabW spec_l01Right.tab9 spec_l01Right.bits9 (fun HT_ HW_ => ?_)
              generalize wr.drew = w15 at HI0 HK HB hx196_0 hx196_1 hx196_2 hx196_3 hx196_4 hx196_5 hx197_0 hx197_1 hx197_2 hx197_3 hx197_4 hx197_5 hHeld ⊢
              refine pS (i := 0) (some 25) #[true, false, false, false, false, false, false, false, false, false] (any_of HT_.out (by kernel_rfl)) ?_
              refine pS (i := 1) (some 26) #[true, true, false, false, false, false, false, false, false, false] (any_of HT_.out (by kernel_rfl)) ?_
              refine pS (i := 2) (some 27) #[true, true, true, false, false, false, false, false, false, false] (any_of HT_.out (by kernel_rfl)) ?_
              refine pS (i := 3) (some 28) #[true, true, true, true, false, false, false, false, false, false] (any_of HT_.out (by kernel_rfl)) ?_
              refine pS (i := 5) (some 30) #[true, true, true, true, false, true, false, false, false, false] (any_of HT_.out (by kernel_rfl)) ?_
              refine pS (i := 6) (some 31) #[true, true, true, true, false, true, true, false, false, false] (any_of HT_.out (by kernel_rfl)) ?_
              refine pS (i := 7) (some 32) #[true, true, true, true, false, true, true, true, false, false] (any_of HT_.out (by kernel_rfl)) ?_
              refine tS (i := 4) (some 29) #[true, true, true, true, true, true, true, true, false, false] (take_ofW HT_.out HW_.out (by kernel_rfl)) hHeld ?_
              refine tS (i := 8) (some 33) #[true, true, true, true, true, true, true, true, true, false] (take_ofW HT_.out HW_.out (by kernel_rfl)) hHeld ?_
              refine one_ (i := 9) (N := some 34) #[true, true, true, true, true, true, true, true, true, true] rfl rfl (one_of HT_.out (by kernel_rfl)) (by decide) (fun K hK => ?_)
              refine goes_ Try.func37 (by kernel_rfl) rfl #[.pointer (some ⟨g, 0, none⟩), .agg #[.int .i8 ((rd_T48 l1 x5_1).f0.f0), .int .i8 ((rd_T48 l1 x5_1).f0.f1), .int .i8 ((rd_T48 l1 x5_1).f1), .int .i8 ((rd_T48 l1 x5_1).f2), .int .i8 ((rd_T48 l1 x5_1).f3), .int .i8 ((rd_T48 l1 x5_1).f4)], .agg #[.int .i8 ((rd_T48 l1 x6_2).f0.f0), .int .i8 ((rd_T48 l1 x6_2).f0.f1), .int .i8 ((rd_T48 l1 x6_2).f1), .int .i8 ((rd_T48 l1 x6_2).f2), .int .i8 ((rd_T48 l1 x6_2).f3), .int .i8 ((rd_T48 l1 x6_2).f4)]] (by rfl) rfl rfl (by (try simp only [List.map_toArray, List.map_cons, List.map_nil]); first | done | rfl | (simp only [List.length_drop, List.length_take]; rfl)) ?_
              with_reducible refine (spec_l01Touch.calls k2 g x1000_2 x1001_2 x1002_2 ((rd_T48 l1 x5_1).f0.f0) ((rd_T48 l1 x5_1).f0.f1) ((rd_T48 l1 x5_1).f1) ((rd_T48 l1 x5_1).f2) ((rd_T48 l1 x5_1).f3) ((rd_T48 l1 x5_1).f4) ((rd_T48 l1 x6_2).f0.f0) ((rd_T48 l1 x6_2).f0.f1) ((rd_T48 l1 x6_2).f1) ((rd_T48 l1 x6_2).f2) ((rd_T48 l1 x6_2).f3) ((rd_T48 l1 x6_2).f4) true t199 t200 t201 w0 _ ?side1 ?side2 A13.out).mono ?_
              (case side1 => exact si32 HI0)
              (case side2 => exact be HB)
              rintro e w16 ⟨rfl, hi, hb, hk⟩
              have HS0_ := keep_cell hk (hHeld.1) (by first | (rw [add_block]; exact hne196_0) | (show (Addr.add _ _).block ≠ _; rw [add_block]; exact hne196_0) | exact hne196_0)
              have HS1_ := keep_cell hk (hHeld.2.1) (by first | (rw [add_block]; exact hne196_1) | (show (Addr.add _ _).block ≠ _; rw [add_block]; exact hne196_1) | exact hne196_1)
              have HS2_ := keep_cell hk (hHeld.2.2.1) (by first | (rw [add_block]; exact hne196_2) | (show (Addr.add _ _).block ≠ _; rw [add_block]; exact hne196_2) | exact hne196_2)
              have HS3_ := keep_cell hk (hHeld.2.2.2.1) (by first | (rw [add_block]; exact hne196_3) | (show (Addr.add _ _).block ≠ _; rw [add_block]; exact hne196_3) | exact hne196_3)
              have HS4_ := keep_cell hk (hHeld.2.2.2.2.1) (by first | (rw [add_block]; exact hne196_4) | (show (Addr.add _ _).block ≠ _; rw [add_block]; exact hne196_4) | exact hne196_4)
              have HS5_ := keep_cell hk (hHeld.2.2.2.2.2.1) (by first | (rw [add_block]; exact hne196_5) | (show (Addr.add _ _).block ≠ _; rw [add_block]; exact hne196_5) | exact hne196_5)
              have HS6_ := keep_cell hk (hHeld.2.2.2.2.2.2.1) (by first | (rw [add_block]; exact hne197_0) | (show (Addr.add _ _).block ≠ _; rw [add_block]; exact hne197_0) | exact hne197_0)
              have HS7_ := keep_cell hk (hHeld.2.2.2.2.2.2.2.1) (by first | (rw [add_block]; exact hne197_1) | (show (Addr.add _ _).block ≠ _; rw [add_block]; exact hne197_1) | exact hne197_1)
              have HS8_ := keep_cell hk (hHeld.2.2.2.2.2.2.2.2.1) (by first | (rw [add_block]; exact hne197_2) | (show (Addr.add _ _).block ≠ _; rw [add_block]; exact hne197_2) | exact hne197_2)
              have HS9_ := keep_cell hk (hHeld.2.2.2.2.2.2.2.2.2.1) (by first | (rw [add_block]; exact hne197_3) | (show (Addr.add _ _).block ≠ _; rw [add_block]; exact hne197_3) | exact hne197_3)
              have HS10_ := keep_cell hk (hHeld.2.2.2.2.2.2.2.2.2.2.1) (by first | (rw [add_block]; exact hne197_4) | (show (Addr.add _ _).block ≠ _; rw [add_block]; exact hne197_4) | exact hne197_4)
              have HS11_ := keep_cell hk (hHeld.2.2.2.2.2.2.2.2.2.2.2) (by first | (rw [add_block]; exact hne197_5) | (show (Addr.add _ _).block ≠ _; rw [add_block]; exact hne197_5) | exact hne197_5)
              refine ⟨_, rfl, ?_⟩
              have n0_ := am (KeepBut.trans (ke HK) hk (.inl rfl))
              have n1_ := am (hb)
              have n2_ := am (hi)
              clear HK
              clear HB
              clear HI0
              have HK := n0_
              have HB := n1_
              have HI0 := n2_
              clear n0_ n1_ n2_
              (try clear hb)
              (try clear hb2)
              (try clear hk)
              (try clear hi)
              refine hK.out _ _ ⟨HS0_, HS1_, HS2_, HS3_, HS4_, HS5_, HS6_, HS7_, HS8_, HS9_, HS10_, HS11_⟩ (fun hHeld => ?_)
              clear hK K
              refine norm_ (a' := ?_) ?_ ?_
              rotate_left
              ·show Act.put _ (some 34) _ = _
               simp only [Act.put, List.setIfInBounds_toArray, List.set_cons_zero, List.set_cons_succ, i64_w, i32_w]
               rfl
              refine done_ (done_of HT_.out (by kernel_rfl)) ?_
              try go_wp2
              go_ret
              exact ⟨by first | rfl | (simp [errW_none, errW_some] <;> rfl) | (simp [*, errW_none, errW_some] <;> rfl), si32 HI0, be HB, ke HK⟩
             ·replace c14 := Bool.eq_false_iff.mpr c14
              subst c14
              have H1 : (spec_l01Right.l1 k2 l1 x5_1 (wrap64 (x6_2 + 1)) t199 t200 t201) = some (r1, r2, r3, r4) := by rw [if_neg (show ¬ (false = true) by decide)] at H; exact H
              clear H
              have H := H1
              clear H1
              have H' := am H
              clear H
              try go_wp2
              have n0_ := am (IsS32.drew HI0.out)
              have n1_ := am (keep_drew HK.out)
              have n2_ := am (below_drew1 HB.out)
              clear HI0
              clear HK
              clear HB
              have HI0 := n0_
              have HK := n1_
              have HB := n2_
              clear n0_ n1_ n2_
              have p196 : 0 ≤ (x5_1 : Int) := of_decide_eq_true (by first | (with_reducible assumption) | assumption)
              have q196 : x5_1 < (l1.length : Int) := of_decide_eq_true (by first | (with_reducible assumption) | assumption)
              obtain ⟨ad196, e196, hx196_0, hx196_1, hx196_2, hx196_3, hx196_4, hx196_5⟩ := at_T48 (Kd.C_foot_now HR1.out HK.out) x5_1 p196 q196
              have hw196_5 := hx196_5
              have hw196_4 := hx196_4
              have hw196_3 := hx196_3
              have hw196_2 := hx196_2
              have hw196_1 := hx196_1
              have hw196_0 := hx196_0
              obtain rfl : ad191 = ad196 := (by injection e196)
              have hne196_5 := (show (⟨(ad191.add ((x5_1).toNat * 6)).block, (ad191.add ((x5_1).toNat * 6)).off + 5, none⟩ : Addr).block ≠ g from by first | (rw [add_block]; exact Kd.foot_ne HR1.out (by omega) (by decide)) | (show (Addr.add _ _).block ≠ _; rw [add_block]; exact Kd.foot_ne HR1.out (by omega) (by decide)) | exact Kd.foot_ne HR1.out (by omega) (by decide) | (dsimp only; exact Kd.foot_ne HR1.out (by omega) (by decide)))
              have hlt196_5 := (Kd.foot_lt HR1.out (by omega) (by decide))
              have hne196_4 := (show (⟨(ad191.add ((x5_1).toNat * 6)).block, (ad191.add ((x5_1).toNat * 6)).off + 4, none⟩ : Addr).block ≠ g from by first | (rw [add_block]; exact Kd.foot_ne HR1.out (by omega) (by decide)) | (show (Addr.add _ _).block ≠ _; rw [add_block]; exact Kd.foot_ne HR1.out (by omega) (by decide)) | exact Kd.foot_ne HR1.out (by omega) (by decide) | (dsimp only; exact Kd.foot_ne HR1.out (by omega) (by decide)))
              have hlt196_4 := (Kd.foot_lt HR1.out (by omega) (by decide))
              have hne196_3 := (show (⟨(ad191.add ((x5_1).toNat * 6)).block, (ad191.add ((x5_1).toNat * 6)).off + 3, none⟩ : Addr).block ≠ g from by first | (rw [add_block]; exact Kd.foot_ne HR1.out (by omega) (by decide)) | (show (Addr.add _ _).block ≠ _; rw [add_block]; exact Kd.foot_ne HR1.out (by omega) (by decide)) | exact Kd.foot_ne HR1.out (by omega) (by decide) | (dsimp only; exact Kd.foot_ne HR1.out (by omega) (by decide)))
              have hlt196_3 := (Kd.foot_lt HR1.out (by omega) (by decide))
              have hne196_2 := (show (⟨(ad191.add ((x5_1).toNat * 6)).block, (ad191.add ((x5_1).toNat * 6)).off + 2, none⟩ : Addr).block ≠ g from by first | (rw [add_block]; exact Kd.foot_ne HR1.out (by omega) (by decide)) | (show (Addr.add _ _).block ≠ _; rw [add_block]; exact Kd.foot_ne HR1.out (by omega) (by decide)) | exact Kd.foot_ne HR1.out (by omega) (by decide) | (dsimp only; exact Kd.foot_ne HR1.out (by omega) (by decide)))
              have hlt196_2 := (Kd.foot_lt HR1.out (by omega) (by decide))
              have hne196_1 := (show (⟨(ad191.add ((x5_1).toNat * 6)).block, (ad191.add ((x5_1).toNat * 6)).off + 1, none⟩ : Addr).block ≠ g from by first | (rw [add_block]; exact Kd.foot_ne HR1.out (by omega) (by decide)) | (show (Addr.add _ _).block ≠ _; rw [add_block]; exact Kd.foot_ne HR1.out (by omega) (by decide)) | exact Kd.foot_ne HR1.out (by omega) (by decide) | (dsimp only; exact Kd.foot_ne HR1.out (by omega) (by decide)))
              have hlt196_1 := (Kd.foot_lt HR1.out (by omega) (by decide))
              have hne196_0 := (show ((ad191.add ((x5_1).toNat * 6)) : Addr).block ≠ g from by first | (rw [add_block]; exact Kd.foot_ne HR1.out (by omega) (by decide)) | (show (Addr.add _ _).block ≠ _; rw [add_block]; exact Kd.foot_ne HR1.out (by omega) (by decide)) | exact Kd.foot_ne HR1.out (by omega) (by decide) | (dsimp only; exact Kd.foot_ne HR1.out (by omega) (by decide)))
              have hlt196_0 := (Kd.foot_lt HR1.out (by omega) (by decide))
              replace p196 := eq_true p196
              replace q196 := eq_true q196
              have p197 : 0 ≤ (x6_2 : Int) := of_decide_eq_true (by first | (with_reducible assumption) | assumption)
              have q197 : x6_2 < (l1.length : Int) := of_decide_eq_true (by first | (with_reducible assumption) | assumption)
              obtain ⟨ad197, e197, hx197_0, hx197_1, hx197_2, hx197_3, hx197_4, hx197_5⟩ := at_T48 (Kd.C_foot_now HR1.out HK.out) x6_2 p197 q197
              have hw197_5 := hx197_5
              have hw197_4 := hx197_4
              have hw197_3 := hx197_3
              have hw197_2 := hx197_2
              have hw197_1 := hx197_1
              have hw197_0 := hx197_0
              obtain rfl : ad191 = ad197 := (by injection e197)
              have hne197_5 := (show (⟨(ad191.add ((x6_2).toNat * 6)).block, (ad191.add ((x6_2).toNat * 6)).off + 5, none⟩ : Addr).block ≠ g from by first | (rw [add_block]; exact Kd.foot_ne HR1.out (by omega) (by decide)) | (show (Addr.add _ _).block ≠ _; rw [add_block]; exact Kd.foot_ne HR1.out (by omega) (by decide)) | exact Kd.foot_ne HR1.out (by omega) (by decide) | (dsimp only; exact Kd.foot_ne HR1.out (by omega) (by decide)))
              have hlt197_5 := (Kd.foot_lt HR1.out (by omega) (by decide))
              have hne197_4 := (show (⟨(ad191.add ((x6_2).toNat * 6)).block, (ad191.add ((x6_2).toNat * 6)).off + 4, none⟩ : Addr).block ≠ g from by first | (rw [add_block]; exact Kd.foot_ne HR1.out (by omega) (by decide)) | (show (Addr.add _ _).block ≠ _; rw [add_block]; exact Kd.foot_ne HR1.out (by omega) (by decide)) | exact Kd.foot_ne HR1.out (by omega) (by decide) | (dsimp only; exact Kd.foot_ne HR1.out (by omega) (by decide)))
              have hlt197_4 := (Kd.foot_lt HR1.out (by omega) (by decide))
              have hne197_3 := (show (⟨(ad191.add ((x6_2).toNat * 6)).block, (ad191.add ((x6_2).toNat * 6)).off + 3, none⟩ : Addr).block ≠ g from by first | (rw [add_block]; exact Kd.foot_ne HR1.out (by omega) (by decide)) | (show (Addr.add _ _).block ≠ _; rw [add_block]; exact Kd.foot_ne HR1.out (by omega) (by decide)) | exact Kd.foot_ne HR1.out (by omega) (by decide) | (dsimp only; exact Kd.foot_ne HR1.out (by omega) (by decide)))
              have hlt197_3 := (Kd.foot_lt HR1.out (by omega) (by decide))
              have hne197_2 := (show (⟨(ad191.add ((x6_2).toNat * 6)).block, (ad191.add ((x6_2).toNat * 6)).off + 2, none⟩ : Addr).block ≠ g from by first | (rw [add_block]; exact Kd.foot_ne HR1.out (by omega) (by decide)) | (show (Addr.add _ _).block ≠ _; rw [add_block]; exact Kd.foot_ne HR1.out (by omega) (by decide)) | exact Kd.foot_ne HR1.out (by omega) (by decide) | (dsimp only; exact Kd.foot_ne HR1.out (by omega) (by decide)))
              have hlt197_2 := (Kd.foot_lt HR1.out (by omega) (by decide))
              have hne197_1 := (show (⟨(ad191.add ((x6_2).toNat * 6)).block, (ad191.add ((x6_2).toNat * 6)).off + 1, none⟩ : Addr).block ≠ g from by first | (rw [add_block]; exact Kd.foot_ne HR1.out (by omega) (by decide)) | (show (Addr.add _ _).block ≠ _; rw [add_block]; exact Kd.foot_ne HR1.out (by omega) (by decide)) | exact Kd.foot_ne HR1.out (by omega) (by decide) | (dsimp only; exact Kd.foot_ne HR1.out (by omega) (by decide)))
              have hlt197_1 := (Kd.foot_lt HR1.out (by omega) (by decide))
              have hne197_0 := (show ((ad191.add ((x6_2).toNat * 6)) : Addr).block ≠ g from by first | (rw [add_block]; exact Kd.foot_ne HR1.out (by omega) (by decide)) | (show (Addr.add _ _).block ≠ _; rw [add_block]; exact Kd.foot_ne HR1.out (by omega) (by decide)) | exact Kd.foot_ne HR1.out (by omega) (by decide) | (dsimp only; exact Kd.foot_ne HR1.out (by omega) (by decide)))
              have hlt197_0 := (Kd.foot_lt HR1.out (by omega) (by decide))
              replace p197 := eq_true p197
              replace q197 := eq_true q197
              refine start_ (n := 10) (S := fun w' => w'.cell? (ad191.add ((x5_1).toNat * 6)) = some (.int .i8 ((rd_T48 l1 x5_1).f0.f0)) ∧ w'.cell? ⟨(ad191.add ((x5_1).toNat * 6)).block, (ad191.add ((x5_1).toNat * 6)).off + 1, none⟩ = some (.int .i8 ((rd_T48 l1 x5_1).f0.f1)) ∧ w'.cell? ⟨(ad191.add ((x5_1).toNat * 6)).block, (ad191.add ((x5_1).toNat * 6)).off + 2, none⟩ = some (.int .i8 ((rd_T48 l1 x5_1).f1)) ∧ w'.cell? ⟨(ad191.add ((x5_1).toNat * 6)).block, (ad191.add ((x5_1).toNat * 6)).off + 3, none⟩ = some (.int .i8 ((rd_T48 l1 x5_1).f2)) ∧ w'.cell? ⟨(ad191.add ((x5_1).toNat * 6)).block, (ad191.add ((x5_1).toNat * 6)).off + 4, none⟩ = some (.int .i8 ((rd_T48 l1 x5_1).f3)) ∧ w'.cell? ⟨(ad191.add ((x5_1).toNat * 6)).block, (ad191.add ((x5_1).toNat * 6)).off + 5, none⟩ = some (.int .i8 ((rd_T48 l1 x5_1).f4)) ∧ w'.cell? (ad191.add ((x6_2).toNat * 6)) = some (.int .i8 ((rd_T48 l1 x6_2).f0.f0)) ∧ w'.cell? ⟨(ad191.add ((x6_2).toNat * 6)).block, (ad191.add ((x6_2).toNat * 6)).off + 1, none⟩ = some (.int .i8 ((rd_T48 l1 x6_2).f0.f1)) ∧ w'.cell? ⟨(ad191.add ((x6_2).toNat * 6)).block, (ad191.add ((x6_2).toNat * 6)).off + 2, none⟩ = some (.int .i8 ((rd_T48 l1 x6_2).f1)) ∧ w'.cell? ⟨(ad191.add ((x6_2).toNat * 6)).block, (ad191.add ((x6_2).toNat * 6)).off + 3, none⟩ = some (.int .i8 ((rd_T48 l1 x6_2).f2)) ∧ w'.cell? ⟨(ad191.add ((x6_2).toNat * 6)).block, (ad191.add ((x6_2).toNat * 6)).off + 4, none⟩ = some (.int .i8 ((rd_T48 l1 x6_2).f3)) ∧ w'.cell? ⟨(ad191.add ((x6_2).toNat * 6)).block, (ad191.add ((x6_2).toNat * 6)).off + 5, none⟩ = some (.int .i8 ((rd_T48 l1 x6_2).f4))) (ds := []) #[false, false, false, false, false, false, false, false, false, false] (by kernel_rfl) rfl rfl ⟨hx196_0, hx196_1, hx196_2, hx196_3, hx196_4, hx196_5, hx197_0, hx197_1, hx197_2, hx197_3, hx197_4, hx197_5⟩ (fun hHeld => ?_); refine with_tabW spec_l01Right.tab9 spec_l01Right.bits9 (fun HT_ HW_ => ?_)
              generalize wr.drew = w17 at HI0 HK HB hx196_0 hx196_1 hx196_2 hx196_3 hx196_4 hx196_5 hx197_0 hx197_1 hx197_2 hx197_3 hx197_4 hx197_5 hHeld ⊢
              refine pS (i := 0) (some 25) #[true, false, false, false, false, false, false, false, false, false] (any_of HT_.out (by kernel_rfl)) ?_
              refine pS (i := 1) (some 26) #[true, true, false, false, false, false, false, false, false, false] (any_of HT_.out (by kernel_rfl)) ?_
              refine pS (i := 2) (some 27) #[true, true, true, false, false, false, false, false, false, false] (any_of HT_.out (by kernel_rfl)) ?_
              refine pS (i := 3) (some 28) #[true, true, true, true, false, false, false, false, false, false] (any_of HT_.out (by kernel_rfl)) ?_
              refine pS (i := 5) (some 30) #[true, true, true, true, false, true, false, false, false, false] (any_of HT_.out (by kernel_rfl)) ?_
              refine pS (i := 6) (some 31) #[true, true, true, true, false, true, true, false, false, false] (any_of HT_.out (by kernel_rfl)) ?_
              refine pS (i := 7) (some 32) #[true, true, true, true, false, true, true, true, false, false] (any_of HT_.out (by kernel_rfl)) ?_
              refine tS (i := 4) (some 29) #[true, true, true, true, true, true, true, true, false, false] (take_ofW HT_.out HW_.out (by kernel_rfl)) hHeld ?_
              refine tS (i := 8) (some 33) #[true, true, true, true, true, true, true, true, true, false] (take_ofW HT_.out HW_.out (by kernel_rfl)) hHeld ?_
              refine one_ (i := 9) (N := some 34) #[true, true, true, true, true, true, true, true, true, true] rfl rfl (one_of HT_.out (by kernel_rfl)) (by decide) (fun K hK => ?_)
              refine goes_ Try.func37 (by kernel_rfl) rfl #[.pointer (some ⟨g, 0, none⟩), .agg #[.int .i8 ((rd_T48 l1 x5_1).f0.f0), .int .i8 ((rd_T48 l1 x5_1).f0.f1), .int .i8 ((rd_T48 l1 x5_1).f1), .int .i8 ((rd_T48 l1 x5_1).f2), .int .i8 ((rd_T48 l1 x5_1).f3), .int .i8 ((rd_T48 l1 x5_1).f4)], .agg #[.int .i8 ((rd_T48 l1 x6_2).f0.f0), .int .i8 ((rd_T48 l1 x6_2).f0.f1), .int .i8 ((rd_T48 l1 x6_2).f1), .int .i8 ((rd_T48 l1 x6_2).f2), .int .i8 ((rd_T48 l1 x6_2).f3), .int .i8 ((rd_T48 l1 x6_2).f4)]] (by rfl) rfl rfl (by (try simp only [List.map_toArray, List.map_cons, List.map_nil]); first | done | rfl | (simp only [List.length_drop, List.length_take]; rfl)) ?_
              with_reducible refine (spec_l01Touch.calls k2 g x1000_2 x1001_2 x1002_2 ((rd_T48 l1 x5_1).f0.f0) ((rd_T48 l1 x5_1).f0.f1) ((rd_T48 l1 x5_1).f1) ((rd_T48 l1 x5_1).f2) ((rd_T48 l1 x5_1).f3) ((rd_T48 l1 x5_1).f4) ((rd_T48 l1 x6_2).f0.f0) ((rd_T48 l1 x6_2).f0.f1) ((rd_T48 l1 x6_2).f1) ((rd_T48 l1 x6_2).f2) ((rd_T48 l1 x6_2).f3) ((rd_T48 l1 x6_2).f4) false t199 t200 t201 w0 _ ?side1 ?side2 A13.out).mono ?_
              (case side1 => exact si32 HI0)
              (case side2 => exact be HB)
              rintro e w18 ⟨rfl, hi, hb, hk⟩
              have HS0_ := keep_cell hk (hHeld.1) (by first | (rw [add_block]; exact hne196_0) | (show (Addr.add _ _).block ≠ _; rw [add_block]; exact hne196_0) | exact hne196_0)
              have HS1_ := keep_cell hk (hHeld.2.1) (by first | (rw [add_block]; exact hne196_1) | (show (Addr.add _ _).block ≠ _; rw [add_block]; exact hne196_1) | exact hne196_1)
              have HS2_ := keep_cell hk (hHeld.2.2.1) (by first | (rw [add_block]; exact hne196_2) | (show (Addr.add _ _).block ≠ _; rw [add_block]; exact hne196_2) | exact hne196_2)
              have HS3_ := keep_cell hk (hHeld.2.2.2.1) (by first | (rw [add_block]; exact hne196_3) | (show (Addr.add _ _).block ≠ _; rw [add_block]; exact hne196_3) | exact hne196_3)
              have HS4_ := keep_cell hk (hHeld.2.2.2.2.1) (by first | (rw [add_block]; exact hne196_4) | (show (Addr.add _ _).block ≠ _; rw [add_block]; exact hne196_4) | exact hne196_4)
              have HS5_ := keep_cell hk (hHeld.2.2.2.2.2.1) (by first | (rw [add_block]; exact hne196_5) | (show (Addr.add _ _).block ≠ _; rw [add_block]; exact hne196_5) | exact hne196_5)
              have HS6_ := keep_cell hk (hHeld.2.2.2.2.2.2.1) (by first | (rw [add_block]; exact hne197_0) | (show (Addr.add _ _).block ≠ _; rw [add_block]; exact hne197_0) | exact hne197_0)
              have HS7_ := keep_cell hk (hHeld.2.2.2.2.2.2.2.1) (by first | (rw [add_block]; exact hne197_1) | (show (Addr.add _ _).block ≠ _; rw [add_block]; exact hne197_1) | exact hne197_1)
              have HS8_ := keep_cell hk (hHeld.2.2.2.2.2.2.2.2.1) (by first | (rw [add_block]; exact hne197_2) | (show (Addr.add _ _).block ≠ _; rw [add_block]; exact hne197_2) | exact hne197_2)
              have HS9_ := keep_cell hk (hHeld.2.2.2.2.2.2.2.2.2.1) (by first | (rw [add_block]; exact hne197_3) | (show (Addr.add _ _).block ≠ _; rw [add_block]; exact hne197_3) | exact hne197_3)
              have HS10_ := keep_cell hk (hHeld.2.2.2.2.2.2.2.2.2.2.1) (by first | (rw [add_block]; exact hne197_4) | (show (Addr.add _ _).block ≠ _; rw [add_block]; exact hne197_4) | exact hne197_4)
              have HS11_ := keep_cell hk (hHeld.2.2.2.2.2.2.2.2.2.2.2) (by first | (rw [add_block]; exact hne197_5) | (show (Addr.add _ _).block ≠ _; rw [add_block]; exact hne197_5) | exact hne197_5)
              refine ⟨_, rfl, ?_⟩
              have n0_ := am (KeepBut.trans (ke HK) hk (.inl rfl))
              have n1_ := am (hb)
              have n2_ := am (hi)
              clear HK
              clear HB
              clear HI0
              have HK := n0_
              have HB := n1_
              have HI0 := n2_
              clear n0_ n1_ n2_
              (try clear hb)
              (try clear hb2)
              (try clear hk)
              (try clear hi)
              refine hK.out _ _ ⟨HS0_, HS1_, HS2_, HS3_, HS4_, HS5_, HS6_, HS7_, HS8_, HS9_, HS10_, HS11_⟩ (fun hHeld => ?_)
              clear hK K
              refine norm_ (a' := ?_) ?_ ?_
              rotate_left
              ·show Act.put _ (some 34) _ = _
               simp only [Act.put, List.setIfInBounds_toArray, List.set_cons_zero, List.set_cons_succ, i64_w, i32_w]
               rfl
              refine done_ (done_of HT_.out (by kernel_rfl)) ?_
              try go_wp2
              go_roundg k2
              case measure => have := HK1.out; have := HK2.out; omega
              case rel => exact ⟨(wrap64 (x6_2 + 1)), (t199), (t200), (t201), vv, H', ⟨by have := HK1.out; have := HK2.out; omega⟩, ⟨si32 HI0⟩, ⟨ke HK⟩, ⟨be HB⟩⟩
            ·rw [if_neg c12] at H
             exact absurd H (by simp)
           ·rw [if_neg c11] at H
            exact absurd H (by simp)
          ·rw [if_neg c10] at H
           exact absurd H (by simp)
         ·rw [if_neg c9] at H
          exact absurd H (by simp)
        ·rw [if_neg c8] at H
         have c8b0 : decide (x6_2 < x5_1) = false := decide_eq_false c8
         clear c8
         have H' := am H
         clear H
         go_wp2
         go_roundg k2
         case measure => have := HK1.out; have := HK2.out; omega
         case rel => exact ⟨(wrap64 (x5_1 + 1)), (x1000_2), (x1001_2), (x1002_2), vv, H', ⟨by have := HK1.out; have := HK2.out; omega⟩, ⟨si32 HI0⟩, ⟨ke HK⟩, ⟨be HB⟩⟩
     ·replace c6 := Bool.eq_false_iff.mpr c6
      subst c6
      have H1 : (some (false, t193, t194, t195)) = some (r1, r2, r3, r4) := by rw [if_neg (show ¬ (false = true) by decide)] at H; exact H
      clear H
      have H := H1
      clear H1
      simp only [Option.some.injEq, Prod.mk.injEq] at H
      obtain ⟨rfl, rfl, rfl, rfl⟩ := H
      have p191 : 0 ≤ (x5_1 : Int) := of_decide_eq_true (by first | (with_reducible assumption) | assumption)
      have q191 : x5_1 < (l1.length : Int) := of_decide_eq_true (by first | (with_reducible assumption) | assumption)
      obtain ⟨ad191, e191, hx191_0, hx191_1, hx191_2, hx191_3, hx191_4, hx191_5⟩ := at_T48 (Kd.C_foot_now HR1.out HK.out) x5_1 p191 q191
      cases e191
      replace p191 := eq_true p191
      replace q191 := eq_true q191
      go_wp2_with (first | ((with_reducible refine gate_callee (f := 36) rfl ?_); refine gL (some 18) Try.func36 #[.pointer (some ⟨g, 0, none⟩), .agg #[.int .i8 ((rd_T48 l1 x5_1).f0.f0), .int .i8 ((rd_T48 l1 x5_1).f0.f1), .int .i8 ((rd_T48 l1 x5_1).f1), .int .i8 ((rd_T48 l1 x5_1).f2), .int .i8 ((rd_T48 l1 x5_1).f3), .int .i8 ((rd_T48 l1 x5_1).f4)]] ?_; (with_reducible refine (spec_l01Safe.calls k1 g x1000_1 x1001_1 x1002_1 ((rd_T48 l1 x5_1).f0.f0) ((rd_T48 l1 x5_1).f0.f1) ((rd_T48 l1 x5_1).f1) ((rd_T48 l1 x5_1).f2) ((rd_T48 l1 x5_1).f3) ((rd_T48 l1 x5_1).f4) false t193 t194 t195 w0 _ ?side1 ?side2 A5.out).mono ?_); (case side1 => exact si32 HI0); (case side2 => exact be HB); rintro e w19 ⟨rfl, hi, hb, hk⟩; refine ⟨_, rfl, ?_⟩; replace HK := am (KeepBut.trans (ke HK) hk (.inl rfl)); replace HB := am (hb); replace HI0 := am (hi); (try clear hb); (try clear hb2); (try clear hk); (try clear hi)))
      go_ret
      exact ⟨by first | rfl | (simp [errW_none, errW_some] <;> rfl) | (simp [*, errW_none, errW_some] <;> rfl), si32 HI0, be HB, ke HK⟩
    ·rw [if_neg c4] at H
     exact absurd H (by simp)
   ·rw [if_neg c3] at H
    have c3b0 : decide (x5_1 < (l1.length : Int)) = false := decide_eq_false c3
    clear c3
    simp only [Option.some.injEq, Prod.mk.injEq] at H
    obtain ⟨rfl, rfl, rfl, rfl⟩ := H
    go_wp2
    go_ret
    exact ⟨by first | rfl | (simp [errW_none, errW_some] <;> rfl) | (simp [*, errW_none, errW_some] <;> rfl), si32 HI0, be HB, ke HK⟩

/-! ### spec_l01Chosen: function 25 -/
def spec_l01Chosen.l0 : Nat → List (S48) → List Int → List (S48) → Int → Option ((List (S48)))
 | 0, _, _, _, _ => none
 | k + 1, x0, x1, x5, x6 => if x6 < (x1.length : Int) then (if 0 ≤ x6 then (if 0 ≤ (rd x1 x6) then (if (rd x1 x6) < (x0.length : Int) then (if x5.length < 23456248059221 then (spec_l01Chosen.l0 k x0 x1 (x5 ++ [(⟨(⟨(rd_T48 x0 (rd x1 x6)).f0.f0, (rd_T48 x0 (rd x1 x6)).f0.f1⟩ : S46), (rd_T48 x0 (rd x1 x6)).f1, (rd_T48 x0 (rd x1 x6)).f2, (rd_T48 x0 (rd x1 x6)).f3, (rd_T48 x0 (rd x1 x6)).f4⟩ : S48)]) (wrap64 (x6 + 1))) else (none)) else (none)) else (none)) else (none)) else (some x5)
def spec_l01Chosen.f (k : Nat) (l0 : List (S48)) (l1 : List Int) : Option ((List (S48))) := spec_l01Chosen.l0 k l0 l1 (([] : List (S48))) 0
set_option maxHeartbeats 8000000 in
set_option maxRecDepth 100000 in
theorem spec_l01Chosen.calls (k : Nat) (A0 : Option Addr) (c0 : Nat) (l0 : List (S48)) (A1 : Option Addr) (c1 : Nat) (l1 : List Int) (r : List (S48)) (w : World) (hr0 : Kd.C k48 w A0 l0.length l0) (hc0 : l0.length ≤ c0) (hr1 : Kd.C (Kd.int .i64) w A1 l1.length l1) (hc1 : l1.length ≤ c1) (h : spec_l01Chosen.f k l0 l1 = some r) :
  Calls Try.prog 25 #[.slice A0 l0.length c0, .slice A1 l1.length c1] w fun e w' => ∃ v0_ : Value, e = .returned (v0_) ∧ Kd.R k48 48 w' w.heap.size (fun _ => True) v0_ r ∧ Below w.heap.size w w' := by
 have hu48 := Try.underlying48
 have HR0 := am hr0
 have HC0 := am hc0
 clear hr0 hc0
 have HR1 := am hr1
 have HC1 := am hc1
 clear hr1 hc1
 have HB := am (Below.refl w.heap.size w)
 have H : (spec_l01Chosen.l0 k l0 l1 (([] : List (S48))) 0) = some r := h
 clear h
 obtain ⟨y202, hy202⟩ : ∃ y_ : List (S48), y_ = (([] : List (S48))) := ⟨_, rfl⟩
 replace H : (spec_l01Chosen.l0 k l0 l1 y202 0) = some r := by first | (rw [hy202]; with_reducible exact H) | (have H2_ := (Option.bind_some _ _).symm.trans H; rw [hy202]; with_reducible exact H2_) | (have H2_ := (Option.bind_some _ _).symm.trans H; with_reducible exact H2_) | with_reducible exact H | (rw [hy202]; exact H) | exact H
 have Ny202 := am hy202
 clear hy202
 have H' := am H
 clear H
 go_enter Try.func25, Try.ntmps25
 go_wp2_with (first | ((with_reducible refine gate_dst (N := 7) rfl ?_); refine Kd.R_lit k48 _ 48 ?hg (N := 7) ?hd (xs := ([] : List (S48))) (inner := []) (ok := fun _ => True) (okp := fun _ => True) ?hr ?hp (fun _ hk => hk) trivial (Below.refl _ _) (Nat.le_refl _) (by simp) ?_; (case hd => rfl); (case hg => rfl); (case hr => first | (go_simp; done) | (go_simp; rfl)); (case hp => exact (Reps.none _ _)); intro v203 w3 ho4 hb hg_ hnew_; clear hg_ hnew_; (first | rw [← Ny202.out] at ho4 | (simp only [Int.reduceToNat] at ho4; rw [← Ny202.out] at ho4)); have HO204 := am (Kd.R_lower ho4 (below_size (be HB))); replace HB := am (below_step (be HB) hb); clear hb ho4))
 go_loopg [5, 6] k (fun kq v5 v6 w' => ∃ (x5_1 : List (S48)) (x6_1 : Int), v6 = .int .i64 x6_1 ∧ Aside0 (spec_l01Chosen.l0 kq l0 l1 x5_1 x6_1 = some r) ∧ Aside0 (kq ≤ k) ∧ Aside0 (Kd.R k48 48 w' w.heap.size (fun _ => True) v5 x5_1) ∧ Aside0 (Below w.heap.size w w'))
 case atStart => exact ⟨(y202), (0), vv, H', ⟨Nat.le_refl _⟩, ⟨kr HO204⟩, ⟨be HB⟩⟩
 case round =>
  clear H'
  try clear c1
  try clear c2
  try clear p2
  obtain ⟨x5_1, x6_1, rfl, HA, HK1, HO_5, HB⟩ := hrel
  cases gk with
  | zero => exact absurd HA.out (by simp [spec_l01Chosen.l0])
  | succ k1 =>
   have H := HA.out
   clear HA
   simp only [spec_l01Chosen.l0] at H
   by_cases c5 : x6_1 < (l1.length : Int)
   ·rw [if_pos c5] at H
    have c5b0 : decide (x6_1 < (l1.length : Int)) = true := decide_eq_true c5
    clear c5
    by_cases c6 : 0 ≤ x6_1
    ·rw [if_pos c6] at H
     have c6b0 : decide (0 ≤ x6_1) = true := decide_eq_true c6
     have c6b1 : 0 ≤ x6_1 := c6
     clear c6
     by_cases c7 : 0 ≤ (rd l1 x6_1)
     ·rw [if_pos c7] at H
      have c7b0 : decide (0 ≤ (rd l1 x6_1)) = true := decide_eq_true c7
      have c7b1 : 0 ≤ (rd l1 x6_1) := c7
      clear c7
      by_cases c8 : (rd l1 x6_1) < (l0.length : Int)
      ·rw [if_pos c8] at H
       have c8b0 : decide ((rd l1 x6_1) < (l0.length : Int)) = true := decide_eq_true c8
       clear c8
       by_cases c9 : x5_1.length < 23456248059221
       ·rw [if_pos c9] at H
        have LMc9 := am c9
        clear c9
        obtain ⟨y207, hy207⟩ : ∃ y_ : List (S48), y_ = (x5_1 ++ [(⟨(⟨(rd_T48 l0 (rd l1 x6_1)).f0.f0, (rd_T48 l0 (rd l1 x6_1)).f0.f1⟩ : S46), (rd_T48 l0 (rd l1 x6_1)).f1, (rd_T48 l0 (rd l1 x6_1)).f2, (rd_T48 l0 (rd l1 x6_1)).f3, (rd_T48 l0 (rd l1 x6_1)).f4⟩ : S48)]) := ⟨_, rfl⟩
        replace H : (spec_l01Chosen.l0 k1 l0 l1 y207 (wrap64 (x6_1 + 1))) = some r := by first | (rw [hy207]; with_reducible exact H) | (have H2_ := (Option.bind_some _ _).symm.trans H; rw [hy207]; with_reducible exact H2_) | (have H2_ := (Option.bind_some _ _).symm.trans H; with_reducible exact H2_) | with_reducible exact H | (rw [hy207]; exact H) | exact H
        have Ny207 := am hy207
        clear hy207
        have H' := am H
        clear H
        have p205 : 0 ≤ (x6_1 : Int) := of_decide_eq_true (by first | (with_reducible assumption) | assumption)
        have q205 : x6_1 < (l1.length : Int) := of_decide_eq_true (by first | (with_reducible assumption) | assumption)
        obtain ⟨ad205, e205, hx205_0⟩ := Kd.at_int HR1.out x6_1 p205 q205
        cases e205
        replace hx205_0 := (HB.out.cell (World.block_lt_of_cell? w _ hx205_0)).trans hx205_0
        replace p205 := eq_true p205
        replace q205 := eq_true q205
        have p206 : 0 ≤ ((rd l1 x6_1) : Int) := of_decide_eq_true (by first | (with_reducible assumption) | assumption)
        have q206 : (rd l1 x6_1) < (l0.length : Int) := of_decide_eq_true (by first | (with_reducible assumption) | assumption)
        obtain ⟨ad206, e206, hx206_0, hx206_1, hx206_2, hx206_3, hx206_4, hx206_5⟩ := at_T48 HR0.out (rd l1 x6_1) p206 q206
        cases e206
        replace hx206_0 := (HB.out.cell (World.block_lt_of_cell? w _ hx206_0)).trans hx206_0
        replace hx206_1 := (HB.out.cell (World.block_lt_of_cell? w _ hx206_1)).trans hx206_1
        replace hx206_2 := (HB.out.cell (World.block_lt_of_cell? w _ hx206_2)).trans hx206_2
        replace hx206_3 := (HB.out.cell (World.block_lt_of_cell? w _ hx206_3)).trans hx206_3
        replace hx206_4 := (HB.out.cell (World.block_lt_of_cell? w _ hx206_4)).trans hx206_4
        replace hx206_5 := (HB.out.cell (World.block_lt_of_cell? w _ hx206_5)).trans hx206_5
        replace p206 := eq_true p206
        replace q206 := eq_true q206
        go_wp2_with (first | ((with_reducible refine gate_builtin (b := .append) (xs := #[.tmp 14, .tmp 22]) rfl ?_); at_builtin; refine Kd.R_append k48 (w0 := w) w.heap.size rfl (.tmp 14) (.tmp 22) 34 48 (.agg #[(.int .i8 0), (.int .i8 0), (.int .i8 0), (.int .i8 0), (.int .i8 0), (.int .i8 0)]) 6 rfl Try.underlying34 info48 rfl (by decide) (by omega) u5 x5_1 (⟨(⟨(rd_T48 l0 (rd l1 x6_1)).f0.f0, (rd_T48 l0 (rd l1 x6_1)).f0.f1⟩ : S46), (rd_T48 l0 (rd l1 x6_1)).f1, (rd_T48 l0 (rd l1 x6_1)).f2, (rd_T48 l0 (rd l1 x6_1)).f3, (rd_T48 l0 (rd l1 x6_1)).f4⟩ : S48) [.int .i8 ((rd_T48 l0 (rd l1 x6_1)).f0.f0), .int .i8 ((rd_T48 l0 (rd l1 x6_1)).f0.f1), .int .i8 ((rd_T48 l0 (rd l1 x6_1)).f1), .int .i8 ((rd_T48 l0 (rd l1 x6_1)).f2), .int .i8 ((rd_T48 l0 (rd l1 x6_1)).f3), .int .i8 ((rd_T48 l0 (rd l1 x6_1)).f4)] (fun _ => True) (fun _ => False) rfl rfl ?aP (fun _ hk => hk.elim) ?aF ?aO ?aB ?aS ?aL ?_; (case aP => exact k48_mkM _ _ _ (⟨(⟨(rd_T48 l0 (rd l1 x6_1)).f0.f0, (rd_T48 l0 (rd l1 x6_1)).f0.f1⟩ : S46), (rd_T48 l0 (rd l1 x6_1)).f1, (rd_T48 l0 (rd l1 x6_1)).f2, (rd_T48 l0 (rd l1 x6_1)).f3, (rd_T48 l0 (rd l1 x6_1)).f4⟩ : S48)); (case aB => exact (be HB)); (case aF => exact (fun _ _ => trivial)); (case aO => exact (kr HO_5)); (case aS => exact (below_size (be HB))); (case aL => have := LMc9.out; omega); intro v208 w10 ho hb hg hat; rw [← Ny207.out] at ho; have HO209 := am (ho); replace HB := am (hb); clear HO_5; clear ho hb hg hat))
        go_roundg k1
        case measure => have := HK1.out; omega
        case rel => exact ⟨(y207), (wrap64 (x6_1 + 1)), vv, H', ⟨by have := HK1.out; omega⟩, ⟨kr HO209⟩, ⟨be HB⟩⟩
       ·rw [if_neg c9] at H
        exact absurd H (by simp)
      ·rw [if_neg c8] at H
       exact absurd H (by simp)
     ·rw [if_neg c7] at H
      exact absurd H (by simp)
    ·rw [if_neg c6] at H
     exact absurd H (by simp)
   ·rw [if_neg c5] at H
    have c5b0 : decide (x6_1 < (l1.length : Int)) = false := decide_eq_false c5
    clear c5
    obtain rfl := Option.some.inj H
    go_wp2
    go_ret
    exact ⟨_, by first | rfl | (simp [errW_none, errW_some] <;> rfl) | (simp [*, errW_none, errW_some] <;> rfl), by (with_reducible repeat (first | apply Kd.R_alloc | apply Kd.R_drewN | apply Kd.R_drew)); exact HO_5.out, be HB⟩

end Go.Proofs.Ytigafbmdedjgdaa.PFnExactMostBoats
