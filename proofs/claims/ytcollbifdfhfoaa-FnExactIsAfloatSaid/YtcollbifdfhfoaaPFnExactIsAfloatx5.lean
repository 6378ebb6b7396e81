-- Written by a program out of this seat's translation (functions, and that the code comes to them).
import Derived.Test.YtcollbifdfhfoaaPFnExactIsAfloatx0
import Derived.Test.YtcollbifdfhfoaaPFnExactIsAfloatx1
import Derived.Test.YtcollbifdfhfoaaPFnExactIsAfloatx3
import Derived.Test.YtcollbifdfhfoaaPFnExactIsAfloatx4
namespace Go.Proofs.Ytcollbifdfhfoaa.PFnExactIsAfloat
open Go.RowKit Go.Proofs.YtcollbifdfhfoaaW.PrintWords Go.Proofs.YtcollbifdfhfoaaW.PrintLast Go.Proofs.YtcollbifdfhfoaaW.PrintMore
attribute [local go_sem] max2_int min2_int max_two min_two max_three min_three max_four min_four   -- for this text's walks alone
open Go.Proofs.Ytcollbifdfhfoaa.Bay Go.Proofs.Ytcollbifdfhfoaa.Short
attribute [local go_sem ↓] lv26_eq lv28_eq
attribute [local go_sem] lvv_set lvv_drewN lvv_drew lv26_run BayAt26_set BayAt26_drewN BayAt26_drew lv28_run BayAt28_set BayAt28_drewN BayAt28_drew
set_option linter.unusedVariables false
set_option linter.unusedSimpArgs false

/-! ### spec_l02First: function 143 -/
def spec_l02First.f (l0 : List (S103)) : Option (Int) := if 0 < (l0.length : Int) then (some (wrap64 ((rd_T103 l0 0).f0))) else (none)
set_option maxHeartbeats 8000000 in
set_option maxRecDepth 100000 in
theorem spec_l02First.calls (A0 : Option Addr) (c0 : Nat) (l0 : List (S103)) (r : Int) (w : World) (hr0 : Kd.C k103 w A0 l0.length l0) (hc0 : l0.length ≤ c0) (h : spec_l02First.f l0 = some r) :
  Calls Try.prog 143 #[.slice A0 l0.length c0] w fun e w' => e = .returned (.int .i64 r) ∧ Drawn0 w w' := by
 have HR0 := am hr0
 have HC0 := am hc0
 clear hr0 hc0
 have H : (if 0 < (l0.length : Int) then (some (wrap64 ((rd_T103 l0 0).f0))) else (none)) = some r := h
 clear h
 by_cases c2 : 0 < (l0.length : Int)
 ·rw [if_pos c2] at H
  have c2b0 : decide (0 < (l0.length : Int)) = true := decide_eq_true c2
  have c2b1 : decide (0 < l0.length) = true := decide_eq_true (by omega)
  clear c2
  obtain rfl := Option.some.inj H
  have p199 : 0 ≤ (0 : Int) := (by omega)
  have q199 : 0 < (l0.length : Int) := of_decide_eq_true (by first | (with_reducible assumption) | assumption)
  obtain ⟨ad199, e199, hx199_0, hx199_1⟩ := at_T103 HR0.out 0 p199 q199
  cases e199
  have qi199 : (0 < l0.length) = True := eq_true (by omega)
  (try rw [show ((0 : Int)).toNat = 0 from rfl] at hx199_0)
  (try rw [show 0 * 2 = 0 from rfl] at hx199_0)
  (try rw [Addr.add_zero'] at hx199_0)
  (try rw [show ((0 : Int)).toNat = 0 from rfl] at hx199_1)
  (try rw [show 0 * 2 = 0 from rfl] at hx199_1)
  (try rw [Addr.add_zero'] at hx199_1)
  replace p199 := eq_true p199
  replace q199 := eq_true q199
  go_enter Try.func143, Try.ntmps143
  go_wp2
  go_ret
  exact ⟨by first | rfl | (simp; done) | (simp [*]; done), by repeat (first | exact Drawn0.refl _ | apply Drawn0.step)⟩
 ·rw [if_neg c2] at H
  exact absurd H (by simp)

/-! ### spec_l02Last: function 144 -/
def spec_l02Last.f (l0 : List (S103)) : Option (Int) := if 0 ≤ (wrap64 ((l0.length : Int) - 1)) then (if (wrap64 ((l0.length : Int) - 1)) < (l0.length : Int) then (some (wrap64 ((rd_T103 l0 (wrap64 ((l0.length : Int) - 1))).f0))) else (none)) else (none)
set_option maxHeartbeats 8000000 in
set_option maxRecDepth 100000 in
theorem spec_l02Last.calls (A0 : Option Addr) (c0 : Nat) (l0 : List (S103)) (r : Int) (w : World) (hr0 : Kd.C k103 w A0 l0.length l0) (hc0 : l0.length ≤ c0) (h : spec_l02Last.f l0 = some r) :
  Calls Try.prog 144 #[.slice A0 l0.length c0] w fun e w' => e = .returned (.int .i64 r) ∧ Drawn0 w w' := by
 have HR0 := am hr0
 have HC0 := am hc0
 clear hr0 hc0
 have H : (if 0 ≤ (wrap64 ((l0.length : Int) - 1)) then (if (wrap64 ((l0.length : Int) - 1)) < (l0.length : Int) then (some (wrap64 ((rd_T103 l0 (wrap64 ((l0.length : Int) - 1))).f0))) else (none)) else (none)) = some r := h
 clear h
 obtain ⟨ji2, hji2⟩ : ∃ j_ : Int, (wrap64 ((l0.length : Int) - 1)) = j_ := ⟨_, rfl⟩
 replace H : (if 0 ≤ (ji2) then (if (ji2) < (l0.length : Int) then (some (wrap64 ((rd_T103 l0 (ji2)).f0))) else (none)) else (none)) = some r := by first | (rw [hji2] at H; exact H) | (simp only [hji2] at H ⊢; exact H)
 have hji2w : (IntKind.i64.wrap ((l0.length : Int) - 1)) = ji2 := (i64_w _).trans hji2
 by_cases c3 : 0 ≤ (ji2)
 ·rw [if_pos c3] at H
  have c3b0 : decide (0 ≤ (ji2)) = true := decide_eq_true c3
  have c3b1 : 0 ≤ (ji2) := c3
  clear c3
  by_cases c4 : (ji2) < (l0.length : Int)
  ·rw [if_pos c4] at H
   have c4b0 : decide ((ji2) < (l0.length : Int)) = true := decide_eq_true c4
   clear c4
   obtain rfl := Option.some.inj H
   have p200 : 0 ≤ ((ji2) : Int) := of_decide_eq_true (by first | (with_reducible assumption) | assumption)
   have q200 : (ji2) < (l0.length : Int) := of_decide_eq_true (by first | (with_reducible assumption) | assumption)
   obtain ⟨ad200, e200, hx200_0, hx200_1⟩ := at_T103 HR0.out (ji2) p200 q200
   cases e200
   replace p200 := eq_true p200
   replace q200 := eq_true q200
   go_enter Try.func144, Try.ntmps144
   go_wp2
   go_ret
   exact ⟨by first | rfl | (simp; done) | (simp only [← hji2] <;> (first | rfl | simp)) | (simp [*]; done), by repeat (first | exact Drawn0.refl _ | apply Drawn0.step)⟩
  ·rw [if_neg c4] at H
   exact absurd H (by simp)
 ·rw [if_neg c3] at H
  exact absurd H (by simp)

/-! ### spec_l02In: function 153 -/
def spec_l02In.f (l0 : List (S103)) (a1 : Int) : Option (Bool) := if (l0.length : Int) > 0 then ((spec_l02First.f l0).bind fun t201 => ((spec_l02Last.f l0).bind fun t202 => ((spec_l00In.f a1 t201 t202).bind fun t203 => (some t203)))) else (some false)
set_option maxHeartbeats 8000000 in
set_option maxRecDepth 100000 in
theorem spec_l02In.calls (A0 : Option Addr) (c0 : Nat) (l0 : List (S103)) (a1 : Int) (r : Bool) (w : World) (hr0 : Kd.C k103 w A0 l0.length l0) (hc0 : l0.length ≤ c0) (h : spec_l02In.f l0 a1 = some r) :
  Calls Try.prog 153 #[.slice A0 l0.length c0, .int .i64 a1] w fun e w' => e = .returned (.bool r) ∧ Drawn0 w w' := by
 have HR0 := am hr0
 have HC0 := am hc0
 clear hr0 hc0
 have H : (if (l0.length : Int) > 0 then ((spec_l02First.f l0).bind fun t201 => ((spec_l02Last.f l0).bind fun t202 => ((spec_l00In.f a1 t201 t202).bind fun t203 => (some t203)))) else (some false)) = some r := h
 clear h
 by_cases c3 : (l0.length : Int) > 0
 ·rw [if_pos c3] at H
  have c3b0 : decide (0 < (l0.length : Int)) = true := decide_eq_true c3
  have c3b1 : decide (0 < l0.length) = true := decide_eq_true (by omega)
  clear c3
  replace H := Option.bind_eq_some_iff.mp H
  obtain ⟨t201, A40, H⟩ := H
  try dsimp only at H
  have A4 := am A40
  clear A40
  replace H := Option.bind_eq_some_iff.mp H
  obtain ⟨t202, A50, H⟩ := H
  try dsimp only at H
  have A5 := am A50
  clear A50
  replace H := Option.bind_eq_some_iff.mp H
  obtain ⟨t203, A60, H⟩ := H
  try dsimp only at H
  have A6 := am A60
  clear A60
  obtain rfl := Option.some.inj H
  go_enter Try.func153, Try.ntmps153
  go_wp2_with (first | (go_at_call 143; (with_reducible refine (spec_l02First.calls _ _ l0 t201 _ ?side1 ?side2 A4.out).mono ?_); (case side1 => repeat (first | exact HR0.out | (with_reducible refine Kd.C_alloc ?_ _) | (with_reducible refine Kd.C_drewN ?_ _) | (with_reducible refine Kd.C_drew ?_))); (case side2 => exact HC0.out); rintro e w' ⟨rfl, ⟨nd, rfl⟩⟩) | (go_at_call 144; (with_reducible refine (spec_l02Last.calls _ _ l0 t202 _ ?side1 ?side2 A5.out).mono ?_); (case side1 => repeat (first | exact HR0.out | (with_reducible refine Kd.C_alloc ?_ _) | (with_reducible refine Kd.C_drewN ?_ _) | (with_reducible refine Kd.C_drew ?_))); (case side2 => exact HC0.out); rintro e w' ⟨rfl, ⟨nd, rfl⟩⟩) | (go_at_call 164; (with_reducible refine (spec_l00In.calls a1 t201 t202 t203 _ A6.out).mono ?_); rintro e w' ⟨rfl, ⟨nd, rfl⟩⟩))
  go_ret
  exact ⟨by first | rfl | (simp; done) | (simp [*]; done), by repeat (first | exact Drawn0.refl _ | apply Drawn0.step)⟩
 ·rw [if_neg c3] at H
  have c3b0 : decide (0 < (l0.length : Int)) = false := decide_eq_false c3
  have c3b1 : decide (0 < l0.length) = false := decide_eq_false (by omega)
  clear c3
  obtain rfl := Option.some.inj H
  go_enter Try.func153, Try.ntmps153
  go_wp2
  go_ret
  exact ⟨by first | rfl | (simp; done) | (simp [*]; done), by repeat (first | exact Drawn0.refl _ | apply Drawn0.step)⟩

/-! ### spec_IsAfloat: function 87 -/
def spec_IsAfloat.f (k : Nat) (a0_0 : Int) (a0_1 : Int) (a0_2 : (Nat → Int)) (a1_0 : Int) (a1_1 : Int) (a1_2 : Int) (a1_3 : Int) (a1_4 : Int) (a1_5 : Int) (l2 : List (S103)) (a3 : Int) : Option (Bool × Int) := (spec_l02In.f l2 a3).bind fun t209 => ((spec_l02Boats.f k a0_0 a0_1 a0_2 (([(⟨(⟨a1_0, a1_1⟩ : S36), a1_2, a1_3, a1_4, a1_5⟩ : S38)] : List (S38))) l2 t209).bind fun bt210 => (if bt210.1 = 0 then ((spec_l02Height.f k l2 a3).bind fun t214 => ((spec_l02Afloat.f bt210.2.1 bt210.2.2.1 bt210.2.2.2 a1_0 a1_1 a1_2 a1_3 a1_4 a1_5 t214).bind fun bt215 => (some (bt215.1, 0)))) else (some (false, bt210.1))))
def spec_IsAfloat.T1 : Bool × List (List Nat × List Nat) := (true, [([], []), ([0], [0]), ([], []), ([], []), ([], []), ([3, 4], [3, 4]), ([1, 2, 5, 5], [1, 2, 5]), ([6, 6, 0, 1, 2, 3, 4, 5, 6], [6])])
def spec_IsAfloat.B1 : List Nat := [0, 1, 0, 0, 0, 24, 63, 127]
theorem spec_IsAfloat.tab1 : rtab .any (opsOf Try.f87 1) = spec_IsAfloat.T1 := by kernel_rfl
theorem spec_IsAfloat.bits1 : waitsOk spec_IsAfloat.T1.2 spec_IsAfloat.B1 = true := by kernel_rfl
set_option maxHeartbeats 8000000 in
set_option maxRecDepth 100000 in
theorem spec_IsAfloat.calls (k : Nat) (a0_0 : Int) (a0_1 : Int) (a0_2 : (Nat → Int)) (a1_0 : Int) (a1_1 : Int) (a1_2 : Int) (a1_3 : Int) (a1_4 : Int) (a1_5 : Int) (A2 : Option Addr) (c2 : Nat) (l2 : List (S103)) (a3 : Int) (r1 : Bool) (r2 : Int) (w : World) (hr2 : Kd.C k103 w A2 l2.length l2) (hc2 : l2.length ≤ c2) (h : spec_IsAfloat.f k a0_0 a0_1 a0_2 a1_0 a1_1 a1_2 a1_3 a1_4 a1_5 l2 a3 = some (r1, r2)) :
  Calls Try.prog 87 #[.agg (csBay a0_0 a0_1 a0_2), .agg #[.int .i8 a1_0, .int .i8 a1_1, .int .i8 a1_2, .int .i8 a1_3, .int .i8 a1_4, .int .i8 a1_5], .slice A2 l2.length c2, .int .i64 a3] w fun e w' => e = .returned (.tuple #[.bool r1, .int .i64 r2]) ∧ Below w.heap.size w w' := by
 have hu28 := Try.underlying28
 have hu38 := Try.underlying38
 have HR2 := am hr2
 have HC2 := am hc2
 clear hr2 hc2
 have HB := am (Below.refl w.heap.size w)
 have H : ((spec_l02In.f l2 a3).bind fun t209 => ((spec_l02Boats.f k a0_0 a0_1 a0_2 (([(⟨(⟨a1_0, a1_1⟩ : S36), a1_2, a1_3, a1_4, a1_5⟩ : S38)] : List (S38))) l2 t209).bind fun bt210 => (if bt210.1 = 0 then ((spec_l02Height.f k l2 a3).bind fun t214 => ((spec_l02Afloat.f bt210.2.1 bt210.2.2.1 bt210.2.2.2 a1_0 a1_1 a1_2 a1_3 a1_4 a1_5 t214).bind fun bt215 => (some (bt215.1, 0)))) else (some (false, bt210.1))))) = some (r1, r2) := h
 clear h
 obtain ⟨y206, hy206⟩ : ∃ y_ : List (S38), y_ = (([(⟨(⟨a1_0, a1_1⟩ : S36), a1_2, a1_3, a1_4, a1_5⟩ : S38)] : List (S38))) := ⟨_, rfl⟩
 replace H : ((spec_l02In.f l2 a3).bind fun t209 => ((spec_l02Boats.f k a0_0 a0_1 a0_2 y206 l2 t209).bind fun bt210 => (if bt210.1 = 0 then ((spec_l02Height.f k l2 a3).bind fun t214 => ((spec_l02Afloat.f bt210.2.1 bt210.2.2.1 bt210.2.2.2 a1_0 a1_1 a1_2 a1_3 a1_4 a1_5 t214).bind fun bt215 => (some (bt215.1, 0)))) else (some (false, bt210.1))))) = some (r1, r2) := by first | (rw [hy206]; with_reducible exact H) | (have H2_ := (Option.bind_some _ _).symm.trans H; rw [hy206]; with_reducible exact H2_) | (have H2_ := (Option.bind_some _ _).symm.trans H; with_reducible exact H2_) | with_reducible exact H | (rw [hy206]; exact H) | exact H
 have Ny206 := am hy206
 clear hy206
 replace H := Option.bind_eq_some_iff.mp H
 obtain ⟨t209, A50, H⟩ := H
 try dsimp only at H
 have A5 := am A50
 clear A50
 replace H := Option.bind_eq_some_iff.mp H
 obtain ⟨⟨t210, t211, t212, t213⟩, A60, H⟩ := H
 try dsimp only at H
 have A6 := am A60
 clear A60
 by_cases c7 : t210 = 0
 ·rw [if_pos c7] at H
  have c7b0 : (t210 == 0) = true := beq_iff_eq.mpr c7
  have c7b1 : (t210 != 0) = false := bne_eq_false_iff_eq.mpr c7
  clear c7
  replace H := Option.bind_eq_some_iff.mp H
  obtain ⟨t214, A80, H⟩ := H
  try dsimp only at H
  have A8 := am A80
  clear A80
  replace H := Option.bind_eq_some_iff.mp H
  obtain ⟨⟨t215, t216, t217, t218⟩, A90, H⟩ := H
  try dsimp only at H
  have A9 := am A90
  clear A90
  simp only [Option.some.injEq, Prod.mk.injEq] at H
  obtain ⟨rfl, rfl⟩ := H
  go_enter Try.func87, Try.ntmps87
  try go_wp2_with (first | ((with_reducible refine gate_dst (N := 4) rfl ?_); refine bxe (N := 4) (cs := (csBay a0_0 a0_1 a0_2)) (t := 28) ?_; intro gb204 hg w10 hbox hb; have HI204 := am ((show IsS28 w w10 gb204 a0_0 a0_1 a0_2 from ⟨hbox, by rw [hg]; exact (below_size (be HB))⟩)); have GW204 := am (gN hg (below_size (be HB))); have GE204 := am (gN hg (below_size (be HB))); replace HB := am (below_step (be HB) hb); clear hb hbox hg) | ((with_reducible refine gate_dst (N := 5) rfl ?_); refine bxe (N := 5) (cs := #[.int .i8 a1_0, .int .i8 a1_1, .int .i8 a1_2, .int .i8 a1_3, .int .i8 a1_4, .int .i8 a1_5]) (t := 38) ?_; intro gb205 hg w11 hbox hb; have BK205 := am (hbox); have GW205 := am (gN hg (below_size (be HB))); have GE205 := am (gN hg (below_size (be HB))); have NB204_205 := am (nLi hg (IsS28.lt (show IsS28 w _ gb204 a0_0 a0_1 a0_2 from si28 HI204))); have NB205_204 := am (nRi hg (IsS28.lt (show IsS28 w _ gb204 a0_0 a0_1 a0_2 from si28 HI204))); replace HI204 := am (IsS28.below (si28 HI204) hb); replace HB := am (below_step (be HB) hb); clear hb hbox hg))
  have n0_ := am (blk_drew BK205.out)
  have n1_ := am (IsS28.drew HI204.out)
  have n2_ := am (below_drew1 HB.out)
  clear BK205
  clear HI204
  clear HB
  have BK205 := n0_
  have HI204 := n1_
  have HB := n2_
  clear n0_ n1_ n2_
  refine start_ (n := 8) (S := fun w' => w'.cell? ⟨gb205, 0, none⟩ = some (.int .i8 a1_0) ∧ w'.cell? ⟨gb205, 1, none⟩ = some (.int .i8 a1_1) ∧ w'.cell? ⟨gb205, 2, none⟩ = some (.int .i8 a1_2) ∧ w'.cell? ⟨gb205, 3, none⟩ = some (.int .i8 a1_3) ∧ w'.cell? ⟨gb205, 4, none⟩ = some (.int .i8 a1_4) ∧ w'.cell? ⟨gb205, 5, none⟩ = some (.int .i8 a1_5)) (ds := []) #[false, false, false, false, false, false, false, false] (by kernel_rfl) rfl rfl ⟨(blk_cell BK205.out 0).trans rfl, (blk_cell BK205.out 1).trans rfl, (blk_cell BK205.out 2).trans rfl, (blk_cell BK205.out 3).trans rfl, (blk_cell BK205.out 4).trans rfl, (blk_cell BK205.out 5).trans rfl⟩ (fun hHeld => ?_); refine with_tabW spec_IsAfloat.tab1 spec_IsAfloat.bits1 (fun HT_ HW_ => ?_)
  generalize w11.drew = w12 at BK205 HI204 HB hHeld ⊢
  refine pS (i := 2) (some 13) #[false, false, true, false, false, false, false, false] (any_of HT_.out (by kernel_rfl)) ?_
  refine pS (i := 3) (some 14) #[false, false, true, true, false, false, false, false] (any_of HT_.out (by kernel_rfl)) ?_
  refine pS (i := 4) (some 15) #[false, false, true, true, true, false, false, false] (any_of HT_.out (by kernel_rfl)) ?_
  refine tS (i := 0) (some 11) #[true, false, true, true, true, false, false, false] (take_ofW HT_.out HW_.out (by kernel_rfl)) hHeld ?_
  refine join_ (σ := Value) 2 #[true, true, true, true, true, true, false, false] (fun s_ => [(12, s_), (16, .bool t209)]) (fun s_ w' => (w'.cell? ⟨gb205, 0, none⟩ = some (.int .i8 a1_0) ∧ w'.cell? ⟨gb205, 1, none⟩ = some (.int .i8 a1_1) ∧ w'.cell? ⟨gb205, 2, none⟩ = some (.int .i8 a1_2) ∧ w'.cell? ⟨gb205, 3, none⟩ = some (.int .i8 a1_3) ∧ w'.cell? ⟨gb205, 4, none⟩ = some (.int .i8 a1_4) ∧ w'.cell? ⟨gb205, 5, none⟩ = some (.int .i8 a1_5)) ∧ (Kd.R k38 38 w' w.heap.size (fun k_ => k_ ≠ gb205) s_ y206) ∧ (w'.heap[gb205]? = some (.cells #[.int .i8 a1_0, .int .i8 a1_1, .int .i8 a1_2, .int .i8 a1_3, .int .i8 a1_4, .int .i8 a1_5] 38 (0, 0))) ∧ (IsS28 w w' gb204 a0_0 a0_1 a0_2) ∧ (Below w.heap.size w w')) ?_ ?_
  rotate_left
  ·intro hCont
   refine two_ (i := 1) (j := 5) (Ni := some 12) (Nj := some 16) #[true, true, true, true, true, false, false, false] #[true, false, true, true, true, true, false, false] rfl rfl rfl rfl (two_of HT_.out (by kernel_rfl)) (by decide) (by decide) (fun K hK => ?_) (fun K hK => ?_)
   ·skip
    refine Kd.R_lit_step k38 _ 38 ?hg (N := 12) ?hd (xs := ([(⟨(⟨a1_0, a1_1⟩ : S36), a1_2, a1_3, a1_4, a1_5⟩ : S38)] : List (S38))) (inner := [.int .i8 a1_0, .int .i8 a1_1, .int .i8 a1_2, .int .i8 a1_3, .int .i8 a1_4, .int .i8 a1_5]) (ok := fun _ => True) (okp := fun _ => True) ?hr ?hp (fun _ hk => hk) trivial (Below.refl _ _) (Nat.le_refl _) (by simp) ?_; (case hd => rfl); (case hg => rfl); (case hr => first | (go_simp; done) | (go_simp; rfl)); (case hp => exact (Reps.c6 (show Kd.M k38 _ _ _ (⟨(⟨a1_0, a1_1⟩ : S36), a1_2, a1_3, a1_4, a1_5⟩ : S38) [.int .i8 a1_0, .int .i8 a1_1, .int .i8 a1_2, .int .i8 a1_3, .int .i8 a1_4, .int .i8 a1_5] from (k38_mkM _ _ _ (⟨(⟨a1_0, a1_1⟩ : S36), a1_2, a1_3, a1_4, a1_5⟩ : S38) )) (Reps.none _ _)))
    intro v207 w13 ho14 hb hg_ hnew_
    clear hg_ hnew_
    (first | rw [← Ny206.out] at ho14 | (simp only [Int.reduceToNat] at ho14; rw [← Ny206.out] at ho14))
    have n0_ := am (Kd.R_lower (Kd.R_newB ho14 (g := gb205) (o := .cells #[.int .i8 a1_0, .int .i8 a1_1, .int .i8 a1_2, .int .i8 a1_3, .int .i8 a1_4, .int .i8 a1_5] 38 (0, 0)) (kb BK205)) (below_size (be HB)))
    have n1_ := am (IsS28.below (si28 HI204) hb)
    have n2_ := bB BK205 hb
    have n3_ := am (below_step (be HB) hb)
    clear HI204
    clear BK205
    clear HB
    have HO208 := n0_
    have HI204 := n1_
    have BK205 := n2_
    have HB := n3_
    clear n0_ n1_ n2_ n3_
    clear hb ho14
    refine hK.out _ _ ⟨(blk_cell BK205.out 0).trans rfl, (blk_cell BK205.out 1).trans rfl, (blk_cell BK205.out 2).trans rfl, (blk_cell BK205.out 3).trans rfl, (blk_cell BK205.out 4).trans rfl, (blk_cell BK205.out 5).trans rfl⟩ (fun hHeld => ?_)
    clear hK K
    refine norm_ (a' := ?_) ?_ ?_
    rotate_left
    ·show Act.put _ (some 12) _ = _
     simp only [Act.put, List.setIfInBounds_toArray, List.set_cons_zero, List.set_cons_succ, i64_w, i32_w]
     rfl
    refine one_ (i := 5) (N := some 16) #[true, true, true, true, true, true, false, false] rfl rfl (one_of HT_.out (by kernel_rfl)) (by decide) (fun K hK => ?_)
    refine goes_ Try.func153 (by kernel_rfl) rfl #[.slice A2 l2.length c2, .int .i64 a3] (by rfl) rfl rfl (by (try simp only [List.map_toArray, List.map_cons, List.map_nil]); first | done | rfl | (simp only [List.length_drop, List.length_take]; rfl)) ?_
    with_reducible refine (spec_l02In.calls _ _ l2 a3 t209 _ ?side1 ?side2 A5.out).mono ?_
    (case side1 => repeat (first | exact (Kd.C_below HR2.out HB.out) | (with_reducible refine Kd.C_alloc ?_ _) | (with_reducible refine Kd.C_drewN ?_ _) | (with_reducible refine Kd.C_drew ?_)))
    (case side2 => exact HC2.out)
    rintro e w' ⟨rfl, ⟨nd, rfl⟩⟩
    refine ⟨_, rfl, ?_⟩
    refine hK.out _ _ ⟨(blk_cell BK205.out 0).trans rfl, (blk_cell BK205.out 1).trans rfl, (blk_cell BK205.out 2).trans rfl, (blk_cell BK205.out 3).trans rfl, (blk_cell BK205.out 4).trans rfl, (blk_cell BK205.out 5).trans rfl⟩ (fun hHeld => ?_)
    clear hK K
    refine norm_ (a' := ?_) ?_ ?_
    rotate_left
    ·show Act.put _ (some 16) _ = _
     simp only [Act.put, List.setIfInBounds_toArray, List.set_cons_zero, List.set_cons_succ, i64_w, i32_w]
     rfl
    exact norm_ (by simp only [putAll, Act.put, List.setIfInBounds_toArray, List.set_cons_zero, List.set_cons_succ]) (hCont (v207) _ ⟨hHeld, (by (with_reducible repeat (first | apply Kd.R_alloc | apply Kd.R_drewN | apply Kd.R_drew)); exact Kd.R_mono HO208.out (fun _ hk => hk.2)), (kb BK205), (si28 HI204), (be HB)⟩)
   ·skip
    refine goes_ Try.func153 (by kernel_rfl) rfl #[.slice A2 l2.length c2, .int .i64 a3] (by rfl) rfl rfl (by (try simp only [List.map_toArray, List.map_cons, List.map_nil]); first | done | rfl | (simp only [List.length_drop, List.length_take]; rfl)) ?_
    with_reducible refine (spec_l02In.calls _ _ l2 a3 t209 _ ?side1 ?side2 A5.out).mono ?_
    (case side1 => repeat (first | exact (Kd.C_below HR2.out HB.out) | (with_reducible refine Kd.C_alloc ?_ _) | (with_reducible refine Kd.C_drewN ?_ _) | (with_reducible refine Kd.C_drew ?_)))
    (case side2 => exact HC2.out)
    rintro e w' ⟨rfl, ⟨nd, rfl⟩⟩
    refine ⟨_, rfl, ?_⟩
    refine hK.out _ _ ⟨(blk_cell BK205.out 0).trans rfl, (blk_cell BK205.out 1).trans rfl, (blk_cell BK205.out 2).trans rfl, (blk_cell BK205.out 3).trans rfl, (blk_cell BK205.out 4).trans rfl, (blk_cell BK205.out 5).trans rfl⟩ (fun hHeld => ?_)
    clear hK K
    refine norm_ (a' := ?_) ?_ ?_
    rotate_left
    ·show Act.put _ (some 16) _ = _
     simp only [Act.put, List.setIfInBounds_toArray, List.set_cons_zero, List.set_cons_succ, i64_w, i32_w]
     rfl
    refine one_ (i := 1) (N := some 12) #[true, true, true, true, true, true, false, false] rfl rfl (one_of HT_.out (by kernel_rfl)) (by decide) (fun K hK => ?_)
    refine Kd.R_lit_step k38 _ 38 ?hg (N := 12) ?hd (xs := ([(⟨(⟨a1_0, a1_1⟩ : S36), a1_2, a1_3, a1_4, a1_5⟩ : S38)] : List (S38))) (inner := [.int .i8 a1_0, .int .i8 a1_1, .int .i8 a1_2, .int .i8 a1_3, .int .i8 a1_4, .int .i8 a1_5]) (ok := fun _ => True) (okp := fun _ => True) ?hr ?hp (fun _ hk => hk) trivial (Below.refl _ _) (Nat.le_refl _) (by simp) ?_; (case hd => rfl); (case hg => rfl); (case hr => first | (go_simp; done) | (go_simp; rfl)); (case hp => exact (Reps.c6 (show Kd.M k38 _ _ _ (⟨(⟨a1_0, a1_1⟩ : S36), a1_2, a1_3, a1_4, a1_5⟩ : S38) [.int .i8 a1_0, .int .i8 a1_1, .int .i8 a1_2, .int .i8 a1_3, .int .i8 a1_4, .int .i8 a1_5] from (k38_mkM _ _ _ (⟨(⟨a1_0, a1_1⟩ : S36), a1_2, a1_3, a1_4, a1_5⟩ : S38) )) (Reps.none _ _)))
    intro v207 w13 ho14 hb hg_ hnew_
    clear hg_ hnew_
    (first | rw [← Ny206.out] at ho14 | (simp only [Int.reduceToNat] at ho14; rw [← Ny206.out] at ho14))
    have n0_ := am (Kd.R_lower (Kd.R_newB ho14 (g := gb205) (o := .cells #[.int .i8 a1_0, .int .i8 a1_1, .int .i8 a1_2, .int .i8 a1_3, .int .i8 a1_4, .int .i8 a1_5] 38 (0, 0)) (kb BK205)) (below_size (be HB)))
    have n1_ := am (IsS28.below (si28 HI204) hb)
    have n2_ := bB BK205 hb
    have n3_ := am (below_step (be HB) hb)
    clear HI204
    clear BK205
    clear HB
    have HO208 := n0_
    have HI204 := n1_
    have BK205 := n2_
    have HB := n3_
    clear n0_ n1_ n2_ n3_
    clear hb ho14
    refine hK.out _ _ ⟨(blk_cell BK205.out 0).trans rfl, (blk_cell BK205.out 1).trans rfl, (blk_cell BK205.out 2).trans rfl, (blk_cell BK205.out 3).trans rfl, (blk_cell BK205.out 4).trans rfl, (blk_cell BK205.out 5).trans rfl⟩ (fun hHeld => ?_)
    clear hK K
    refine norm_ (a' := ?_) ?_ ?_
    rotate_left
    ·show Act.put _ (some 12) _ = _
     simp only [Act.put, List.setIfInBounds_toArray, List.set_cons_zero, List.set_cons_succ, i64_w, i32_w]
     rfl
    exact norm_ (by simp only [putAll, Act.put, List.setIfInBounds_toArray, List.set_cons_zero, List.set_cons_succ]) (hCont (v207) _ ⟨hHeld, (by (with_reducible repeat (first | apply Kd.R_alloc | apply Kd.R_drewN | apply Kd.R_drew)); exact Kd.R_mono HO208.out (fun _ hk => hk.2)), (kb BK205), (si28 HI204), (be HB)⟩)
  rintro v207 w15 ⟨hS_, h0_, h1_, h2_, h3_⟩
  have n0_ : Aside0 (Kd.R k38 38 w15 w.heap.size (fun k_ => k_ ≠ gb205) v207 y206) := ⟨h0_⟩
  have n1_ : Aside0 (w15.heap[gb205]? = some (.cells #[.int .i8 a1_0, .int .i8 a1_1, .int .i8 a1_2, .int .i8 a1_3, .int .i8 a1_4, .int .i8 a1_5] 38 (0, 0))) := ⟨h1_⟩
  have n2_ : Aside0 (IsS28 w w15 gb204 a0_0 a0_1 a0_2) := ⟨h2_⟩
  have n3_ : Aside0 (Below w.heap.size w w15) := ⟨h3_⟩
  clear BK205
  clear HI204
  clear HB
  clear h0_ h1_ h2_ h3_
  have HO208 := n0_
  have BK205 := n1_
  have HI204 := n2_
  have HB := n3_
  clear n0_ n1_ n2_ n3_
  have hHeld : w15.cell? ⟨gb205, 0, none⟩ = some (.int .i8 a1_0) ∧ w15.cell? ⟨gb205, 1, none⟩ = some (.int .i8 a1_1) ∧ w15.cell? ⟨gb205, 2, none⟩ = some (.int .i8 a1_2) ∧ w15.cell? ⟨gb205, 3, none⟩ = some (.int .i8 a1_3) ∧ w15.cell? ⟨gb205, 4, none⟩ = some (.int .i8 a1_4) ∧ w15.cell? ⟨gb205, 5, none⟩ = some (.int .i8 a1_5) := hS_
  obtain ⟨Ao16, co16, eo16⟩ := Kd.R_slice HO208.out
  (first | subst eo16 | (injection eo16 with f1_ f2_ f3_; have f4_ := f1_.symm; have f5_ := f3_.symm; clear f1_ f2_ f3_; subst f4_; subst f5_))
  refine norm_ (a' := ?_) ?_ ?_
  rotate_left
  ·simp only [putAll, Act.put, List.setIfInBounds_toArray, List.set_cons_zero, List.set_cons_succ]
   rfl
  refine one_ (i := 6) (N := some 17) #[true, true, true, true, true, true, true, false] rfl rfl (one_of HT_.out (by kernel_rfl)) (by decide) (fun K hK => ?_)
  refine goes_ Try.func142 (by kernel_rfl) rfl #[.pointer (some ⟨gb204, 0, none⟩), .slice Ao16 y206.length co16, .slice A2 l2.length c2, .bool t209] (by rfl) rfl rfl (by (try simp only [List.map_toArray, List.map_cons, List.map_nil]); first | done | rfl | (simp only [List.length_drop, List.length_take]; rfl)) ?_
  with_reducible refine (spec_l02Boats.calls k gb204 a0_0 a0_1 a0_2 _ _ y206 _ _ l2 t209 t210 t211 t212 t213 w _ ?side1 ?side2 ?side3 ?side4 ?side5 ?side6 A6.out).mono ?_
  (case side1 => exact si28 HI204)
  (case side2 => exact be HB)
  (case side3 => exact Kd.C_foot_own (IsS28.apart (show IsS28 w _ gb204 a0_0 a0_1 a0_2 from si28 HI204) (kr HO208) (by decide)) (fun _ h_ => h_.2))
  (case side4 => exact (Kd.R_reads' HO208.out).2.1)
  (case side5 => exact Kd.C_foot_came k103_heap HR2.out (be HB) (IsS28.ge HI204.out))
  (case side6 => exact HC2.out)
  rintro e w17 ⟨rfl, hi, hb, hk⟩
  refine ⟨_, rfl, ?_⟩
  have n0_ := am (KeepBut.blk hk (g' := gb205) (o := .cells #[.int .i8 a1_0, .int .i8 a1_1, .int .i8 a1_2, .int .i8 a1_3, .int .i8 a1_4, .int .i8 a1_5] 38 (0, 0)) (kb BK205) NB205_204.out (by simp))
  have n1_ := am (Kd.R_mono (Kd.R_keep (IsS28.apart (show IsS28 w _ gb204 a0_0 a0_1 a0_2 from si28 HI204) (kr HO208) (by decide)) hk (fun _ h => h.2)) (fun _ h => h.1))
  have n2_ := am (hb)
  have n3_ := am (hi)
  clear BK205
  clear HO208
  clear HB
  clear HI204
  have BK205 := n0_
  have HO208 := n1_
  have HB := n2_
  have HI204 := n3_
  clear n0_ n1_ n2_ n3_
  (try clear hb)
  (try clear hb2)
  (try clear hk)
  (try clear hi)
  refine hK.out _ _ ⟨(blk_cell BK205.out 0).trans rfl, (blk_cell BK205.out 1).trans rfl, (blk_cell BK205.out 2).trans rfl, (blk_cell BK205.out 3).trans rfl, (blk_cell BK205.out 4).trans rfl, (blk_cell BK205.out 5).trans rfl⟩ (fun hHeld => ?_)
  clear hK K
  refine norm_ (a' := ?_) ?_ ?_
  rotate_left
  ·show Act.put _ (some 17) _ = _
   simp only [Act.put, List.setIfInBounds_toArray, List.set_cons_zero, List.set_cons_succ, i64_w, i32_w]
   rfl
  refine pS (i := 7) (some 10) #[true, true, true, true, true, true, true, true] (any_of HT_.out (by kernel_rfl)) ?_
  refine done_ (done_of HT_.out (by kernel_rfl)) ?_
  try go_wp2
  have n0_ := am (Kd.R_drew HO208.out)
  have n1_ := am (blk_drew BK205.out)
  have n2_ := am (IsS28.drew HI204.out)
  have n3_ := am (below_drew1 HB.out)
  clear HO208
  clear BK205
  clear HI204
  clear HB
  have HO208 := n0_
  have BK205 := n1_
  have HI204 := n2_
  have HB := n3_
  clear n0_ n1_ n2_ n3_
  refine start_ (n := 7) (S := fun w' => w'.cell? ⟨gb205, 0, none⟩ = some (.int .i8 a1_0) ∧ w'.cell? ⟨gb205, 1, none⟩ = some (.int .i8 a1_1) ∧ w'.cell? ⟨gb205, 2, none⟩ = some (.int .i8 a1_2) ∧ w'.cell? ⟨gb205, 3, none⟩ = some (.int .i8 a1_3) ∧ w'.cell? ⟨gb205, 4, none⟩ = some (.int .i8 a1_4) ∧ w'.cell? ⟨gb205, 5, none⟩ = some (.int .i8 a1_5)) (ds := []) #[false, false, false, false, false, false, false] (by kernel_rfl) rfl rfl ⟨(blk_cell BK205.out 0).trans rfl, (blk_cell BK205.out 1).trans rfl, (blk_cell BK205.out 2).trans rfl, (blk_cell BK205.out 3).trans rfl, (blk_cell BK205.out 4).trans rfl, (blk_cell BK205.out 5).trans rfl⟩ (fun hHeld => ?_)
  generalize w17.drew = w18 at HO208 BK205 HI204 HB hHeld ⊢
  refine pure_ (i := 1) (N := some 22) (v := ?_) (a' := ?_) #[false, true, false, false, false, false, false] rfl rfl (by kernel_rfl) (fun _ _ _ h => h) (Or.inl ⟨by rfl, ?_⟩) ?_ ?_
  rotate_left
  ·intro w'
   go_simp
   with_reducible rfl
  rotate_left
  ·simp only [Act.put, List.setIfInBounds_toArray, List.set_cons_zero, List.set_cons_succ, i64_w, i32_w]
   rfl
  refine pure_ (i := 2) (N := some 23) (v := ?_) (a' := ?_) #[false, true, true, false, false, false, false] rfl rfl (by kernel_rfl) (fun _ _ _ h => h) (Or.inl ⟨by rfl, ?_⟩) ?_ ?_
  rotate_left
  ·intro w'
   go_simp
   with_reducible rfl
  rotate_left
  ·simp only [Act.put, List.setIfInBounds_toArray, List.set_cons_zero, List.set_cons_succ, i64_w, i32_w]
   rfl
  refine take_ (i := 0) (N := some 21) (v := ?_) (a' := ?_) #[true, true, true, false, false, false, false] rfl rfl (by kernel_rfl) (fun _ _ _ h => h) (Or.inl ⟨by rfl, ?_⟩) hHeld ?_ ?_
  rotate_left
  ·rintro w' ⟨s0, s1, s2, s3, s4, s5⟩
   go_simp
   with_reducible rfl
  rotate_left
  ·simp only [Act.put, List.setIfInBounds_toArray, List.set_cons_zero, List.set_cons_succ, i64_w, i32_w]
   rfl
  refine one_ (i := 3) (N := some 24) #[true, true, true, true, false, false, false] rfl rfl (by kernel_rfl) (by decide) (fun K hK => ?_)
  refine goes_ Try.func146 (by kernel_rfl) rfl #[.slice A2 l2.length c2, .int .i64 a3] (by rfl) rfl rfl (by (try simp only [List.map_toArray, List.map_cons, List.map_nil]); first | done | rfl | (simp only [List.length_drop, List.length_take]; rfl)) ?_
  with_reducible refine (spec_l02Height.calls k _ _ l2 a3 t214 _ ?side1 ?side2 A8.out).mono ?_
  (case side1 => repeat (first | exact (Kd.C_below HR2.out HB.out) | (with_reducible refine Kd.C_alloc ?_ _) | (with_reducible refine Kd.C_drewN ?_ _) | (with_reducible refine Kd.C_drew ?_)))
  (case side2 => exact HC2.out)
  rintro e w19 ⟨rfl, hb⟩
  refine ⟨_, rfl, ?_⟩
  have n0_ := am (Kd.R_below (kr HO208) hb)
  have n1_ := am (IsS28.below (si28 HI204) hb)
  have n2_ := bB BK205 hb
  have n3_ := am (below_step (be HB) hb)
  clear HO208
  clear HI204
  clear BK205
  clear HB
  have HO208 := n0_
  have HI204 := n1_
  have BK205 := n2_
  have HB := n3_
  clear n0_ n1_ n2_ n3_
  (try clear hb)
  (try clear hb2)
  (try clear hk)
  (try clear hi)
  refine hK.out _ _ ⟨(blk_cell BK205.out 0).trans rfl, (blk_cell BK205.out 1).trans rfl, (blk_cell BK205.out 2).trans rfl, (blk_cell BK205.out 3).trans rfl, (blk_cell BK205.out 4).trans rfl, (blk_cell BK205.out 5).trans rfl⟩ (fun hHeld => ?_)
  clear hK K
  refine norm_ (a' := ?_) ?_ ?_
  rotate_left
  ·show Act.put _ (some 24) _ = _
   simp only [Act.put, List.setIfInBounds_toArray, List.set_cons_zero, List.set_cons_succ, i64_w, i32_w]
   rfl
  refine one_ (i := 4) (N := some 25) #[true, true, true, true, true, false, false] rfl rfl (by kernel_rfl) (by decide) (fun K hK => ?_)
  refine goes_ Try.func145 (by kernel_rfl) rfl #[.pointer (some ⟨gb204, 0, none⟩), .agg #[.int .i8 a1_0, .int .i8 a1_1, .int .i8 a1_2, .int .i8 a1_3, .int .i8 a1_4, .int .i8 a1_5], .int .i64 t214] (by rfl) rfl rfl (by (try simp only [List.map_toArray, List.map_cons, List.map_nil]); first | done | rfl | (simp only [List.length_drop, List.length_take]; rfl)) ?_
  with_reducible refine (spec_l02Afloat.calls gb204 t211 t212 t213 a1_0 a1_1 a1_2 a1_3 a1_4 a1_5 t214 t215 t216 t217 t218 w _ ?side1 ?side2 A9.out).mono ?_
  (case side1 => exact si28 HI204)
  (case side2 => exact be HB)
  rintro e w20 ⟨rfl, hi, hb, hk⟩
  refine ⟨_, rfl, ?_⟩
  have n0_ := am (KeepBut.blk hk (g' := gb205) (o := .cells #[.int .i8 a1_0, .int .i8 a1_1, .int .i8 a1_2, .int .i8 a1_3, .int .i8 a1_4, .int .i8 a1_5] 38 (0, 0)) (kb BK205) NB205_204.out (by simp))
  have n1_ := am (Kd.R_mono (Kd.R_keep (IsS28.apart (show IsS28 w _ gb204 t211 t212 t213 from si28 HI204) (kr HO208) (by decide)) hk (fun _ h => h.2)) (fun _ h => h.1))
  have n2_ := am (hb)
  have n3_ := am (hi)
  clear BK205
  clear HO208
  clear HB
  clear HI204
  have BK205 := n0_
  have HO208 := n1_
  have HB := n2_
  have HI204 := n3_
  clear n0_ n1_ n2_ n3_
  (try clear hb)
  (try clear hb2)
  (try clear hk)
  (try clear hi)
  refine hK.out _ _ ⟨(blk_cell BK205.out 0).trans rfl, (blk_cell BK205.out 1).trans rfl, (blk_cell BK205.out 2).trans rfl, (blk_cell BK205.out 3).trans rfl, (blk_cell BK205.out 4).trans rfl, (blk_cell BK205.out 5).trans rfl⟩ (fun hHeld => ?_)
  clear hK K
  refine norm_ (a' := ?_) ?_ ?_
  rotate_left
  ·show Act.put _ (some 25) _ = _
   simp only [Act.put, List.setIfInBounds_toArray, List.set_cons_zero, List.set_cons_succ, i64_w, i32_w]
   rfl
  refine pure_ (i := 5) (N := some 8) (v := ?_) (a' := ?_) #[true, true, true, true, true, true, false] rfl rfl (by kernel_rfl) (fun _ _ _ h => h) (Or.inl ⟨by rfl, ?_⟩) ?_ ?_
  rotate_left
  ·intro w'
   go_simp
   with_reducible rfl
  rotate_left
  ·simp only [Act.put, List.setIfInBounds_toArray, List.set_cons_zero, List.set_cons_succ, i64_w, i32_w]
   rfl
  refine pure_ (i := 6) (N := some 9) (v := ?_) (a' := ?_) #[true, true, true, true, true, true, true] rfl rfl (by kernel_rfl) (fun _ _ _ h => h) (Or.inl ⟨by rfl, ?_⟩) ?_ ?_
  rotate_left
  ·intro w'
   go_simp
   with_reducible rfl
  rotate_left
  ·simp only [Act.put, List.setIfInBounds_toArray, List.set_cons_zero, List.set_cons_succ, i64_w, i32_w]
   rfl
  refine done_ (by kernel_rfl) ?_
  try go_wp2
  go_ret2
  exact ⟨by first | rfl | (simp [errW_none, errW_some] <;> rfl) | (simp [*, errW_none, errW_some] <;> rfl), be HB⟩
 ·rw [if_neg c7] at H
  have c7b0 : (t210 == 0) = false := beq_eq_false_iff_ne.mpr c7
  have c7b1 : (t210 != 0) = true := bne_iff_ne.mpr c7
  simp only [Option.some.injEq, Prod.mk.injEq] at H
  obtain ⟨rfl, rfl⟩ := H
  go_enter Try.func87, Try.ntmps87
  try go_wp2_with (first | ((with_reducible refine gate_dst (N := 4) rfl ?_); refine bxe (N := 4) (cs := (csBay a0_0 a0_1 a0_2)) (t := 28) ?_; intro gb204 hg w21 hbox hb; have HI204 := am ((show IsS28 w w21 gb204 a0_0 a0_1 a0_2 from ⟨hbox, by rw [hg]; exact (below_size (be HB))⟩)); have GW204 := am (gN hg (below_size (be HB))); have GE204 := am (gN hg (below_size (be HB))); replace HB := am (below_step (be HB) hb); clear hb hbox hg) | ((with_reducible refine gate_dst (N := 5) rfl ?_); refine bxe (N := 5) (cs := #[.int .i8 a1_0, .int .i8 a1_1, .int .i8 a1_2, .int .i8 a1_3, .int .i8 a1_4, .int .i8 a1_5]) (t := 38) ?_; intro gb205 hg w22 hbox hb; have BK205 := am (hbox); have GW205 := am (gN hg (below_size (be HB))); have GE205 := am (gN hg (below_size (be HB))); have NB204_205 := am (nLi hg (IsS28.lt (show IsS28 w _ gb204 a0_0 a0_1 a0_2 from si28 HI204))); have NB205_204 := am (nRi hg (IsS28.lt (show IsS28 w _ gb204 a0_0 a0_1 a0_2 from si28 HI204))); replace HI204 := am (IsS28.below (si28 HI204) hb); replace HB := am (below_step (be HB) hb); clear hb hbox hg))
  have n0_ := am (blk_drew BK205.out)
  have n1_ := am (IsS28.drew HI204.out)
  have n2_ := am (below_drew1 HB.out)
  clear BK205
  clear HI204
  clear HB
  have BK205 := n0_
  have HI204 := n1_
  have HB := n2_
  clear n0_ n1_ n2_
  refine start_ (n := 8) (S := fun w' => w'.cell? ⟨gb205, 0, none⟩ = some (.int .i8 a1_0) ∧ w'.cell? ⟨gb205, 1, none⟩ = some (.int .i8 a1_1) ∧ w'.cell? ⟨gb205, 2, none⟩ = some (.int .i8 a1_2) ∧ w'.cell? ⟨gb205, 3, none⟩ = some (.int .i8 a1_3) ∧ w'.cell? ⟨gb205, 4, none⟩ = some (.int .i8 a1_4) ∧ w'.cell? ⟨gb205, 5, none⟩ = some (.int .i8 a1_5)) (ds := []) #[false, false, false, false, false, false, false, false] (by kernel_rfl) rfl rfl ⟨(blk_cell BK205.out 0).trans rfl, (blk_cell BK205.out 1).trans rfl, (blk_cell BK205.out 2).trans rfl, (blk_cell BK205.out 3).trans rfl, (blk_cell BK205.out 4).trans rfl, (blk_cell BK205.out 5).trans rfl⟩ (fun hHeld => ?_); refine with_tabW spec_IsAfloat.tab1 spec_IsAfloat.bits1 (fun HT_ HW_ => ?_)
  generalize w22.drew = w23 at BK205 HI204 HB hHeld ⊢
  refine pS (i := 2) (some 13) #[false, false, true, false, false, false, false, false] (any_of HT_.out (by kernel_rfl)) ?_
  refine pS (i := 3) (some 14) #[false, false, true, true, false, false, false, false] (any_of HT_.out (by kernel_rfl)) ?_
  refine pS (i := 4) (some 15) #[false, false, true, true, true, false, false, false] (any_of HT_.out (by kernel_rfl)) ?_
  refine tS (i := 0) (some 11) #[true, false, true, true, true, false, false, false] (take_ofW HT_.out HW_.out (by kernel_rfl)) hHeld ?_
  refine join_ (σ := Value) 2 #[true, true, true, true, true, true, false, false] (fun s_ => [(12, s_), (16, .bool t209)]) (fun s_ w' => (w'.cell? ⟨gb205, 0, none⟩ = some (.int .i8 a1_0) ∧ w'.cell? ⟨gb205, 1, none⟩ = some (.int .i8 a1_1) ∧ w'.cell? ⟨gb205, 2, none⟩ = some (.int .i8 a1_2) ∧ w'.cell? ⟨gb205, 3, none⟩ = some (.int .i8 a1_3) ∧ w'.cell? ⟨gb205, 4, none⟩ = some (.int .i8 a1_4) ∧ w'.cell? ⟨gb205, 5, none⟩ = some (.int .i8 a1_5)) ∧ (Kd.R k38 38 w' w.heap.size (fun k_ => k_ ≠ gb205) s_ y206) ∧ (w'.heap[gb205]? = some (.cells #[.int .i8 a1_0, .int .i8 a1_1, .int .i8 a1_2, .int .i8 a1_3, .int .i8 a1_4, .int .i8 a1_5] 38 (0, 0))) ∧ (IsS28 w w' gb204 a0_0 a0_1 a0_2) ∧ (Below w.heap.size w w')) ?_ ?_
  rotate_left
  ·intro hCont
   refine two_ (i := 1) (j := 5) (Ni := some 12) (Nj := some 16) #[true, true, true, true, true, false, false, false] #[true, false, true, true, true, true, false, false] rfl rfl rfl rfl (two_of HT_.out (by kernel_rfl)) (by decide) (by decide) (fun K hK => ?_) (fun K hK => ?_)
   ·skip
    refine Kd.R_lit_step k38 _ 38 ?hg (N := 12) ?hd (xs := ([(⟨(⟨a1_0, a1_1⟩ : S36), a1_2, a1_3, a1_4, a1_5⟩ : S38)] : List (S38))) (inner := [.int .i8 a1_0, .int .i8 a1_1, .int .i8 a1_2, .int .i8 a1_3, .int .i8 a1_4, .int .i8 a1_5]) (ok := fun _ => True) (okp := fun _ => True) ?hr ?hp (fun _ hk => hk) trivial (Below.refl _ _) (Nat.le_refl _) (by simp) ?_; (case hd => rfl); (case hg => rfl); (case hr => first | (go_simp; done) | (go_simp; rfl)); (case hp => exact (Reps.c6 (show Kd.M k38 _ _ _ (⟨(⟨a1_0, a1_1⟩ : S36), a1_2, a1_3, a1_4, a1_5⟩ : S38) [.int .i8 a1_0, .int .i8 a1_1, .int .i8 a1_2, .int .i8 a1_3, .int .i8 a1_4, .int .i8 a1_5] from (k38_mkM _ _ _ (⟨(⟨a1_0, a1_1⟩ : S36), a1_2, a1_3, a1_4, a1_5⟩ : S38) )) (Reps.none _ _)))
    intro v207 w24 ho25 hb hg_ hnew_
    clear hg_ hnew_
    (first | rw [← Ny206.out] at ho25 | (simp only [Int.reduceToNat] at ho25; rw [← Ny206.out] at ho25))
    have n0_ := am (Kd.R_lower (Kd.R_newB ho25 (g := gb205) (o := .cells #[.int .i8 a1_0, .int .i8 a1_1, .int .i8 a1_2, .int .i8 a1_3, .int .i8 a1_4, .int .i8 a1_5] 38 (0, 0)) (kb BK205)) (below_size (be HB)))
    have n1_ := am (IsS28.below (si28 HI204) hb)
    have n2_ := bB BK205 hb
    have n3_ := am (below_step (be HB) hb)
    clear HI204
    clear BK205
    clear HB
    have HO208 := n0_
    have HI204 := n1_
    have BK205 := n2_
    have HB := n3_
    clear n0_ n1_ n2_ n3_
    clear hb ho25
    refine hK.out _ _ ⟨(blk_cell BK205.out 0).trans rfl, (blk_cell BK205.out 1).trans rfl, (blk_cell BK205.out 2).trans rfl, (blk_cell BK205.out 3).trans rfl, (blk_cell BK205.out 4).trans rfl, (blk_cell BK205.out 5).trans rfl⟩ (fun hHeld => ?_)
    clear hK K
    refine norm_ (a' := ?_) ?_ ?_
    rotate_left
    ·show Act.put _ (some 12) _ = _
     simp only [Act.put, List.setIfInBounds_toArray, List.set_cons_zero, List.set_cons_succ, i64_w, i32_w]
     rfl
    refine one_ (i := 5) (N := some 16) #[true, true, true, true, true, true, false, false] rfl rfl (one_of HT_.out (by kernel_rfl)) (by decide) (fun K hK => ?_)
    refine goes_ Try.func153 (by kernel_rfl) rfl #[.slice A2 l2.length c2, .int .i64 a3] (by rfl) rfl rfl (by (try simp only [List.map_toArray, List.map_cons, List.map_nil]); first | done | rfl | (simp only [List.length_drop, List.length_take]; rfl)) ?_
    with_reducible refine (spec_l02In.calls _ _ l2 a3 t209 _ ?side1 ?side2 A5.out).mono ?_
    (case side1 => repeat (first | exact (Kd.C_below HR2.out HB.out) | (with_reducible refine Kd.C_alloc ?_ _) | (with_reducible refine Kd.C_drewN ?_ _) | (with_reducible refine Kd.C_drew ?_)))
    (case side2 => exact HC2.out)
    rintro e w' ⟨rfl, ⟨nd, rfl⟩⟩
    refine ⟨_, rfl, ?_⟩
    refine hK.out _ _ ⟨(blk_cell BK205.out 0).trans rfl, (blk_cell BK205.out 1).trans rfl, (blk_cell BK205.out 2).trans rfl, (blk_cell BK205.out 3).trans rfl, (blk_cell BK205.out 4).trans rfl, (blk_cell BK205.out 5).trans rfl⟩ (fun hHeld => ?_)
    clear hK K
    refine norm_ (a' := ?_) ?_ ?_
    rotate_left
    ·show Act.put _ (some 16) _ = _
     simp only [Act.put, List.setIfInBounds_toArray, List.set_cons_zero, List.set_cons_succ, i64_w, i32_w]
     rfl
    exact norm_ (by simp only [putAll, Act.put, List.setIfInBounds_toArray, List.set_cons_zero, List.set_cons_succ]) (hCont (v207) _ ⟨hHeld, (by (with_reducible repeat (first | apply Kd.R_alloc | apply Kd.R_drewN | apply Kd.R_drew)); exact Kd.R_mono HO208.out (fun _ hk => hk.2)), (kb BK205), (si28 HI204), (be HB)⟩)
   ·skip
    refine goes_ Try.func153 (by kernel_rfl) rfl #[.slice A2 l2.length c2, .int .i64 a3] (by rfl) rfl rfl (by (try simp only [List.map_toArray, List.map_cons, List.map_nil]); first | done | rfl | (simp only [List.length_drop, List.length_take]; rfl)) ?_
    with_reducible refine (spec_l02In.calls _ _ l2 a3 t209 _ ?side1 ?side2 A5.out).mono ?_
    (case side1 => repeat (first | exact (Kd.C_below HR2.out HB.out) | (with_reducible refine Kd.C_alloc ?_ _) | (with_reducible refine Kd.C_drewN ?_ _) | (with_reducible refine Kd.C_drew ?_)))
    (case side2 => exact HC2.out)
    rintro e w' ⟨rfl, ⟨nd, rfl⟩⟩
    refine ⟨_, rfl, ?_⟩
    refine hK.out _ _ ⟨(blk_cell BK205.out 0).trans rfl, (blk_cell BK205.out 1).trans rfl, (blk_cell BK205.out 2).trans rfl, (blk_cell BK205.out 3).trans rfl, (blk_cell BK205.out 4).trans rfl, (blk_cell BK205.out 5).trans rfl⟩ (fun hHeld => ?_)
    clear hK K
    refine norm_ (a' := ?_) ?_ ?_
    rotate_left
    ·show Act.put _ (some 16) _ = _
     simp only [Act.put, List.setIfInBounds_toArray, List.set_cons_zero, List.set_cons_succ, i64_w, i32_w]
     rfl
    refine one_ (i := 1) (N := some 12) #[true, true, true, true, true, true, false, false] rfl rfl (one_of HT_.out (by kernel_rfl)) (by decide) (fun K hK => ?_)
    refine Kd.R_lit_step k38 _ 38 ?hg (N := 12) ?hd (xs := ([(⟨(⟨a1_0, a1_1⟩ : S36), a1_2, a1_3, a1_4, a1_5⟩ : S38)] : List (S38))) (inner := [.int .i8 a1_0, .int .i8 a1_1, .int .i8 a1_2, .int .i8 a1_3, .int .i8 a1_4, .int .i8 a1_5]) (ok := fun _ => True) (okp := fun _ => True) ?hr ?hp (fun _ hk => hk) trivial (Below.refl _ _) (Nat.le_refl _) (by simp) ?_; (case hd => rfl); (case hg => rfl); (case hr => first | (go_simp; done) | (go_simp; rfl)); (case hp => exact (Reps.c6 (show Kd.M k38 _ _ _ (⟨(⟨a1_0, a1_1⟩ : S36), a1_2, a1_3, a1_4, a1_5⟩ : S38) [.int .i8 a1_0, .int .i8 a1_1, .int .i8 a1_2, .int .i8 a1_3, .int .i8 a1_4, .int .i8 a1_5] from (k38_mkM _ _ _ (⟨(⟨a1_0, a1_1⟩ : S36), a1_2, a1_3, a1_4, a1_5⟩ : S38) )) (Reps.none _ _)))
    intro v207 w24 ho25 hb hg_ hnew_
    clear hg_ hnew_
    (first | rw [← Ny206.out] at ho25 | (simp only [Int.reduceToNat] at ho25; rw [← Ny206.out] at ho25))
    have n0_ := am (Kd.R_lower (Kd.R_newB ho25 (g := gb205) (o := .cells #[.int .i8 a1_0, .int .i8 a1_1, .int .i8 a1_2, .int .i8 a1_3, .int .i8 a1_4, .int .i8 a1_5] 38 (0, 0)) (kb BK205)) (below_size (be HB)))
    have n1_ := am (IsS28.below (si28 HI204) hb)
    have n2_ := bB BK205 hb
    have n3_ := am (below_step (be HB) hb)
    clear HI204
    clear BK205
    clear HB
    have HO208 := n0_
    have HI204 := n1_
    have BK205 := n2_
    have HB := n3_
    clear n0_ n1_ n2_ n3_
    clear hb ho25
    refine hK.out _ _ ⟨(blk_cell BK205.out 0).trans rfl, (blk_cell BK205.out 1).trans rfl, (blk_cell BK205.out 2).trans rfl, (blk_cell BK205.out 3).trans rfl, (blk_cell BK205.out 4).trans rfl, (blk_cell BK205.out 5).trans rfl⟩ (fun hHeld => ?_)
    clear hK K
    refine norm_ (a' := ?_) ?_ ?_
    rotate_left
    ·show Act.put _ (some 12) _ = _
     simp only [Act.put, List.setIfInBounds_toArray, List.set_cons_zero, List.set_cons_succ, i64_w, i32_w]
     rfl
    exact norm_ (by simp only [putAll, Act.put, List.setIfInBounds_toArray, List.set_cons_zero, List.set_cons_succ]) (hCont (v207) _ ⟨hHeld, (by (with_reducible repeat (first | apply Kd.R_alloc | apply Kd.R_drewN | apply Kd.R_drew)); exact Kd.R_mono HO208.out (fun _ hk => hk.2)), (kb BK205), (si28 HI204), (be HB)⟩)
  rintro v207 w26 ⟨hS_, h0_, h1_, h2_, h3_⟩
  have n0_ : Aside0 (Kd.R k38 38 w26 w.heap.size (fun k_ => k_ ≠ gb205) v207 y206) := ⟨h0_⟩
  have n1_ : Aside0 (w26.heap[gb205]? = some (.cells #[.int .i8 a1_0, .int .i8 a1_1, .int .i8 a1_2, .int .i8 a1_3, .int .i8 a1_4, .int .i8 a1_5] 38 (0, 0))) := ⟨h1_⟩
  have n2_ : Aside0 (IsS28 w w26 gb204 a0_0 a0_1 a0_2) := ⟨h2_⟩
  have n3_ : Aside0 (Below w.heap.size w w26) := ⟨h3_⟩
  clear BK205
  clear HI204
  clear HB
  clear h0_ h1_ h2_ h3_
  have HO208 := n0_
  have BK205 := n1_
  have HI204 := n2_
  have HB := n3_
  clear n0_ n1_ n2_ n3_
  have hHeld : w26.cell? ⟨gb205, 0, none⟩ = some (.int .i8 a1_0) ∧ w26.cell? ⟨gb205, 1, none⟩ = some (.int .i8 a1_1) ∧ w26.cell? ⟨gb205, 2, none⟩ = some (.int .i8 a1_2) ∧ w26.cell? ⟨gb205, 3, none⟩ = some (.int .i8 a1_3) ∧ w26.cell? ⟨gb205, 4, none⟩ = some (.int .i8 a1_4) ∧ w26.cell? ⟨gb205, 5, none⟩ = some (.int .i8 a1_5) := hS_
  obtain ⟨Ao27, co27, eo27⟩ := Kd.R_slice HO208.out
  (first | subst eo27 | (injection eo27 with f1_ f2_ f3_; have f4_ := f1_.symm; have f5_ := f3_.symm; clear f1_ f2_ f3_; subst f4_; subst f5_))
  refine norm_ (a' := ?_) ?_ ?_
  rotate_left
  ·simp only [putAll, Act.put, List.setIfInBounds_toArray, List.set_cons_zero, List.set_cons_succ]
   rfl
  refine one_ (i := 6) (N := some 17) #[true, true, true, true, true, true, true, false] rfl rfl (one_of HT_.out (by kernel_rfl)) (by decide) (fun K hK => ?_)
  refine goes_ Try.func142 (by kernel_rfl) rfl #[.pointer (some ⟨gb204, 0, none⟩), .slice Ao27 y206.length co27, .slice A2 l2.length c2, .bool t209] (by rfl) rfl rfl (by (try simp only [List.map_toArray, List.map_cons, List.map_nil]); first | done | rfl | (simp only [List.length_drop, List.length_take]; rfl)) ?_
  with_reducible refine (spec_l02Boats.calls k gb204 a0_0 a0_1 a0_2 _ _ y206 _ _ l2 t209 t210 t211 t212 t213 w _ ?side1 ?side2 ?side3 ?side4 ?side5 ?side6 A6.out).mono ?_
  (case side1 => exact si28 HI204)
  (case side2 => exact be HB)
  (case side3 => exact Kd.C_foot_own (IsS28.apart (show IsS28 w _ gb204 a0_0 a0_1 a0_2 from si28 HI204) (kr HO208) (by decide)) (fun _ h_ => h_.2))
  (case side4 => exact (Kd.R_reads' HO208.out).2.1)
  (case side5 => exact Kd.C_foot_came k103_heap HR2.out (be HB) (IsS28.ge HI204.out))
  (case side6 => exact HC2.out)
  rintro e w28 ⟨rfl, hi, hb, hk⟩
  refine ⟨_, rfl, ?_⟩
  have n0_ := am (KeepBut.blk hk (g' := gb205) (o := .cells #[.int .i8 a1_0, .int .i8 a1_1, .int .i8 a1_2, .int .i8 a1_3, .int .i8 a1_4, .int .i8 a1_5] 38 (0, 0)) (kb BK205) NB205_204.out (by simp))
  have n1_ := am (Kd.R_mono (Kd.R_keep (IsS28.apart (show IsS28 w _ gb204 a0_0 a0_1 a0_2 from si28 HI204) (kr HO208) (by decide)) hk (fun _ h => h.2)) (fun _ h => h.1))
  have n2_ := am (hb)
  have n3_ := am (hi)
  clear BK205
  clear HO208
  clear HB
  clear HI204
  have BK205 := n0_
  have HO208 := n1_
  have HB := n2_
  have HI204 := n3_
  clear n0_ n1_ n2_ n3_
  (try clear hb)
  (try clear hb2)
  (try clear hk)
  (try clear hi)
  refine hK.out _ _ ⟨(blk_cell BK205.out 0).trans rfl, (blk_cell BK205.out 1).trans rfl, (blk_cell BK205.out 2).trans rfl, (blk_cell BK205.out 3).trans rfl, (blk_cell BK205.out 4).trans rfl, (blk_cell BK205.out 5).trans rfl⟩ (fun hHeld => ?_)
  clear hK K
  refine norm_ (a' := ?_) ?_ ?_
  rotate_left
  ·show Act.put _ (some 17) _ = _
   simp only [Act.put, List.setIfInBounds_toArray, List.set_cons_zero, List.set_cons_succ, i64_w, i32_w]
   rfl
  refine pS (i := 7) (some 10) #[true, true, true, true, true, true, true, true] (any_of HT_.out (by kernel_rfl)) ?_
  refine done_ (done_of HT_.out (by kernel_rfl)) ?_
  try go_wp2
  go_ret2
  exact ⟨by first | rfl | (simp [errW_none, errW_some] <;> rfl) | (simp [*, errW_none, errW_some] <;> rfl), be HB⟩

/-! ### impl_ValidBay: function 27 -/
def impl_ValidBay.f (a0_0 : Int) (a0_1 : Int) (a0_2 : (Nat → Int)) : Option (Bool) := some (decide (Go.Proofs.Ytcollbifdfhfoaa.BayIn.okBay a0_0 a0_1 a0_2))
theorem impl_ValidBay.calls (a0_0 : Int) (a0_1 : Int) (a0_2 : (Nat → Int)) (r : Bool) (w : World) (h : impl_ValidBay.f a0_0 a0_1 a0_2 = some r) :
  Calls Try.prog 27 #[.agg (csBay a0_0 a0_1 a0_2)] w fun e w' => e = .returned (.bool r) ∧ Below w.heap.size w w' := by
 obtain rfl := Option.some.inj h
 exact Go.Proofs.Ytcollbifdfhfoaa.BayIn.validBay_calls _ _ _ w

/-! ### impl_depth: function 112 -/
def impl_depth.f (a0_0 : Int) (a0_1 : Int) (a0_2 : (Nat → Int)) (a1_0 : Int) (a1_1 : Int) : Option (Int) := if 0 ≤ a1_1 then (if a1_1 < 16 then (if 0 ≤ a1_0 then (if a1_0 < 16 then (some (wrap64 (a0_2 (16 * (a1_1 : Int).toNat + (a1_0 : Int).toNat)))) else (none)) else (none)) else (none)) else (none)
set_option maxHeartbeats 8000000 in
set_option maxRecDepth 100000 in
theorem impl_depth.calls (a0_0 : Int) (a0_1 : Int) (a0_2 : (Nat → Int)) (a1_0 : Int) (a1_1 : Int) (r : Int) (w : World) (h : impl_depth.f a0_0 a0_1 a0_2 a1_0 a1_1 = some r) :
  Calls Try.prog 112 #[.agg (csBay a0_0 a0_1 a0_2), .agg #[.int .i8 a1_0, .int .i8 a1_1]] w fun e w' => e = .returned (.int .i64 r) ∧ Below w.heap.size w w' := by
 have hu28 := Try.underlying28
 have hu36 := Try.underlying36
 have HB := am (Below.refl w.heap.size w)
 have H : (if 0 ≤ a1_1 then (if a1_1 < 16 then (if 0 ≤ a1_0 then (if a1_0 < 16 then (some (wrap64 (a0_2 (16 * (a1_1 : Int).toNat + (a1_0 : Int).toNat)))) else (none)) else (none)) else (none)) else (none)) = some r := h
 clear h
 by_cases c3 : 0 ≤ a1_1
 ·rw [if_pos c3] at H
  have c3b0 : decide (0 ≤ a1_1) = true := decide_eq_true c3
  have c3b1 : 0 ≤ a1_1 := c3
  clear c3
  by_cases c4 : a1_1 < 16
  ·rw [if_pos c4] at H
   have c4b0 : decide (a1_1 < 16) = true := decide_eq_true c4
   have c4b1 : a1_1 < 16 := c4
   clear c4
   by_cases c5 : 0 ≤ a1_0
   ·rw [if_pos c5] at H
    have c5b0 : decide (0 ≤ a1_0) = true := decide_eq_true c5
    have c5b1 : 0 ≤ a1_0 := c5
    clear c5
    by_cases c6 : a1_0 < 16
    ·rw [if_pos c6] at H
     have c6b0 : decide (a1_0 < 16) = true := decide_eq_true c6
     have c6b1 : a1_0 < 16 := c6
     clear c6
     obtain rfl := Option.some.inj H
     go_enter Try.func112, Try.ntmps112
     go_wp2_with (first | ((with_reducible refine gate_dst (N := 2) rfl ?_); refine bxe (N := 2) (cs := (csBay a0_0 a0_1 a0_2)) (t := 28) ?_; intro gb219 hg w7 hbox hb; have BK219 := am (hbox); have GW219 := am (gN hg (below_size (be HB))); have GE219 := am (gN hg (below_size (be HB))); replace HB := am (below_step (be HB) hb); clear hb hbox hg) | ((with_reducible refine gate_dst (N := 3) rfl ?_); refine bxe (N := 3) (cs := #[.int .i8 a1_0, .int .i8 a1_1]) (t := 36) ?_; intro gb220 hg w8 hbox hb; have BK220 := am (hbox); have GW220 := am (gN hg (below_size (be HB))); have GE220 := am (gN hg (below_size (be HB))); have NB219_220 := nL BK219 hg; have NB220_219 := nR BK219 hg; replace BK219 := bB BK219 hb; replace HB := am (below_step (be HB) hb); clear hb hbox hg; have hnb9 := NB220_219.out; have hnc9 := NB219_220.out; obtain ⟨hcz10_0, hcz10_1, hfz10_0, hfz10_1⟩ := bx2 BK220; have hcz11_0 : w8.cell? ⟨gb219, 0, none⟩ = some (.int .i8 a0_0) := (blk_cell BK219.out 0).trans rfl; have hcz11_1 : w8.cell? ⟨gb219, 1, none⟩ = some (.int .i8 a0_1) := (blk_cell BK219.out 1).trans rfl; have hwz11 := lv28_at BK219.out; have haz11 := at_cells BK219.out; have hyz11 := BayAt28_of BK219.out; have hvz11 := lvv_of BK219.out; have hfz11_0 := blk_frozen BK219.out 0; have hfz11_1 := blk_frozen BK219.out 1; have hfz11_2 := blk_frozen BK219.out 2))
     repeat (go_quiet (first | ((with_reducible refine gate_dst (N := 2) rfl ?_); refine bxe (N := 2) (cs := (csBay a0_0 a0_1 a0_2)) (t := 28) ?_; intro gb219 hg w7 hbox hb; have BK219 := am (hbox); have GW219 := am (gN hg (below_size (be HB))); have GE219 := am (gN hg (below_size (be HB))); replace HB := am (below_step (be HB) hb); clear hb hbox hg) | ((with_reducible refine gate_dst (N := 3) rfl ?_); refine bxe (N := 3) (cs := #[.int .i8 a1_0, .int .i8 a1_1]) (t := 36) ?_; intro gb220 hg w8 hbox hb; have BK220 := am (hbox); have GW220 := am (gN hg (below_size (be HB))); have GE220 := am (gN hg (below_size (be HB))); have NB219_220 := nL BK219 hg; have NB220_219 := nR BK219 hg; replace BK219 := bB BK219 hb; replace HB := am (below_step (be HB) hb); clear hb hbox hg; have hnb9 := NB220_219.out; have hnc9 := NB219_220.out; obtain ⟨hcz10_0, hcz10_1, hfz10_0, hfz10_1⟩ := bx2 BK220; have hcz11_0 : w8.cell? ⟨gb219, 0, none⟩ = some (.int .i8 a0_0) := (blk_cell BK219.out 0).trans rfl; have hcz11_1 : w8.cell? ⟨gb219, 1, none⟩ = some (.int .i8 a0_1) := (blk_cell BK219.out 1).trans rfl; have hwz11 := lv28_at BK219.out; have haz11 := at_cells BK219.out; have hyz11 := BayAt28_of BK219.out; have hvz11 := lvv_of BK219.out; have hfz11_0 := blk_frozen BK219.out 0; have hfz11_1 := blk_frozen BK219.out 1; have hfz11_2 := blk_frozen BK219.out 2)); try go_wp2_with (first | ((with_reducible refine gate_dst (N := 2) rfl ?_); refine bxe (N := 2) (cs := (csBay a0_0 a0_1 a0_2)) (t := 28) ?_; intro gb219 hg w7 hbox hb; have BK219 := am (hbox); have GW219 := am (gN hg (below_size (be HB))); have GE219 := am (gN hg (below_size (be HB))); replace HB := am (below_step (be HB) hb); clear hb hbox hg) | ((with_reducible refine gate_dst (N := 3) rfl ?_); refine bxe (N := 3) (cs := #[.int .i8 a1_0, .int .i8 a1_1]) (t := 36) ?_; intro gb220 hg w8 hbox hb; have BK220 := am (hbox); have GW220 := am (gN hg (below_size (be HB))); have GE220 := am (gN hg (below_size (be HB))); have NB219_220 := nL BK219 hg; have NB220_219 := nR BK219 hg; replace BK219 := bB BK219 hb; replace HB := am (below_step (be HB) hb); clear hb hbox hg; have hnb9 := NB220_219.out; have hnc9 := NB219_220.out; obtain ⟨hcz10_0, hcz10_1, hfz10_0, hfz10_1⟩ := bx2 BK220; have hcz11_0 : w8.cell? ⟨gb219, 0, none⟩ = some (.int .i8 a0_0) := (blk_cell BK219.out 0).trans rfl; have hcz11_1 : w8.cell? ⟨gb219, 1, none⟩ = some (.int .i8 a0_1) := (blk_cell BK219.out 1).trans rfl; have hwz11 := lv28_at BK219.out; have haz11 := at_cells BK219.out; have hyz11 := BayAt28_of BK219.out; have hvz11 := lvv_of BK219.out; have hfz11_0 := blk_frozen BK219.out 0; have hfz11_1 := blk_frozen BK219.out 1; have hfz11_2 := blk_frozen BK219.out 2)))
     go_ret
     exact ⟨by first | rfl | (simp [errW_none, errW_some] <;> rfl) | (simp [*, errW_none, errW_some] <;> rfl), be HB⟩
    ·rw [if_neg c6] at H
     exact absurd H (by simp)
   ·rw [if_neg c5] at H
    exact absurd H (by simp)
  ·rw [if_neg c4] at H
   exact absurd H (by simp)
 ·rw [if_neg c3] at H
  exact absurd H (by simp)

/-! ### impl_isPlace: function 178 -/
def impl_isPlace.f (a0_0 : Int) (a0_1 : Int) (a0_2 : (Nat → Int)) (a1_0 : Int) (a1_1 : Int) : Option (Bool) := if a1_0 ≥ 0 then (if a1_0 < a0_0 then (if a1_1 ≥ 0 then (some (decide (a1_1 < a0_1))) else (some false)) else (some false)) else (some false)
set_option maxHeartbeats 8000000 in
set_option maxRecDepth 100000 in
theorem impl_isPlace.calls (a0_0 : Int) (a0_1 : Int) (a0_2 : (Nat → Int)) (a1_0 : Int) (a1_1 : Int) (r : Bool) (w : World) (h : impl_isPlace.f a0_0 a0_1 a0_2 a1_0 a1_1 = some r) :
  Calls Try.prog 178 #[.agg (csBay a0_0 a0_1 a0_2), .agg #[.int .i8 a1_0, .int .i8 a1_1]] w fun e w' => e = .returned (.bool r) ∧ Below w.heap.size w w' := by
 have hu28 := Try.underlying28
 have hu36 := Try.underlying36
 have HB := am (Below.refl w.heap.size w)
 have H : (if a1_0 ≥ 0 then (if a1_0 < a0_0 then (if a1_1 ≥ 0 then (some (decide (a1_1 < a0_1))) else (some false)) else (some false)) else (some false)) = some r := h
 clear h
 by_cases c3 : a1_0 ≥ 0
 ·rw [if_pos c3] at H
  have c3b0 : decide (0 ≤ a1_0) = true := decide_eq_true c3
  have c3b1 : 0 ≤ a1_0 := c3
  clear c3
  by_cases c4 : a1_0 < a0_0
  ·rw [if_pos c4] at H
   have c4b0 : decide (a1_0 < a0_0) = true := decide_eq_true c4
   clear c4
   by_cases c5 : a1_1 ≥ 0
   ·rw [if_pos c5] at H
    have c5b0 : decide (0 ≤ a1_1) = true := decide_eq_true c5
    have c5b1 : 0 ≤ a1_1 := c5
    clear c5
    obtain rfl := Option.some.inj H
    go_enter Try.func178, Try.ntmps178
    go_wp2_with (first | ((with_reducible refine gate_dst (N := 2) rfl ?_); refine bxe (N := 2) (cs := (csBay a0_0 a0_1 a0_2)) (t := 28) ?_; intro gb221 hg w6 hbox hb; have BK221 := am (hbox); have GW221 := am (gN hg (below_size (be HB))); have GE221 := am (gN hg (below_size (be HB))); replace HB := am (below_step (be HB) hb); clear hb hbox hg) | ((with_reducible refine gate_dst (N := 3) rfl ?_); refine bxe (N := 3) (cs := #[.int .i8 a1_0, .int .i8 a1_1]) (t := 36) ?_; intro gb222 hg w7 hbox hb; have BK222 := am (hbox); have GW222 := am (gN hg (below_size (be HB))); have GE222 := am (gN hg (below_size (be HB))); have NB221_222 := nL BK221 hg; have NB222_221 := nR BK221 hg; replace BK221 := bB BK221 hb; replace HB := am (below_step (be HB) hb); clear hb hbox hg; have hnb8 := NB222_221.out; have hnc8 := NB221_222.out; obtain ⟨hcz9_0, hcz9_1, hfz9_0, hfz9_1⟩ := bx2 BK222; have hcz10_0 : w7.cell? ⟨gb221, 0, none⟩ = some (.int .i8 a0_0) := (blk_cell BK221.out 0).trans rfl; have hcz10_1 : w7.cell? ⟨gb221, 1, none⟩ = some (.int .i8 a0_1) := (blk_cell BK221.out 1).trans rfl; have hwz10 := lv28_at BK221.out; have haz10 := at_cells BK221.out; have hyz10 := BayAt28_of BK221.out; have hvz10 := lvv_of BK221.out; have hfz10_0 := blk_frozen BK221.out 0; have hfz10_1 := blk_frozen BK221.out 1; have hfz10_2 := blk_frozen BK221.out 2))
    go_ret
    exact ⟨by first | rfl | (simp [errW_none, errW_some] <;> rfl) | (simp [*, errW_none, errW_some] <;> rfl), be HB⟩
   ·rw [if_neg c5] at H
    have c5b0 : decide (0 ≤ a1_1) = false := decide_eq_false c5
    clear c5
    obtain rfl := Option.some.inj H
    go_enter Try.func178, Try.ntmps178
    go_wp2_with (first | ((with_reducible refine gate_dst (N := 2) rfl ?_); refine bxe (N := 2) (cs := (csBay a0_0 a0_1 a0_2)) (t := 28) ?_; intro gb221 hg w11 hbox hb; have BK221 := am (hbox); have GW221 := am (gN hg (below_size (be HB))); have GE221 := am (gN hg (below_size (be HB))); replace HB := am (below_step (be HB) hb); clear hb hbox hg) | ((with_reducible refine gate_dst (N := 3) rfl ?_); refine bxe (N := 3) (cs := #[.int .i8 a1_0, .int .i8 a1_1]) (t := 36) ?_; intro gb222 hg w12 hbox hb; have BK222 := am (hbox); have GW222 := am (gN hg (below_size (be HB))); have GE222 := am (gN hg (below_size (be HB))); have NB221_222 := nL BK221 hg; have NB222_221 := nR BK221 hg; replace BK221 := bB BK221 hb; replace HB := am (below_step (be HB) hb); clear hb hbox hg; have hnb13 := NB222_221.out; have hnc13 := NB221_222.out; obtain ⟨hcz14_0, hcz14_1, hfz14_0, hfz14_1⟩ := bx2 BK222; have hcz15_0 : w12.cell? ⟨gb221, 0, none⟩ = some (.int .i8 a0_0) := (blk_cell BK221.out 0).trans rfl; have hcz15_1 : w12.cell? ⟨gb221, 1, none⟩ = some (.int .i8 a0_1) := (blk_cell BK221.out 1).trans rfl; have hwz15 := lv28_at BK221.out; have haz15 := at_cells BK221.out; have hyz15 := BayAt28_of BK221.out; have hvz15 := lvv_of BK221.out; have hfz15_0 := blk_frozen BK221.out 0; have hfz15_1 := blk_frozen BK221.out 1; have hfz15_2 := blk_frozen BK221.out 2))
    go_ret
    exact ⟨by first | rfl | (simp [errW_none, errW_some] <;> rfl) | (simp [*, errW_none, errW_some] <;> rfl), be HB⟩
  ·rw [if_neg c4] at H
   have c4b0 : decide (a1_0 < a0_0) = false := decide_eq_false c4
   clear c4
   obtain rfl := Option.some.inj H
   go_enter Try.func178, Try.ntmps178
   go_wp2_with (first | ((with_reducible refine gate_dst (N := 2) rfl ?_); refine bxe (N := 2) (cs := (csBay a0_0 a0_1 a0_2)) (t := 28) ?_; intro gb221 hg w16 hbox hb; have BK221 := am (hbox); have GW221 := am (gN hg (below_size (be HB))); have GE221 := am (gN hg (below_size (be HB))); replace HB := am (below_step (be HB) hb); clear hb hbox hg) | ((with_reducible refine gate_dst (N := 3) rfl ?_); refine bxe (N := 3) (cs := #[.int .i8 a1_0, .int .i8 a1_1]) (t := 36) ?_; intro gb222 hg w17 hbox hb; have BK222 := am (hbox); have GW222 := am (gN hg (below_size (be HB))); have GE222 := am (gN hg (below_size (be HB))); have NB221_222 := nL BK221 hg; have NB222_221 := nR BK221 hg; replace BK221 := bB BK221 hb; replace HB := am (below_step (be HB) hb); clear hb hbox hg; have hnb18 := NB222_221.out; have hnc18 := NB221_222.out; obtain ⟨hcz19_0, hcz19_1, hfz19_0, hfz19_1⟩ := bx2 BK222; have hcz20_0 : w17.cell? ⟨gb221, 0, none⟩ = some (.int .i8 a0_0) := (blk_cell BK221.out 0).trans rfl; have hcz20_1 : w17.cell? ⟨gb221, 1, none⟩ = some (.int .i8 a0_1) := (blk_cell BK221.out 1).trans rfl; have hwz20 := lv28_at BK221.out; have haz20 := at_cells BK221.out; have hyz20 := BayAt28_of BK221.out; have hvz20 := lvv_of BK221.out; have hfz20_0 := blk_frozen BK221.out 0; have hfz20_1 := blk_frozen BK221.out 1; have hfz20_2 := blk_frozen BK221.out 2))
   go_ret
   exact ⟨by first | rfl | (simp [errW_none, errW_some] <;> rfl) | (simp [*, errW_none, errW_some] <;> rfl), be HB⟩
 ·rw [if_neg c3] at H
  have c3b0 : decide (0 ≤ a1_0) = false := decide_eq_false c3
  clear c3
  obtain rfl := Option.some.inj H
  go_enter Try.func178, Try.ntmps178
  go_wp2_with (first | ((with_reducible refine gate_dst (N := 2) rfl ?_); refine bxe (N := 2) (cs := (csBay a0_0 a0_1 a0_2)) (t := 28) ?_; intro gb221 hg w21 hbox hb; have BK221 := am (hbox); have GW221 := am (gN hg (below_size (be HB))); have GE221 := am (gN hg (below_size (be HB))); replace HB := am (below_step (be HB) hb); clear hb hbox hg) | ((with_reducible refine gate_dst (N := 3) rfl ?_); refine bxe (N := 3) (cs := #[.int .i8 a1_0, .int .i8 a1_1]) (t := 36) ?_; intro gb222 hg w22 hbox hb; have BK222 := am (hbox); have GW222 := am (gN hg (below_size (be HB))); have GE222 := am (gN hg (below_size (be HB))); have NB221_222 := nL BK221 hg; have NB222_221 := nR BK221 hg; replace BK221 := bB BK221 hb; replace HB := am (below_step (be HB) hb); clear hb hbox hg; have hnb23 := NB222_221.out; have hnc23 := NB221_222.out; obtain ⟨hcz24_0, hcz24_1, hfz24_0, hfz24_1⟩ := bx2 BK222))
  go_ret
  exact ⟨by first | rfl | (simp [errW_none, errW_some] <;> rfl) | (simp [*, errW_none, errW_some] <;> rfl), be HB⟩

/-! ### impl_isWater: function 167 -/
def impl_isWater.f (a0_0 : Int) (a0_1 : Int) (a0_2 : (Nat → Int)) (a1_0 : Int) (a1_1 : Int) : Option (Bool) := (impl_isPlace.f a0_0 a0_1 a0_2 a1_0 a1_1).bind fun t225 => (if t225 = true then ((impl_depth.f a0_0 a0_1 a0_2 a1_0 a1_1).bind fun t226 => (some (decide (t226 > 0)))) else (some false))
set_option maxHeartbeats 8000000 in
set_option maxRecDepth 100000 in
theorem impl_isWater.calls (a0_0 : Int) (a0_1 : Int) (a0_2 : (Nat → Int)) (a1_0 : Int) (a1_1 : Int) (r : Bool) (w : World) (h : impl_isWater.f a0_0 a0_1 a0_2 a1_0 a1_1 = some r) :
  Calls Try.prog 167 #[.agg (csBay a0_0 a0_1 a0_2), .agg #[.int .i8 a1_0, .int .i8 a1_1]] w fun e w' => e = .returned (.bool r) ∧ Below w.heap.size w w' := by
 have hu28 := Try.underlying28
 have hu36 := Try.underlying36
 have HB := am (Below.refl w.heap.size w)
 have H : ((impl_isPlace.f a0_0 a0_1 a0_2 a1_0 a1_1).bind fun t225 => (if t225 = true then ((impl_depth.f a0_0 a0_1 a0_2 a1_0 a1_1).bind fun t226 => (some (decide (t226 > 0)))) else (some false))) = some r := h
 clear h
 replace H := Option.bind_eq_some_iff.mp H
 obtain ⟨t225, A30, H⟩ := H
 try dsimp only at H
 have A3 := am A30
 clear A30
 by_cases c4 : t225 = true
 ·subst c4
  rw [if_pos rfl] at H
  replace H := Option.bind_eq_some_iff.mp H
  obtain ⟨t226, A50, H⟩ := H
  try dsimp only at H
  have A5 := am A50
  clear A50
  obtain rfl := Option.some.inj H
  go_enter Try.func167, Try.ntmps167
  go_wp2_with (first | ((with_reducible refine gate_dst (N := 2) rfl ?_); refine bxe (N := 2) (cs := (csBay a0_0 a0_1 a0_2)) (t := 28) ?_; intro gb223 hg w6 hbox hb; have BK223 := am (hbox); have GW223 := am (gN hg (below_size (be HB))); have GE223 := am (gN hg (below_size (be HB))); replace HB := am (below_step (be HB) hb); clear hb hbox hg) | ((with_reducible refine gate_dst (N := 3) rfl ?_); refine bxe (N := 3) (cs := #[.int .i8 a1_0, .int .i8 a1_1]) (t := 36) ?_; intro gb224 hg w7 hbox hb; have BK224 := am (hbox); have GW224 := am (gN hg (below_size (be HB))); have GE224 := am (gN hg (below_size (be HB))); have NB223_224 := nL BK223 hg; have NB224_223 := nR BK223 hg; replace BK223 := bB BK223 hb; replace HB := am (below_step (be HB) hb); clear hb hbox hg; have hnb8 := NB223_224.out; have hnc8 := NB224_223.out; have hcz9_0 : w7.cell? ⟨gb223, 0, none⟩ = some (.int .i8 a0_0) := (blk_cell BK223.out 0).trans rfl; have hcz9_1 : w7.cell? ⟨gb223, 1, none⟩ = some (.int .i8 a0_1) := (blk_cell BK223.out 1).trans rfl; have hwz9 := lv28_at BK223.out; have haz9 := at_cells BK223.out; have hyz9 := BayAt28_of BK223.out; have hvz9 := lvv_of BK223.out; have hfz9_0 := blk_frozen BK223.out 0; have hfz9_1 := blk_frozen BK223.out 1; have hfz9_2 := blk_frozen BK223.out 2; obtain ⟨hcz10_0, hcz10_1, hfz10_0, hfz10_1⟩ := bx2 BK224) | ((with_reducible refine gate_callee (f := 178) rfl ?_); refine gL (some 7) Try.func178 #[.agg (csBay a0_0 a0_1 a0_2), .agg #[.int .i8 a1_0, .int .i8 a1_1]] ?_; (with_reducible refine (impl_isPlace.calls a0_0 a0_1 a0_2 a1_0 a1_1 true _ A3.out).mono ?_); rintro e w11 ⟨rfl, hb⟩; refine ⟨_, rfl, ?_⟩; replace BK223 := bB BK223 hb; replace BK224 := bB BK224 hb; replace HB := am (below_step (be HB) hb); (try clear hb); (try clear hb2); (try clear hk); (try clear hi); have hcz12_0 : w11.cell? ⟨gb223, 0, none⟩ = some (.int .i8 a0_0) := (blk_cell BK223.out 0).trans rfl; have hcz12_1 : w11.cell? ⟨gb223, 1, none⟩ = some (.int .i8 a0_1) := (blk_cell BK223.out 1).trans rfl; have hwz12 := lv28_at BK223.out; have haz12 := at_cells BK223.out; have hyz12 := BayAt28_of BK223.out; have hvz12 := lvv_of BK223.out; have hfz12_0 := blk_frozen BK223.out 0; have hfz12_1 := blk_frozen BK223.out 1; have hfz12_2 := blk_frozen BK223.out 2; obtain ⟨hcz13_0, hcz13_1, hfz13_0, hfz13_1⟩ := bx2 BK224) | (go_at_call 112; (with_reducible refine (impl_depth.calls a0_0 a0_1 a0_2 a1_0 a1_1 t226 _ A5.out).mono ?_); rintro e w14 ⟨rfl, hb⟩; replace BK223 := bB BK223 hb; replace BK224 := bB BK224 hb; replace HB := am (below_step (be HB) hb); (try clear hb); (try clear hb2); (try clear hk); (try clear hi)))
  go_ret
  exact ⟨by first | rfl | (simp [errW_none, errW_some] <;> rfl) | (simp [*, errW_none, errW_some] <;> rfl), be HB⟩
 ·replace c4 := Bool.eq_false_iff.mpr c4
  subst c4
  have H1 : (some false) = some r := by rw [if_neg (show ¬ (false = true) by decide)] at H; exact H
  clear H
  have H := H1
  clear H1
  obtain rfl := Option.some.inj H
  go_enter Try.func167, Try.ntmps167
  go_wp2_with (first | ((with_reducible refine gate_dst (N := 2) rfl ?_); refine bxe (N := 2) (cs := (csBay a0_0 a0_1 a0_2)) (t := 28) ?_; intro gb223 hg w15 hbox hb; have BK223 := am (hbox); have GW223 := am (gN hg (below_size (be HB))); have GE223 := am (gN hg (below_size (be HB))); replace HB := am (below_step (be HB) hb); clear hb hbox hg) | ((with_reducible refine gate_dst (N := 3) rfl ?_); refine bxe (N := 3) (cs := #[.int .i8 a1_0, .int .i8 a1_1]) (t := 36) ?_; intro gb224 hg w16 hbox hb; have BK224 := am (hbox); have GW224 := am (gN hg (below_size (be HB))); have GE224 := am (gN hg (below_size (be HB))); have NB223_224 := nL BK223 hg; have NB224_223 := nR BK223 hg; replace BK223 := bB BK223 hb; replace HB := am (below_step (be HB) hb); clear hb hbox hg; have hnb17 := NB223_224.out; have hnc17 := NB224_223.out; have hcz18_0 : w16.cell? ⟨gb223, 0, none⟩ = some (.int .i8 a0_0) := (blk_cell BK223.out 0).trans rfl; have hcz18_1 : w16.cell? ⟨gb223, 1, none⟩ = some (.int .i8 a0_1) := (blk_cell BK223.out 1).trans rfl; have hwz18 := lv28_at BK223.out; have haz18 := at_cells BK223.out; have hyz18 := BayAt28_of BK223.out; have hvz18 := lvv_of BK223.out; have hfz18_0 := blk_frozen BK223.out 0; have hfz18_1 := blk_frozen BK223.out 1; have hfz18_2 := blk_frozen BK223.out 2; obtain ⟨hcz19_0, hcz19_1, hfz19_0, hfz19_1⟩ := bx2 BK224) | ((with_reducible refine gate_callee (f := 178) rfl ?_); refine gL (some 7) Try.func178 #[.agg (csBay a0_0 a0_1 a0_2), .agg #[.int .i8 a1_0, .int .i8 a1_1]] ?_; (with_reducible refine (impl_isPlace.calls a0_0 a0_1 a0_2 a1_0 a1_1 false _ A3.out).mono ?_); rintro e w20 ⟨rfl, hb⟩; refine ⟨_, rfl, ?_⟩; replace BK223 := bB BK223 hb; replace BK224 := bB BK224 hb; replace HB := am (below_step (be HB) hb); (try clear hb); (try clear hb2); (try clear hk); (try clear hi)))
  go_ret
  exact ⟨by first | rfl | (simp [errW_none, errW_some] <;> rfl) | (simp [*, errW_none, errW_some] <;> rfl), be HB⟩

end Go.Proofs.Ytcollbifdfhfoaa.PFnExactIsAfloat
