-- Written by a program out of this seat's translation (functions, and that the code comes to them).
import Derived.Test.YtcollbifdfhfoaaPFnExactAfloatAtx0
import Derived.Test.YtcollbifdfhfoaaPFnExactAfloatAtx3
import Derived.Test.YtcollbifdfhfoaaPFnExactAfloatAtx5
import Derived.Test.YtcollbifdfhfoaaPFnExactAfloatAtx6
namespace Go.Proofs.Ytcollbifdfhfoaa.PFnExactAfloatAt
open Go.RowKit Go.Proofs.YtcollbifdfhfoaaW.PrintWords Go.Proofs.YtcollbifdfhfoaaW.PrintLast Go.Proofs.YtcollbifdfhfoaaW.PrintMore
attribute [local go_sem] max2_int min2_int max_two min_two max_three min_three max_four min_four   -- for this text's walks alone
open Go.Proofs.Ytcollbifdfhfoaa.Bay Go.Proofs.Ytcollbifdfhfoaa.Short
attribute [local go_sem ↓] lv26_eq lv28_eq
attribute [local go_sem] lvv_set lvv_drewN lvv_drew lv26_run BayAt26_set BayAt26_drewN BayAt26_drew lv28_run BayAt28_set BayAt28_drewN BayAt28_drew
set_option linter.unusedVariables false
set_option linter.unusedSimpArgs false

/-! ### spec_l02First: function 143 -/
def spec_l02First.f (l0 : List (S103)) : Option (Int) := if 0 < (l0.length : Int) then (some (wrap64 ((rd_T103 l0 0).f0))) else (none)
set_option maxHeartbeats 8000000 in
set_option maxRecDepth 100000 in
theorem spec_l02First.calls (A0 : Option Addr) (c0 : Nat) (l0 : List (S103)) (r : Int) (w : World) (hr0 : Kd.C k103 w A0 l0.length l0) (hc0 : l0.length ≤ c0) (h : spec_l02First.f l0 = some r) :
  Calls Try.prog 143 #[.slice A0 l0.length c0] w fun e w' => e = .returned (.int .i64 r) ∧ Drawn0 w w' := by
 have HR0 := am hr0
 have HC0 := am hc0
 clear hr0 hc0
 have H : (if 0 < (l0.length : Int) then (some (wrap64 ((rd_T103 l0 0).f0))) else (none)) = some r := h
 clear h
 by_cases c2 : 0 < (l0.length : Int)
 ·rw [if_pos c2] at H
  have c2b0 : decide (0 < (l0.length : Int)) = true := decide_eq_true c2
  have c2b1 : decide (0 < l0.length) = true := decide_eq_true (by omega)
  clear c2
  obtain rfl := Option.some.inj H
  have p228 : 0 ≤ (0 : Int) := (by omega)
  have q228 : 0 < (l0.length : Int) := of_decide_eq_true (by first | (with_reducible assumption) | assumption)
  obtain ⟨ad228, e228, hx228_0, hx228_1⟩ := at_T103 HR0.out 0 p228 q228
  cases e228
  have qi228 : (0 < l0.length) = True := eq_true (by omega)
  (try rw [show ((0 : Int)).toNat = 0 from rfl] at hx228_0)
  (try rw [show 0 * 2 = 0 from rfl] at hx228_0)
  (try rw [Addr.add_zero'] at hx228_0)
  (try rw [show ((0 : Int)).toNat = 0 from rfl] at hx228_1)
  (try rw [show 0 * 2 = 0 from rfl] at hx228_1)
  (try rw [Addr.add_zero'] at hx228_1)
  replace p228 := eq_true p228
  replace q228 := eq_true q228
  go_enter Try.func143, Try.ntmps143
  go_wp2
  go_ret
  exact ⟨by first | rfl | (simp; done) | (simp [*]; done), by repeat (first | exact Drawn0.refl _ | apply Drawn0.step)⟩
 ·rw [if_neg c2] at H
  exact absurd H (by simp)

/-! ### spec_l02Last: function 144 -/
def spec_l02Last.f (l0 : List (S103)) : Option (Int) := if 0 ≤ (wrap64 ((l0.length : Int) - 1)) then (if (wrap64 ((l0.length : Int) - 1)) < (l0.length : Int) then (some (wrap64 ((rd_T103 l0 (wrap64 ((l0.length : Int) - 1))).f0))) else (none)) else (none)
set_option maxHeartbeats 8000000 in
set_option maxRecDepth 100000 in
theorem spec_l02Last.calls (A0 : Option Addr) (c0 : Nat) (l0 : List (S103)) (r : Int) (w : World) (hr0 : Kd.C k103 w A0 l0.length l0) (hc0 : l0.length ≤ c0) (h : spec_l02Last.f l0 = some r) :
  Calls Try.prog 144 #[.slice A0 l0.length c0] w fun e w' => e = .returned (.int .i64 r) ∧ Drawn0 w w' := by
 have HR0 := am hr0
 have HC0 := am hc0
 clear hr0 hc0
 have H : (if 0 ≤ (wrap64 ((l0.length : Int) - 1)) then (if (wrap64 ((l0.length : Int) - 1)) < (l0.length : Int) then (some (wrap64 ((rd_T103 l0 (wrap64 ((l0.length : Int) - 1))).f0))) else (none)) else (none)) = some r := h
 clear h
 obtain ⟨ji2, hji2⟩ : ∃ j_ : Int, (wrap64 ((l0.length : Int) - 1)) = j_ := ⟨_, rfl⟩
 replace H : (if 0 ≤ (ji2) then (if (ji2) < (l0.length : Int) then (some (wrap64 ((rd_T103 l0 (ji2)).f0))) else (none)) else (none)) = some r := by first | (rw [hji2] at H; exact H) | (simp only [hji2] at H ⊢; exact H)
 have hji2w : (IntKind.i64.wrap ((l0.length : Int) - 1)) = ji2 := (i64_w _).trans hji2
 by_cases c3 : 0 ≤ (ji2)
 ·rw [if_pos c3] at H
  have c3b0 : decide (0 ≤ (ji2)) = true := decide_eq_true c3
  have c3b1 : 0 ≤ (ji2) := c3
  clear c3
  by_cases c4 : (ji2) < (l0.length : Int)
  ·rw [if_pos c4] at H
   have c4b0 : decide ((ji2) < (l0.length : Int)) = true := decide_eq_true c4
   clear c4
   obtain rfl := Option.some.inj H
   have p229 : 0 ≤ ((ji2) : Int) := of_decide_eq_true (by first | (with_reducible assumption) | assumption)
   have q229 : (ji2) < (l0.length : Int) := of_decide_eq_true (by first | (with_reducible assumption) | assumption)
   obtain ⟨ad229, e229, hx229_0, hx229_1⟩ := at_T103 HR0.out (ji2) p229 q229
   cases e229
   replace p229 := eq_true p229
   replace q229 := eq_true q229
   go_enter Try.func144, Try.ntmps144
   go_wp2
   go_ret
   exact ⟨by first | rfl | (simp; done) | (simp only [← hji2] <;> (first | rfl | simp)) | (simp [*]; done), by repeat (first | exact Drawn0.refl _ | apply Drawn0.step)⟩
  ·rw [if_neg c4] at H
   exact absurd H (by simp)
 ·rw [if_neg c3] at H
  exact absurd H (by simp)

/-! ### spec_l02In: function 153 -/
def spec_l02In.f (l0 : List (S103)) (a1 : Int) : Option (Bool) := if (l0.length : Int) > 0 then ((spec_l02First.f l0).bind fun t230 => ((spec_l02Last.f l0).bind fun t231 => ((spec_l00In.f a1 t230 t231).bind fun t232 => (some t232)))) else (some false)
set_option maxHeartbeats 8000000 in
set_option maxRecDepth 100000 in
theorem spec_l02In.calls (A0 : Option Addr) (c0 : Nat) (l0 : List (S103)) (a1 : Int) (r : Bool) (w : World) (hr0 : Kd.C k103 w A0 l0.length l0) (hc0 : l0.length ≤ c0) (h : spec_l02In.f l0 a1 = some r) :
  Calls Try.prog 153 #[.slice A0 l0.length c0, .int .i64 a1] w fun e w' => e = .returned (.bool r) ∧ Drawn0 w w' := by
 have HR0 := am hr0
 have HC0 := am hc0
 clear hr0 hc0
 have H : (if (l0.length : Int) > 0 then ((spec_l02First.f l0).bind fun t230 => ((spec_l02Last.f l0).bind fun t231 => ((spec_l00In.f a1 t230 t231).bind fun t232 => (some t232)))) else (some false)) = some r := h
 clear h
 by_cases c3 : (l0.length : Int) > 0
 ·rw [if_pos c3] at H
  have c3b0 : decide (0 < (l0.length : Int)) = true := decide_eq_true c3
  have c3b1 : decide (0 < l0.length) = true := decide_eq_true (by omega)
  clear c3
  replace H := Option.bind_eq_some_iff.mp H
  obtain ⟨t230, A40, H⟩ := H
  try dsimp only at H
  have A4 := am A40
  clear A40
  replace H := Option.bind_eq_some_iff.mp H
  obtain ⟨t231, A50, H⟩ := H
  try dsimp only at H
  have A5 := am A50
  clear A50
  replace H := Option.bind_eq_some_iff.mp H
  obtain ⟨t232, A60, H⟩ := H
  try dsimp only at H
  have A6 := am A60
  clear A60
  obtain rfl := Option.some.inj H
  go_enter Try.func153, Try.ntmps153
  go_wp2_with (first | (go_at_call 143; (with_reducible refine (spec_l02First.calls _ _ l0 t230 _ ?side1 ?side2 A4.out).mono ?_); (case side1 => repeat (first | exact HR0.out | (with_reducible refine Kd.C_alloc ?_ _) | (with_reducible refine Kd.C_drewN ?_ _) | (with_reducible refine Kd.C_drew ?_))); (case side2 => exact HC0.out); rintro e w' ⟨rfl, ⟨nd, rfl⟩⟩) | (go_at_call 144; (with_reducible refine (spec_l02Last.calls _ _ l0 t231 _ ?side1 ?side2 A5.out).mono ?_); (case side1 => repeat (first | exact HR0.out | (with_reducible refine Kd.C_alloc ?_ _) | (with_reducible refine Kd.C_drewN ?_ _) | (with_reducible refine Kd.C_drew ?_))); (case side2 => exact HC0.out); rintro e w' ⟨rfl, ⟨nd, rfl⟩⟩) | (go_at_call 164; (with_reducible refine (spec_l00In.calls a1 t230 t231 t232 _ A6.out).mono ?_); rintro e w' ⟨rfl, ⟨nd, rfl⟩⟩))
  go_ret
  exact ⟨by first | rfl | (simp; done) | (simp [*]; done), by repeat (first | exact Drawn0.refl _ | apply Drawn0.step)⟩
 ·rw [if_neg c3] at H
  have c3b0 : decide (0 < (l0.length : Int)) = false := decide_eq_false c3
  have c3b1 : decide (0 < l0.length) = false := decide_eq_false (by omega)
  clear c3
  obtain rfl := Option.some.inj H
  go_enter Try.func153, Try.ntmps153
  go_wp2
  go_ret
  exact ⟨by first | rfl | (simp; done) | (simp [*]; done), by repeat (first | exact Drawn0.refl _ | apply Drawn0.step)⟩

/-! ### spec_AfloatAt: function 89 -/
def spec_AfloatAt.l0 : Nat → List (S38) → List (S103) → Int → List Int → Int → Int → Int → (Nat → Int) → Option (List Int × Int)
 | 0, _, _, _, _, _, _, _, _ => none
 | k + 1, x1, x2, x3, x11, x12, x234000, x234001, x234002 => if x12 < (x1.length : Int) then (if 0 ≤ x12 then ((spec_l02Height.f k x2 x3).bind fun t246 => ((spec_l02Afloat.f x234000 x234001 x234002 ((rd_T38 x1 x12).f0.f0) ((rd_T38 x1 x12).f0.f1) ((rd_T38 x1 x12).f1) ((rd_T38 x1 x12).f2) ((rd_T38 x1 x12).f3) ((rd_T38 x1 x12).f4) t246).bind fun bt247 => (if bt247.1 = true then (if x11.length < 17592186044416 then (spec_AfloatAt.l0 k x1 x2 x3 (x11 ++ [x12]) (wrap64 (x12 + 1)) bt247.2.1 bt247.2.2.1 bt247.2.2.2) else (none)) else (spec_AfloatAt.l0 k x1 x2 x3 x11 (wrap64 (x12 + 1)) bt247.2.1 bt247.2.2.1 bt247.2.2.2)))) else (none)) else (some (x11, 0))
def spec_AfloatAt.f (k : Nat) (a0_0 : Int) (a0_1 : Int) (a0_2 : (Nat → Int)) (l1 : List (S38)) (l2 : List (S103)) (a3 : Int) : Option (List Int × Int) := (spec_l02In.f l2 a3).bind fun t234 => ((spec_l02Boats.f k a0_0 a0_1 a0_2 l1 l2 t234).bind fun bt235 => (if bt235.1 = 0 then (spec_AfloatAt.l0 k l1 l2 a3 (([] : List Int)) 0 bt235.2.1 bt235.2.2.1 bt235.2.2.2) else (some ((([] : List Int)), bt235.1))))
def spec_AfloatAt.T8 : Bool × List (List Nat × List Nat) := (true, [([], []), ([], []), ([0, 1], [0, 1]), ([2], [2]), ([], []), ([], []), ([4, 5], [4, 5]), ([3, 6, 6], [3, 6])])
def spec_AfloatAt.B8 : List Nat := [0, 0, 3, 7, 0, 0, 48, 127]
theorem spec_AfloatAt.tab8 : rtab .any (opsOf Try.f89 8) = spec_AfloatAt.T8 := by kernel_rfl
theorem spec_AfloatAt.bits8 : waitsOk spec_AfloatAt.T8.2 spec_AfloatAt.B8 = true := by kernel_rfl
set_option maxHeartbeats 8000000 in
set_option maxRecDepth 100000 in
theorem spec_AfloatAt.calls (k : Nat) (a0_0 : Int) (a0_1 : Int) (a0_2 : (Nat → Int)) (A1 : Option Addr) (c1 : Nat) (l1 : List (S38)) (A2 : Option Addr) (c2 : Nat) (l2 : List (S103)) (a3 : Int) (r1 : List Int) (r2 : Int) (w : World) (hr1 : Kd.C k38 w A1 l1.length l1) (hc1 : l1.length ≤ c1) (hr2 : Kd.C k103 w A2 l2.length l2) (hc2 : l2.length ≤ c2) (h : spec_AfloatAt.f k a0_0 a0_1 a0_2 l1 l2 a3 = some (r1, r2)) :
  Calls Try.prog 89 #[.agg (csBay a0_0 a0_1 a0_2), .slice A1 l1.length c1, .slice A2 l2.length c2, .int .i64 a3] w fun e w' => ∃ v0_ : Value, e = .returned (.tuple #[v0_, .int .i64 r2]) ∧ Kd.R (Kd.int .i64) 2 w' w.heap.size (fun _ => True) v0_ r1 ∧ Below w.heap.size w w' := by
 have hu28 := Try.underlying28
 have hu38 := Try.underlying38
 have HR1 := am hr1
 have HC1 := am hc1
 clear hr1 hc1
 have HR2 := am hr2
 have HC2 := am hc2
 clear hr2 hc2
 have HB := am (Below.refl w.heap.size w)
 have H : ((spec_l02In.f l2 a3).bind fun t234 => ((spec_l02Boats.f k a0_0 a0_1 a0_2 l1 l2 t234).bind fun bt235 => (if bt235.1 = 0 then (spec_AfloatAt.l0 k l1 l2 a3 (([] : List Int)) 0 bt235.2.1 bt235.2.2.1 bt235.2.2.2) else (some ((([] : List Int)), bt235.1))))) = some (r1, r2) := h
 clear h
 replace H := Option.bind_eq_some_iff.mp H
 obtain ⟨t234, A50, H⟩ := H
 try dsimp only at H
 have A5 := am A50
 clear A50
 replace H := Option.bind_eq_some_iff.mp H
 obtain ⟨⟨t235, t236, t237, t238⟩, A60, H⟩ := H
 try dsimp only at H
 have A6 := am A60
 clear A60
 by_cases c7 : t235 = 0
 ·rw [if_pos c7] at H
  have c7b0 : (t235 == 0) = true := beq_iff_eq.mpr c7
  have c7b1 : (t235 != 0) = false := bne_eq_false_iff_eq.mpr c7
  clear c7
  obtain ⟨y242, hy242⟩ : ∃ y_ : List Int, y_ = (([] : List Int)) := ⟨_, rfl⟩
  replace H : (spec_AfloatAt.l0 k l1 l2 a3 y242 0 t236 t237 t238) = some (r1, r2) := by first | (rw [hy242]; with_reducible exact H) | (have H2_ := (Option.bind_some _ _).symm.trans H; rw [hy242]; with_reducible exact H2_) | (have H2_ := (Option.bind_some _ _).symm.trans H; with_reducible exact H2_) | with_reducible exact H | (rw [hy242]; exact H) | exact H
  have Ny242 := am hy242
  clear hy242
  have H' := am H
  clear H
  go_enter Try.func89, Try.ntmps89
  go_wp2_with (first | ((with_reducible refine gate_dst (N := 4) rfl ?_); refine bxe (N := 4) (cs := (csBay a0_0 a0_1 a0_2)) (t := 28) ?_; intro gb233 hg w8 hbox hb; have HI233 := am ((show IsS28 w w8 gb233 a0_0 a0_1 a0_2 from ⟨hbox, by rw [hg]; exact (below_size (be HB))⟩)); have GW233 := am (gN hg (below_size (be HB))); have GE233 := am (gN hg (below_size (be HB))); replace HB := am (below_step (be HB) hb); clear hb hbox hg) | ((with_reducible refine gate_callee (f := 153) rfl ?_); refine gL (some 17) Try.func153 #[.slice A2 l2.length c2, .int .i64 a3] ?_; (with_reducible refine (spec_l02In.calls _ _ l2 a3 t234 _ ?side1 ?side2 A5.out).mono ?_); (case side1 => repeat (first | exact (Kd.C_below HR2.out HB.out) | (with_reducible refine Kd.C_alloc ?_ _) | (with_reducible refine Kd.C_drewN ?_ _) | (with_reducible refine Kd.C_drew ?_))); (case side2 => exact HC2.out); rintro e w' ⟨rfl, ⟨nd, rfl⟩⟩; refine ⟨_, rfl, ?_⟩) | ((with_reducible refine gate_callee (f := 142) rfl ?_); refine gL (some 18) Try.func142 #[.pointer (some ⟨gb233, 0, none⟩), .slice A1 l1.length c1, .slice A2 l2.length c2, .bool t234] ?_; (with_reducible refine (spec_l02Boats.calls k gb233 a0_0 a0_1 a0_2 _ _ l1 _ _ l2 t234 t235 t236 t237 t238 w _ ?side1 ?side2 ?side3 ?side4 ?side5 ?side6 A6.out).mono ?_); (case side1 => exact si28 HI233); (case side2 => exact be HB); (case side3 => exact Kd.C_foot_came k38_heap HR1.out (be HB) (IsS28.ge HI233.out)); (case side4 => exact HC1.out); (case side5 => exact Kd.C_foot_came k103_heap HR2.out (be HB) (IsS28.ge HI233.out)); (case side6 => exact HC2.out); rintro e w9 ⟨rfl, hi, hb, hk⟩; refine ⟨_, rfl, ?_⟩; replace HB := am (hb); replace HI233 := am (hi); (try clear hb); (try clear hb2); (try clear hk); (try clear hi)) | ((with_reducible refine gate_dst (N := 23) rfl ?_); refine Kd.R_lit (Kd.int .i64) _ 2 ?hg (N := 23) ?hd (xs := ([] : List Int)) (inner := []) (ok := fun _ => True) (okp := fun _ => True) ?hr ?hp (fun _ hk => hk) trivial (Below.refl _ _) (Nat.le_refl _) (by simp) ?_; (case hd => rfl); (case hg => rfl); (case hr => first | (go_simp; done) | (go_simp; rfl)); (case hp => exact (Reps.none _ _)); intro v243 w10 ho11 hb hg_ hnew_; clear hg_ hnew_; (first | rw [← Ny242.out] at ho11 | (simp only [Int.reduceToNat] at ho11; rw [← Ny242.out] at ho11)); have HO244 := am (Kd.R_lower ho11 (below_size (be HB))); replace HI233 := am (IsS28.below (si28 HI233) hb); replace HB := am (below_step (be HB) hb); clear hb ho11))
  go_loopg [11, 12] k (fun kq v11 v12 w' => ∃ (x11_1 : List Int) (x12_1 : Int) (x234000_1 : Int) (x234001_1 : Int) (x234002_1 : (Nat → Int)), v12 = .int .i64 x12_1 ∧ Aside0 (spec_AfloatAt.l0 kq l1 l2 a3 x11_1 x12_1 x234000_1 x234001_1 x234002_1 = some (r1, r2)) ∧ Aside0 (kq ≤ k) ∧ Aside0 (Kd.R (Kd.int .i64) 2 w' w.heap.size (fun _ => True) v11 x11_1) ∧ Aside0 (IsS28 w w' gb233 x234000_1 x234001_1 x234002_1) ∧ Aside0 (Below w.heap.size w w'))
  case atStart => exact ⟨(y242), (0), (t236), (t237), (t238), vv, H', ⟨Nat.le_refl _⟩, ⟨kr HO244⟩, ⟨si28 HI233⟩, ⟨be HB⟩⟩
  case round =>
   clear H'
   try clear c1
   try clear c2
   try clear p2
   try clear c7
   try clear c7b0
   try clear c7b1
   try clear c8
   obtain ⟨x11_1, x12_1, x234000_1, x234001_1, x234002_1, rfl, HA, HK1, HO_11, HI233, HB⟩ := hrel
   cases gk with
   | zero => exact absurd HA.out (by simp [spec_AfloatAt.l0])
   | succ k1 =>
    have H := HA.out
    clear HA
    simp only [spec_AfloatAt.l0] at H
    by_cases c12 : x12_1 < (l1.length : Int)
    ·rw [if_pos c12] at H
     have c12b0 : decide (x12_1 < (l1.length : Int)) = true := decide_eq_true c12
     clear c12
     by_cases c13 : 0 ≤ x12_1
     ·rw [if_pos c13] at H
      have c13b0 : decide (0 ≤ x12_1) = true := decide_eq_true c13
      have c13b1 : 0 ≤ x12_1 := c13
      clear c13
      replace H := Option.bind_eq_some_iff.mp H
      obtain ⟨t246, A140, H⟩ := H
      try dsimp only at H
      have A14 := am A140
      clear A140
      replace H := Option.bind_eq_some_iff.mp H
      obtain ⟨⟨t247, t248, t249, t250⟩, A150, H⟩ := H
      try dsimp only at H
      have A15 := am A150
      clear A150
      by_cases c16 : t247 = true
      ·subst c16
       rw [if_pos rfl] at H
       by_cases c17 : x11_1.length < 17592186044416
       ·rw [if_pos c17] at H
        have LMc17 := am c17
        clear c17
        obtain ⟨y251, hy251⟩ : ∃ y_ : List Int, y_ = (x11_1 ++ [x12_1]) := ⟨_, rfl⟩
        replace H : (spec_AfloatAt.l0 k1 l1 l2 a3 y251 (wrap64 (x12_1 + 1)) t248 t249 t250) = some (r1, r2) := by first | (rw [hy251]; with_reducible exact H) | (have H2_ := (Option.bind_some _ _).symm.trans H; rw [hy251]; with_reducible exact H2_) | (have H2_ := (Option.bind_some _ _).symm.trans H; with_reducible exact H2_) | with_reducible exact H | (rw [hy251]; exact H) | exact H
        have Ny251 := am hy251
        clear hy251
        have H' := am H
        clear H
        try go_wp2
        have n0_ := am (Kd.R_drew HO_11.out)
        have n1_ := am (IsS28.drew HI233.out)
        have n2_ := am (below_drew1 HB.out)
        clear HO_11
        clear HI233
        clear HB
        have HO_11 := n0_
        have HI233 := n1_
        have HB := n2_
        clear n0_ n1_ n2_
        have p245 : 0 ≤ (x12_1 : Int) := of_decide_eq_true (by first | (with_reducible assumption) | assumption)
        have q245 : x12_1 < (l1.length : Int) := of_decide_eq_true (by first | (with_reducible assumption) | assumption)
        obtain ⟨ad245, e245, hx245_0, hx245_1, hx245_2, hx245_3, hx245_4, hx245_5⟩ := at_T38 HR1.out x12_1 p245 q245
        have hw245_5 := hx245_5
        have hw245_4 := hx245_4
        have hw245_3 := hx245_3
        have hw245_2 := hx245_2
        have hw245_1 := hx245_1
        have hw245_0 := hx245_0
        cases e245
        replace hx245_0 := (HB.out.cell (World.block_lt_of_cell? w _ hx245_0)).trans hx245_0
        replace hx245_1 := (HB.out.cell (World.block_lt_of_cell? w _ hx245_1)).trans hx245_1
        replace hx245_2 := (HB.out.cell (World.block_lt_of_cell? w _ hx245_2)).trans hx245_2
        replace hx245_3 := (HB.out.cell (World.block_lt_of_cell? w _ hx245_3)).trans hx245_3
        replace hx245_4 := (HB.out.cell (World.block_lt_of_cell? w _ hx245_4)).trans hx245_4
        replace hx245_5 := (HB.out.cell (World.block_lt_of_cell? w _ hx245_5)).trans hx245_5
        replace p245 := eq_true p245
        replace q245 := eq_true q245
        refine start_ (n := 8) (S := fun w' => w'.cell? (ad245.add ((x12_1).toNat * 6)) = some (.int .i8 ((rd_T38 l1 x12_1).f0.f0)) ∧ w'.cell? ⟨(ad245.add ((x12_1).toNat * 6)).block, (ad245.add ((x12_1).toNat * 6)).off + 1, none⟩ = some (.int .i8 ((rd_T38 l1 x12_1).f0.f1)) ∧ w'.cell? ⟨(ad245.add ((x12_1).toNat * 6)).block, (ad245.add ((x12_1).toNat * 6)).off + 2, none⟩ = some (.int .i8 ((rd_T38 l1 x12_1).f1)) ∧ w'.cell? ⟨(ad245.add ((x12_1).toNat * 6)).block, (ad245.add ((x12_1).toNat * 6)).off + 3, none⟩ = some (.int .i8 ((rd_T38 l1 x12_1).f2)) ∧ w'.cell? ⟨(ad245.add ((x12_1).toNat * 6)).block, (ad245.add ((x12_1).toNat * 6)).off + 4, none⟩ = some (.int .i8 ((rd_T38 l1 x12_1).f3)) ∧ w'.cell? ⟨(ad245.add ((x12_1).toNat * 6)).block, (ad245.add ((x12_1).toNat * 6)).off + 5, none⟩ = some (.int .i8 ((rd_T38 l1 x12_1).f4))) (ds := []) #[false, false, false, false, false, false, false, false] (by kernel_rfl) rfl rfl ⟨((HB.out.cell (World.block_lt_of_cell? w _ hw245_0)).trans hw245_0), ((HB.out.cell (World.block_lt_of_cell? w _ hw245_1)).trans hw245_1), ((HB.out.cell (World.block_lt_of_cell? w _ hw245_2)).trans hw245_2), ((HB.out.cell (World.block_lt_of_cell? w _ hw245_3)).trans hw245_3), ((HB.out.cell (World.block_lt_of_cell? w _ hw245_4)).trans hw245_4), ((HB.out.cell (World.block_lt_of_cell? w _ hw245_5)).trans hw245_5)⟩ (fun hHeld => ?_); refine with_tabW spec_AfloatAt.tab8 spec_AfloatAt.bits8 (fun HT_ HW_ => ?_)
        generalize wr.drew = w18 at HO_11 HI233 HB hx245_0 hx245_1 hx245_2 hx245_3 hx245_4 hx245_5 hHeld ⊢
        refine pS (i := 0) (some 30) #[true, false, false, false, false, false, false, false] (any_of HT_.out (by kernel_rfl)) ?_
        refine pS (i := 1) (some 31) #[true, true, false, false, false, false, false, false] (any_of HT_.out (by kernel_rfl)) ?_
        refine pS (i := 2) (some 32) #[true, true, true, false, false, false, false, false] (any_of HT_.out (by kernel_rfl)) ?_
        refine pS (i := 4) (some 34) #[true, true, true, false, true, false, false, false] (any_of HT_.out (by kernel_rfl)) ?_
        refine pS (i := 5) (some 35) #[true, true, true, false, true, true, false, false] (any_of HT_.out (by kernel_rfl)) ?_
        refine tS (i := 3) (some 33) #[true, true, true, true, true, true, false, false] (take_ofW HT_.out HW_.out (by kernel_rfl)) hHeld ?_
        refine one_ (i := 6) (N := some 36) #[true, true, true, true, true, true, true, false] rfl rfl (one_of HT_.out (by kernel_rfl)) (by decide) (fun K hK => ?_)
        refine goes_ Try.func146 (by kernel_rfl) rfl #[.slice A2 l2.length c2, .int .i64 a3] (by rfl) rfl rfl (by (try simp only [List.map_toArray, List.map_cons, List.map_nil]); first | done | rfl | (simp only [List.length_drop, List.length_take]; rfl)) ?_
        with_reducible refine (spec_l02Height.calls k1 _ _ l2 a3 t246 _ ?side1 ?side2 A14.out).mono ?_
        (case side1 => repeat (first | exact (Kd.C_below HR2.out HB.out) | (with_reducible refine Kd.C_alloc ?_ _) | (with_reducible refine Kd.C_drewN ?_ _) | (with_reducible refine Kd.C_drew ?_)))
        (case side2 => exact HC2.out)
        rintro e w19 ⟨rfl, hb⟩
        refine ⟨_, rfl, ?_⟩
        have n0_ := am (Kd.R_below (kr HO_11) hb)
        have n1_ := am (IsS28.below (si28 HI233) hb)
        have n2_ := am (below_step (be HB) hb)
        clear HO_11
        clear HI233
        clear HB
        have HO_11 := n0_
        have HI233 := n1_
        have HB := n2_
        clear n0_ n1_ n2_
        (try clear hb)
        (try clear hb2)
        (try clear hk)
        (try clear hi)
        refine hK.out _ _ ⟨((HB.out.cell (World.block_lt_of_cell? w _ hw245_0)).trans hw245_0), ((HB.out.cell (World.block_lt_of_cell? w _ hw245_1)).trans hw245_1), ((HB.out.cell (World.block_lt_of_cell? w _ hw245_2)).trans hw245_2), ((HB.out.cell (World.block_lt_of_cell? w _ hw245_3)).trans hw245_3), ((HB.out.cell (World.block_lt_of_cell? w _ hw245_4)).trans hw245_4), ((HB.out.cell (World.block_lt_of_cell? w _ hw245_5)).trans hw245_5)⟩ (fun hHeld => ?_)
        clear hK K
        refine norm_ (a' := ?_) ?_ ?_
        rotate_left
        ·show Act.put _ (some 36) _ = _
         simp only [Act.put, List.setIfInBounds_toArray, List.set_cons_zero, List.set_cons_succ, i64_w, i32_w]
         rfl
        refine one_ (i := 7) (N := some 37) #[true, true, true, true, true, true, true, true] rfl rfl (one_of HT_.out (by kernel_rfl)) (by decide) (fun K hK => ?_)
        refine goes_ Try.func145 (by kernel_rfl) rfl #[.pointer (some ⟨gb233, 0, none⟩), .agg #[.int .i8 ((rd_T38 l1 x12_1).f0.f0), .int .i8 ((rd_T38 l1 x12_1).f0.f1), .int .i8 ((rd_T38 l1 x12_1).f1), .int .i8 ((rd_T38 l1 x12_1).f2), .int .i8 ((rd_T38 l1 x12_1).f3), .int .i8 ((rd_T38 l1 x12_1).f4)], .int .i64 t246] (by rfl) rfl rfl (by (try simp only [List.map_toArray, List.map_cons, List.map_nil]); first | done | rfl | (simp only [List.length_drop, List.length_take]; rfl)) ?_
        with_reducible refine (spec_l02Afloat.calls gb233 x234000_1 x234001_1 x234002_1 ((rd_T38 l1 x12_1).f0.f0) ((rd_T38 l1 x12_1).f0.f1) ((rd_T38 l1 x12_1).f1) ((rd_T38 l1 x12_1).f2) ((rd_T38 l1 x12_1).f3) ((rd_T38 l1 x12_1).f4) t246 true t248 t249 t250 w _ ?side1 ?side2 A15.out).mono ?_
        (case side1 => exact si28 HI233)
        (case side2 => exact be HB)
        rintro e w20 ⟨rfl, hi, hb, hk⟩
        refine ⟨_, rfl, ?_⟩
        have n0_ := am (Kd.R_mono (Kd.R_keep (IsS28.apart (show IsS28 w _ gb233 x234000_1 x234001_1 x234002_1 from si28 HI233) (kr HO_11) (by decide)) hk (fun _ h => h.2)) (fun _ h => h.1))
        have n1_ := am (hb)
        have n2_ := am (hi)
        clear HO_11
        clear HB
        clear HI233
        have HO_11 := n0_
        have HB := n1_
        have HI233 := n2_
        clear n0_ n1_ n2_
        (try clear hb)
        (try clear hb2)
        (try clear hk)
        (try clear hi)
        refine hK.out _ _ ⟨((HB.out.cell (World.block_lt_of_cell? w _ hw245_0)).trans hw245_0), ((HB.out.cell (World.block_lt_of_cell? w _ hw245_1)).trans hw245_1), ((HB.out.cell (World.block_lt_of_cell? w _ hw245_2)).trans hw245_2), ((HB.out.cell (World.block_lt_of_cell? w _ hw245_3)).trans hw245_3), ((HB.out.cell (World.block_lt_of_cell? w _ hw245_4)).trans hw245_4), ((HB.out.cell (World.block_lt_of_cell? w _ hw245_5)).trans hw245_5)⟩ (fun hHeld => ?_)
        clear hK K
        refine norm_ (a' := ?_) ?_ ?_
        rotate_left
        ·show Act.put _ (some 37) _ = _
         simp only [Act.put, List.setIfInBounds_toArray, List.set_cons_zero, List.set_cons_succ, i64_w, i32_w]
         rfl
        refine done_ (done_of HT_.out (by kernel_rfl)) ?_
        try go_wp2_with (first | ((with_reducible refine gate_builtin (b := .append) (xs := #[.tmp 38, .tmp 40]) rfl ?_); at_builtin; refine Kd.R_append (Kd.int .i64) (w0 := w) w.heap.size rfl (.tmp 38) (.tmp 40) 71 2 (.int .i64 0) 8 rfl Try.underlying71 info2 rfl (by decide) (by omega) u11 x11_1 x12_1 [.int .i64 x12_1] (fun _ => True) (fun _ => False) rfl rfl ?aP (fun _ hk => hk.elim) ?aF ?aO ?aB ?aS ?aL ?_; (case aP => exact rfl); (case aB => exact (be HB)); (case aF => exact (fun _ _ => trivial)); (case aO => exact (kr HO_11)); (case aS => exact (below_size (be HB))); (case aL => have := LMc17.out; omega); intro v252 w21 ho hb hg hat; rw [← Ny251.out] at ho; have HO253 := am (ho); replace HI233 := am (IsS28.grown (si28 HI233) hg (IsS28.own_ne HI233.out HO_11.out (by decide))); replace HB := am (hb); clear HO_11; clear ho hb hg hat))
        go_roundg k1
        case measure => have := HK1.out; omega
        case rel => exact ⟨(y251), (wrap64 (x12_1 + 1)), (t248), (t249), (t250), vv, H', ⟨by have := HK1.out; omega⟩, ⟨kr HO253⟩, ⟨si28 HI233⟩, ⟨be HB⟩⟩
       ·rw [if_neg c17] at H
        exact absurd H (by simp)
      ·replace c16 := Bool.eq_false_iff.mpr c16
       subst c16
       have H1 : (spec_AfloatAt.l0 k1 l1 l2 a3 x11_1 (wrap64 (x12_1 + 1)) t248 t249 t250) = some (r1, r2) := by rw [if_neg (show ¬ (false = true) by decide)] at H; exact H
       clear H
       have H := H1
       clear H1
       have H' := am H
       clear H
       try go_wp2
       have n0_ := am (Kd.R_drew HO_11.out)
       have n1_ := am (IsS28.drew HI233.out)
       have n2_ := am (below_drew1 HB.out)
       clear HO_11
       clear HI233
       clear HB
       have HO_11 := n0_
       have HI233 := n1_
       have HB := n2_
       clear n0_ n1_ n2_
       have p245 : 0 ≤ (x12_1 : Int) := of_decide_eq_true (by first | (with_reducible assumption) | assumption)
       have q245 : x12_1 < (l1.length : Int) := of_decide_eq_true (by first | (with_reducible assumption) | assumption)
       obtain ⟨ad245, e245, hx245_0, hx245_1, hx245_2, hx245_3, hx245_4, hx245_5⟩ := at_T38 HR1.out x12_1 p245 q245
       have hw245_5 := hx245_5
       have hw245_4 := hx245_4
       have hw245_3 := hx245_3
       have hw245_2 := hx245_2
       have hw245_1 := hx245_1
       have hw245_0 := hx245_0
       cases e245
       replace hx245_0 := (HB.out.cell (World.block_lt_of_cell? w _ hx245_0)).trans hx245_0
       replace hx245_1 := (HB.out.cell (World.block_lt_of_cell? w _ hx245_1)).trans hx245_1
       replace hx245_2 := (HB.out.cell (World.block_lt_of_cell? w _ hx245_2)).trans hx245_2
       replace hx245_3 := (HB.out.cell (World.block_lt_of_cell? w _ hx245_3)).trans hx245_3
       replace hx245_4 := (HB.out.cell (World.block_lt_of_cell? w _ hx245_4)).trans hx245_4
       replace hx245_5 := (HB.out.cell (World.block_lt_of_cell? w _ hx245_5)).trans hx245_5
       replace p245 := eq_true p245
       replace q245 := eq_true q245
       refine start_ (n := 8) (S := fun w' => w'.cell? (ad245.add ((x12_1).toNat * 6)) = some (.int .i8 ((rd_T38 l1 x12_1).f0.f0)) ∧ w'.cell? ⟨(ad245.add ((x12_1).toNat * 6)).block, (ad245.add ((x12_1).toNat * 6)).off + 1, none⟩ = some (.int .i8 ((rd_T38 l1 x12_1).f0.f1)) ∧ w'.cell? ⟨(ad245.add ((x12_1).toNat * 6)).block, (ad245.add ((x12_1).toNat * 6)).off + 2, none⟩ = some (.int .i8 ((rd_T38 l1 x12_1).f1)) ∧ w'.cell? ⟨(ad245.add ((x12_1).toNat * 6)).block, (ad245.add ((x12_1).toNat * 6)).off + 3, none⟩ = some (.int .i8 ((rd_T38 l1 x12_1).f2)) ∧ w'.cell? ⟨(ad245.add ((x12_1).toNat * 6)).block, (ad245.add ((x12_1).toNat * 6)).off + 4, none⟩ = some (.int .i8 ((rd_T38 l1 x12_1).f3)) ∧ w'.cell? ⟨(ad245.add ((x12_1).toNat * 6)).block, (ad245.add ((x12_1).toNat * 6)).off + 5, none⟩ = some (.int .i8 ((rd_T38 l1 x12_1).f4))) (ds := []) #[false, false, false, false, false, false, false, false] (by kernel_rfl) rfl rfl ⟨((HB.out.cell (World.block_lt_of_cell? w _ hw245_0)).trans hw245_0), ((HB.out.cell (World.block_lt_of_cell? w _ hw245_1)).trans hw245_1), ((HB.out.cell (World.block_lt_of_cell? w _ hw245_2)).trans hw245_2), ((HB.out.cell (World.block_lt_of_cell? w _ hw245_3)).trans hw245_3), ((HB.out.cell (World.block_lt_of_cell? w _ hw245_4)).trans hw245_4), ((HB.out.cell (World.block_lt_of_cell? w _ hw245_5)).trans hw245_5)⟩ (fun hHeld => ?_); refine with_tabW spec_AfloatAt.tab8 spec_AfloatAt.bits8 (fun HT_ HW_ => ?_)
       generalize wr.drew = w22 at HO_11 HI233 HB hx245_0 hx245_1 hx245_2 hx245_3 hx245_4 hx245_5 hHeld ⊢
       refine pS (i := 0) (some 30) #[true, false, false, false, false, false, false, false] (any_of HT_.out (by kernel_rfl)) ?_
       refine pS (i := 1) (some 31) #[true, true, false, false, false, false, false, false] (any_of HT_.out (by kernel_rfl)) ?_
       refine pS (i := 2) (some 32) #[true, true, true, false, false, false, false, false] (any_of HT_.out (by kernel_rfl)) ?_
       refine pS (i := 4) (some 34) #[true, true, true, false, true, false, false, false] (any_of HT_.out (by kernel_rfl)) ?_
       refine pS (i := 5) (some 35) #[true, true, true, false, true, true, false, false] (any_of HT_.out (by kernel_rfl)) ?_
       refine tS (i := 3) (some 33) #[true, true, true, true, true, true, false, false] (take_ofW HT_.out HW_.out (by kernel_rfl)) hHeld ?_
       refine one_ (i := 6) (N := some 36) #[true, true, true, true, true, true, true, false] rfl rfl (one_of HT_.out (by kernel_rfl)) (by decide) (fun K hK => ?_)
       refine goes_ Try.func146 (by kernel_rfl) rfl #[.slice A2 l2.length c2, .int .i64 a3] (by rfl) rfl rfl (by (try simp only [List.map_toArray, List.map_cons, List.map_nil]); first | done | rfl | (simp only [List.length_drop, List.length_take]; rfl)) ?_
       with_reducible refine (spec_l02Height.calls k1 _ _ l2 a3 t246 _ ?side1 ?side2 A14.out).mono ?_
       (case side1 => repeat (first | exact (Kd.C_below HR2.out HB.out) | (with_reducible refine Kd.C_alloc ?_ _) | (with_reducible refine Kd.C_drewN ?_ _) | (with_reducible refine Kd.C_drew ?_)))
       (case side2 => exact HC2.out)
       rintro e w23 ⟨rfl, hb⟩
       refine ⟨_, rfl, ?_⟩
       have n0_ := am (Kd.R_below (kr HO_11) hb)
       have n1_ := am (IsS28.below (si28 HI233) hb)
       have n2_ := am (below_step (be HB) hb)
       clear HO_11
       clear HI233
       clear HB
       have HO_11 := n0_
       have HI233 := n1_
       have HB := n2_
       clear n0_ n1_ n2_
       (try clear hb)
       (try clear hb2)
       (try clear hk)
       (try clear hi)
       refine hK.out _ _ ⟨((HB.out.cell (World.block_lt_of_cell? w _ hw245_0)).trans hw245_0), ((HB.out.cell (World.block_lt_of_cell? w _ hw245_1)).trans hw245_1), ((HB.out.cell (World.block_lt_of_cell? w _ hw245_2)).trans hw245_2), ((HB.out.cell (World.block_lt_of_cell? w _ hw245_3)).trans hw245_3), ((HB.out.cell (World.block_lt_of_cell? w _ hw245_4)).trans hw245_4), ((HB.out.cell (World.block_lt_of_cell? w _ hw245_5)).trans hw245_5)⟩ (fun hHeld => ?_)
       clear hK K
       refine norm_ (a' := ?_) ?_ ?_
       rotate_left
       ·show Act.put _ (some 36) _ = _
        simp only [Act.put, List.setIfInBounds_toArray, List.set_cons_zero, List.set_cons_succ, i64_w, i32_w]
        rfl
       refine one_ (i := 7) (N := some 37) #[true, true, true, true, true, true, true, true] rfl rfl (one_of HT_.out (by kernel_rfl)) (by decide) (fun K hK => ?_)
       refine goes_ Try.func145 (by kernel_rfl) rfl #[.pointer (some ⟨gb233, 0, none⟩), .agg #[.int .i8 ((rd_T38 l1 x12_1).f0.f0), .int .i8 ((rd_T38 l1 x12_1).f0.f1), .int .i8 ((rd_T38 l1 x12_1).f1), .int .i8 ((rd_T38 l1 x12_1).f2), .int .i8 ((rd_T38 l1 x12_1).f3), .int .i8 ((rd_T38 l1 x12_1).f4)], .int .i64 t246] (by rfl) rfl rfl (by (try simp only [List.map_toArray, List.map_cons, List.map_nil]); first | done | rfl | (simp only [List.length_drop, List.length_take]; rfl)) ?_
       with_reducible refine (spec_l02Afloat.calls gb233 x234000_1 x234001_1 x234002_1 ((rd_T38 l1 x12_1).f0.f0) ((rd_T38 l1 x12_1).f0.f1) ((rd_T38 l1 x12_1).f1) ((rd_T38 l1 x12_1).f2) ((rd_T38 l1 x12_1).f3) ((rd_T38 l1 x12_1).f4) t246 false t248 t249 t250 w _ ?side1 ?side2 A15.out).mono ?_
       (case side1 => exact si28 HI233)
       (case side2 => exact be HB)
       rintro e w24 ⟨rfl, hi, hb, hk⟩
       refine ⟨_, rfl, ?_⟩
       have n0_ := am (Kd.R_mono (Kd.R_keep (IsS28.apart (show IsS28 w _ gb233 x234000_1 x234001_1 x234002_1 from si28 HI233) (kr HO_11) (by decide)) hk (fun _ h => h.2)) (fun _ h => h.1))
       have n1_ := am (hb)
       have n2_ := am (hi)
       clear HO_11
       clear HB
       clear HI233
       have HO_11 := n0_
       have HB := n1_
       have HI233 := n2_
       clear n0_ n1_ n2_
       (try clear hb)
       (try clear hb2)
       (try clear hk)
       (try clear hi)
       refine hK.out _ _ ⟨((HB.out.cell (World.block_lt_of_cell? w _ hw245_0)).trans hw245_0), ((HB.out.cell (World.block_lt_of_cell? w _ hw245_1)).trans hw245_1), ((HB.out.cell (World.block_lt_of_cell? w _ hw245_2)).trans hw245_2), ((HB.out.cell (World.block_lt_of_cell? w _ hw245_3)).trans hw245_3), ((HB.out.cell (World.block_lt_of_cell? w _ hw245_4)).trans hw245_4), ((HB.out.cell (World.block_lt_of_cell? w _ hw245_5)).trans hw245_5)⟩ (fun hHeld => ?_)
       clear hK K
       refine norm_ (a' := ?_) ?_ ?_
       rotate_left
       ·show Act.put _ (some 37) _ = _
        simp only [Act.put, List.setIfInBounds_toArray, List.set_cons_zero, List.set_cons_succ, i64_w, i32_w]
        rfl
       refine done_ (done_of HT_.out (by kernel_rfl)) ?_
       try go_wp2
       go_roundg k1
       case measure => have := HK1.out; omega
       case rel => exact ⟨(x11_1), (wrap64 (x12_1 + 1)), (t248), (t249), (t250), vv, H', ⟨by have := HK1.out; omega⟩, ⟨kr HO_11⟩, ⟨si28 HI233⟩, ⟨be HB⟩⟩
     ·rw [if_neg c13] at H
      exact absurd H (by simp)
    ·rw [if_neg c12] at H
     have c12b0 : decide (x12_1 < (l1.length : Int)) = false := decide_eq_false c12
     clear c12
     simp only [Option.some.injEq, Prod.mk.injEq] at H
     obtain ⟨rfl, rfl⟩ := H
     go_wp2
     go_ret2
     exact ⟨_, by first | rfl | (simp [errW_none, errW_some] <;> rfl) | (simp [*, errW_none, errW_some] <;> rfl), by (with_reducible repeat (first | apply Kd.R_alloc | apply Kd.R_drewN | apply Kd.R_drew)); exact HO_11.out, be HB⟩
 ·rw [if_neg c7] at H
  have c7b0 : (t235 == 0) = false := beq_eq_false_iff_ne.mpr c7
  have c7b1 : (t235 != 0) = true := bne_iff_ne.mpr c7
  obtain ⟨y239, hy239⟩ : ∃ y_ : List Int, y_ = (([] : List Int)) := ⟨_, rfl⟩
  replace H : (some (y239, t235)) = some (r1, r2) := by first | (rw [hy239]; with_reducible exact H) | (have H2_ := (Option.bind_some _ _).symm.trans H; rw [hy239]; with_reducible exact H2_) | (have H2_ := (Option.bind_some _ _).symm.trans H; with_reducible exact H2_) | with_reducible exact H | (rw [hy239]; exact H) | exact H
  have Ny239 := am hy239
  clear hy239
  simp only [Option.some.injEq, Prod.mk.injEq] at H
  obtain ⟨rfl, rfl⟩ := H
  go_enter Try.func89, Try.ntmps89
  go_wp2_with (first | ((with_reducible refine gate_dst (N := 4) rfl ?_); refine bxe (N := 4) (cs := (csBay a0_0 a0_1 a0_2)) (t := 28) ?_; intro gb233 hg w25 hbox hb; have HI233 := am ((show IsS28 w w25 gb233 a0_0 a0_1 a0_2 from ⟨hbox, by rw [hg]; exact (below_size (be HB))⟩)); have GW233 := am (gN hg (below_size (be HB))); have GE233 := am (gN hg (below_size (be HB))); replace HB := am (below_step (be HB) hb); clear hb hbox hg) | ((with_reducible refine gate_callee (f := 153) rfl ?_); refine gL (some 17) Try.func153 #[.slice A2 l2.length c2, .int .i64 a3] ?_; (with_reducible refine (spec_l02In.calls _ _ l2 a3 t234 _ ?side1 ?side2 A5.out).mono ?_); (case side1 => repeat (first | exact (Kd.C_below HR2.out HB.out) | (with_reducible refine Kd.C_alloc ?_ _) | (with_reducible refine Kd.C_drewN ?_ _) | (with_reducible refine Kd.C_drew ?_))); (case side2 => exact HC2.out); rintro e w' ⟨rfl, ⟨nd, rfl⟩⟩; refine ⟨_, rfl, ?_⟩) | ((with_reducible refine gate_callee (f := 142) rfl ?_); refine gL (some 18) Try.func142 #[.pointer (some ⟨gb233, 0, none⟩), .slice A1 l1.length c1, .slice A2 l2.length c2, .bool t234] ?_; (with_reducible refine (spec_l02Boats.calls k gb233 a0_0 a0_1 a0_2 _ _ l1 _ _ l2 t234 t235 t236 t237 t238 w _ ?side1 ?side2 ?side3 ?side4 ?side5 ?side6 A6.out).mono ?_); (case side1 => exact si28 HI233); (case side2 => exact be HB); (case side3 => exact Kd.C_foot_came k38_heap HR1.out (be HB) (IsS28.ge HI233.out)); (case side4 => exact HC1.out); (case side5 => exact Kd.C_foot_came k103_heap HR2.out (be HB) (IsS28.ge HI233.out)); (case side6 => exact HC2.out); rintro e w26 ⟨rfl, hi, hb, hk⟩; refine ⟨_, rfl, ?_⟩; replace HB := am (hb); replace HI233 := am (hi); (try clear hb); (try clear hb2); (try clear hk); (try clear hi)) | ((with_reducible refine gate_dst (N := 21) rfl ?_); refine Kd.R_lit (Kd.int .i64) _ 2 ?hg (N := 21) ?hd (xs := ([] : List Int)) (inner := []) (ok := fun _ => True) (okp := fun _ => True) ?hr ?hp (fun _ hk => hk) trivial (Below.refl _ _) (Nat.le_refl _) (by simp) ?_; (case hd => rfl); (case hg => rfl); (case hr => first | (go_simp; done) | (go_simp; rfl)); (case hp => exact (Reps.none _ _)); intro v240 w27 ho28 hb hg_ hnew_; clear hg_ hnew_; (first | rw [← Ny239.out] at ho28 | (simp only [Int.reduceToNat] at ho28; rw [← Ny239.out] at ho28)); have HO241 := am (Kd.R_lower ho28 (below_size (be HB))); replace HI233 := am (IsS28.below (si28 HI233) hb); replace HB := am (below_step (be HB) hb); clear hb ho28))
  go_ret2
  exact ⟨_, by first | rfl | (simp [errW_none, errW_some] <;> rfl) | (simp [*, errW_none, errW_some] <;> rfl), by (with_reducible repeat (first | apply Kd.R_alloc | apply Kd.R_drewN | apply Kd.R_drew)); exact HO241.out, be HB⟩

/-! ### impl_depth: function 112 -/
def impl_depth.f (a0_0 : Int) (a0_1 : Int) (a0_2 : (Nat → Int)) (a1_0 : Int) (a1_1 : Int) : Option (Int) := if 0 ≤ a1_1 then (if a1_1 < 16 then (if 0 ≤ a1_0 then (if a1_0 < 16 then (some (wrap64 (a0_2 (16 * (a1_1 : Int).toNat + (a1_0 : Int).toNat)))) else (none)) else (none)) else (none)) else (none)
set_option maxHeartbeats 8000000 in
set_option maxRecDepth 100000 in
theorem impl_depth.calls (a0_0 : Int) (a0_1 : Int) (a0_2 : (Nat → Int)) (a1_0 : Int) (a1_1 : Int) (r : Int) (w : World) (h : impl_depth.f a0_0 a0_1 a0_2 a1_0 a1_1 = some r) :
  Calls Try.prog 112 #[.agg (csBay a0_0 a0_1 a0_2), .agg #[.int .i8 a1_0, .int .i8 a1_1]] w fun e w' => e = .returned (.int .i64 r) ∧ Below w.heap.size w w' := by
 have hu28 := Try.underlying28
 have hu36 := Try.underlying36
 have HB := am (Below.refl w.heap.size w)
 have H : (if 0 ≤ a1_1 then (if a1_1 < 16 then (if 0 ≤ a1_0 then (if a1_0 < 16 then (some (wrap64 (a0_2 (16 * (a1_1 : Int).toNat + (a1_0 : Int).toNat)))) else (none)) else (none)) else (none)) else (none)) = some r := h
 clear h
 by_cases c3 : 0 ≤ a1_1
 ·rw [if_pos c3] at H
  have c3b0 : decide (0 ≤ a1_1) = true := decide_eq_true c3
  have c3b1 : 0 ≤ a1_1 := c3
  clear c3
  by_cases c4 : a1_1 < 16
  ·rw [if_pos c4] at H
   have c4b0 : decide (a1_1 < 16) = true := decide_eq_true c4
   have c4b1 : a1_1 < 16 := c4
   clear c4
   by_cases c5 : 0 ≤ a1_0
   ·rw [if_pos c5] at H
    have c5b0 : decide (0 ≤ a1_0) = true := decide_eq_true c5
    have c5b1 : 0 ≤ a1_0 := c5
    clear c5
    by_cases c6 : a1_0 < 16
    ·rw [if_pos c6] at H
     have c6b0 : decide (a1_0 < 16) = true := decide_eq_true c6
     have c6b1 : a1_0 < 16 := c6
     clear c6
     obtain rfl := Option.some.inj H
     go_enter Try.func112, Try.ntmps112
     go_wp2_with (first | ((with_reducible refine gate_dst (N := 2) rfl ?_); refine bxe (N := 2) (cs := (csBay a0_0 a0_1 a0_2)) (t := 28) ?_; intro gb254 hg w7 hbox hb; have BK254 := am (hbox); have GW254 := am (gN hg (below_size (be HB))); have GE254 := am (gN hg (below_size (be HB))); replace HB := am (below_step (be HB) hb); clear hb hbox hg) | ((with_reducible refine gate_dst (N := 3) rfl ?_); refine bxe (N := 3) (cs := #[.int .i8 a1_0, .int .i8 a1_1]) (t := 36) ?_; intro gb255 hg w8 hbox hb; have BK255 := am (hbox); have GW255 := am (gN hg (below_size (be HB))); have GE255 := am (gN hg (below_size (be HB))); have NB254_255 := nL BK254 hg; have NB255_254 := nR BK254 hg; replace BK254 := bB BK254 hb; replace HB := am (below_step (be HB) hb); clear hb hbox hg; have hnb9 := NB255_254.out; have hnc9 := NB254_255.out; obtain ⟨hcz10_0, hcz10_1, hfz10_0, hfz10_1⟩ := bx2 BK255; obtain ⟨hcz11_0, hcz11_1, hwz11, haz11, hyz11, hvz11, hfz11_0, hfz11_1, hfz11_2⟩ := bb28 BK254))
     repeat (go_quiet (first | ((with_reducible refine gate_dst (N := 2) rfl ?_); refine bxe (N := 2) (cs := (csBay a0_0 a0_1 a0_2)) (t := 28) ?_; intro gb254 hg w7 hbox hb; have BK254 := am (hbox); have GW254 := am (gN hg (below_size (be HB))); have GE254 := am (gN hg (below_size (be HB))); replace HB := am (below_step (be HB) hb); clear hb hbox hg) | ((with_reducible refine gate_dst (N := 3) rfl ?_); refine bxe (N := 3) (cs := #[.int .i8 a1_0, .int .i8 a1_1]) (t := 36) ?_; intro gb255 hg w8 hbox hb; have BK255 := am (hbox); have GW255 := am (gN hg (below_size (be HB))); have GE255 := am (gN hg (below_size (be HB))); have NB254_255 := nL BK254 hg; have NB255_254 := nR BK254 hg; replace BK254 := bB BK254 hb; replace HB := am (below_step (be HB) hb); clear hb hbox hg; have hnb9 := NB255_254.out; have hnc9 := NB254_255.out; obtain ⟨hcz10_0, hcz10_1, hfz10_0, hfz10_1⟩ := bx2 BK255; obtain ⟨hcz11_0, hcz11_1, hwz11, haz11, hyz11, hvz11, hfz11_0, hfz11_1, hfz11_2⟩ := bb28 BK254)); try go_wp2_with (first | ((with_reducible refine gate_dst (N := 2) rfl ?_); refine bxe (N := 2) (cs := (csBay a0_0 a0_1 a0_2)) (t := 28) ?_; intro gb254 hg w7 hbox hb; have BK254 := am (hbox); have GW254 := am (gN hg (below_size (be HB))); have GE254 := am (gN hg (below_size (be HB))); replace HB := am (below_step (be HB) hb); clear hb hbox hg) | ((with_reducible refine gate_dst (N := 3) rfl ?_); refine bxe (N := 3) (cs := #[.int .i8 a1_0, .int .i8 a1_1]) (t := 36) ?_; intro gb255 hg w8 hbox hb; have BK255 := am (hbox); have GW255 := am (gN hg (below_size (be HB))); have GE255 := am (gN hg (below_size (be HB))); have NB254_255 := nL BK254 hg; have NB255_254 := nR BK254 hg; replace BK254 := bB BK254 hb; replace HB := am (below_step (be HB) hb); clear hb hbox hg; have hnb9 := NB255_254.out; have hnc9 := NB254_255.out; obtain ⟨hcz10_0, hcz10_1, hfz10_0, hfz10_1⟩ := bx2 BK255; obtain ⟨hcz11_0, hcz11_1, hwz11, haz11, hyz11, hvz11, hfz11_0, hfz11_1, hfz11_2⟩ := bb28 BK254)))
     go_ret
     exact ⟨by first | rfl | (simp [errW_none, errW_some] <;> rfl) | (simp [*, errW_none, errW_some] <;> rfl), be HB⟩
    ·rw [if_neg c6] at H
     exact absurd H (by simp)
   ·rw [if_neg c5] at H
    exact absurd H (by simp)
  ·rw [if_neg c4] at H
   exact absurd H (by simp)
 ·rw [if_neg c3] at H
  exact absurd H (by simp)

/-! ### impl_afloat: function 150 -/
def impl_afloat.f (a0_0 : Int) (a0_1 : Int) (a0_2 : (Nat → Int)) (a1_0 : Int) (a1_1 : Int) (a1_2 : Int) (a1_3 : Int) (a1_4 : Int) (a1_5 : Int) (a2 : Int) : Option (Bool) := (impl_depth.f a0_0 a0_1 a0_2 a1_0 a1_1).bind fun t258 => (some (decide ((wrap64 (t258 + a2)) ≥ (wrap64 (a1_4)))))
def impl_afloat.T1 : Bool × List (List Nat × List Nat) := (true, [([], []), ([], []), ([1], [1]), ([0, 2], [0, 2]), ([], []), ([3, 4], [3, 4]), ([], []), ([6], [6]), ([7], [7]), ([5, 8], [5, 8]), ([9, 3, 0, 1, 2, 3, 4, 5, 6, 7, 8, 9], [9])])
def impl_afloat.B1 : List Nat := [0, 0, 2, 7, 0, 31, 0, 64, 192, 511, 1023]
theorem impl_afloat.tab1 : rtab .any (opsOf Try.f150 1) = impl_afloat.T1 := by kernel_rfl
theorem impl_afloat.bits1 : waitsOk impl_afloat.T1.2 impl_afloat.B1 = true := by kernel_rfl
set_option maxHeartbeats 8000000 in
set_option maxRecDepth 100000 in
theorem impl_afloat.calls (a0_0 : Int) (a0_1 : Int) (a0_2 : (Nat → Int)) (a1_0 : Int) (a1_1 : Int) (a1_2 : Int) (a1_3 : Int) (a1_4 : Int) (a1_5 : Int) (a2 : Int) (r : Bool) (w : World) (h : impl_afloat.f a0_0 a0_1 a0_2 a1_0 a1_1 a1_2 a1_3 a1_4 a1_5 a2 = some r) :
  Calls Try.prog 150 #[.agg (csBay a0_0 a0_1 a0_2), .agg #[.int .i8 a1_0, .int .i8 a1_1, .int .i8 a1_2, .int .i8 a1_3, .int .i8 a1_4, .int .i8 a1_5], .int .i64 a2] w fun e w' => e = .returned (.bool r) ∧ Below w.heap.size w w' := by
 have hu28 := Try.underlying28
 have hu38 := Try.underlying38
 have hu36 := Try.underlying36
 have HB := am (Below.refl w.heap.size w)
 have H : ((impl_depth.f a0_0 a0_1 a0_2 a1_0 a1_1).bind fun t258 => (some (decide ((wrap64 (t258 + a2)) ≥ (wrap64 (a1_4)))))) = some r := h
 clear h
 replace H := Option.bind_eq_some_iff.mp H
 obtain ⟨t258, A40, H⟩ := H
 try dsimp only at H
 have A4 := am A40
 clear A40
 obtain rfl := Option.some.inj H
 go_enter Try.func150, Try.ntmps150
 try go_wp2_with (first | ((with_reducible refine gate_dst (N := 3) rfl ?_); refine bxe (N := 3) (cs := (csBay a0_0 a0_1 a0_2)) (t := 28) ?_; intro gb256 hg w5 hbox hb; have BK256 := am (hbox); have GW256 := am (gN hg (below_size (be HB))); have GE256 := am (gN hg (below_size (be HB))); replace HB := am (below_step (be HB) hb); clear hb hbox hg) | ((with_reducible refine gate_dst (N := 4) rfl ?_); refine bxe (N := 4) (cs := #[.int .i8 a1_0, .int .i8 a1_1, .int .i8 a1_2, .int .i8 a1_3, .int .i8 a1_4, .int .i8 a1_5]) (t := 38) ?_; intro gb257 hg w6 hbox hb; have BK257 := am (hbox); have GW257 := am (gN hg (below_size (be HB))); have GE257 := am (gN hg (below_size (be HB))); have NB256_257 := nL BK256 hg; have NB257_256 := nR BK256 hg; replace BK256 := bB BK256 hb; replace HB := am (below_step (be HB) hb); clear hb hbox hg))
 have n0_ := am (blk_drew BK256.out)
 have n1_ := am (blk_drew BK257.out)
 have n2_ := am (below_drew1 HB.out)
 clear BK256
 clear BK257
 clear HB
 have BK256 := n0_
 have BK257 := n1_
 have HB := n2_
 clear n0_ n1_ n2_
 refine start_ (n := 11) (S := fun w' => w'.cell? ⟨gb256, 0, none⟩ = some (.int .i8 a0_0) ∧ w'.cell? ⟨gb256, 1, none⟩ = some (.int .i8 a0_1) ∧ atCells w' gb256 a0_2 ∧ BayAt28 w' gb256 ∧ lvv w' gb256 = .agg (csBay a0_0 a0_1 a0_2) ∧ w'.cell? ⟨gb257, 0, none⟩ = some (.int .i8 a1_0) ∧ w'.cell? ⟨gb257, 1, none⟩ = some (.int .i8 a1_1) ∧ w'.cell? ⟨gb257, 2, none⟩ = some (.int .i8 a1_2) ∧ w'.cell? ⟨gb257, 3, none⟩ = some (.int .i8 a1_3) ∧ w'.cell? ⟨gb257, 4, none⟩ = some (.int .i8 a1_4) ∧ w'.cell? ⟨gb257, 5, none⟩ = some (.int .i8 a1_5)) (ds := []) #[false, false, false, false, false, false, false, false, false, false, false] (by kernel_rfl) rfl rfl ⟨(blk_cell BK256.out 0).trans rfl, (blk_cell BK256.out 1).trans rfl, at_cells BK256.out, BayAt28_of BK256.out, lvv_of BK256.out, (blk_cell BK257.out 0).trans rfl, (blk_cell BK257.out 1).trans rfl, (blk_cell BK257.out 2).trans rfl, (blk_cell BK257.out 3).trans rfl, (blk_cell BK257.out 4).trans rfl, (blk_cell BK257.out 5).trans rfl⟩ (fun hHeld => ?_); refine with_tabW impl_afloat.tab1 impl_afloat.bits1 (fun HT_ HW_ => ?_)
 generalize w6.drew = w7 at BK256 BK257 HB hHeld ⊢
 refine pS (i := 1) (some 8) #[false, true, false, false, false, false, false, false, false, false, false] (any_of HT_.out (by kernel_rfl)) ?_
 refine pS (i := 4) (some 11) #[false, true, false, false, true, false, false, false, false, false, false] (any_of HT_.out (by kernel_rfl)) ?_
 refine pS (i := 6) (some 13) #[false, true, false, false, true, false, true, false, false, false, false] (any_of HT_.out (by kernel_rfl)) ?_
 refine tS (i := 0) (some 7) #[true, true, false, false, true, false, true, false, false, false, false] (take_ofW HT_.out HW_.out (by kernel_rfl)) hHeld ?_
 refine tS (i := 2) (some 9) #[true, true, true, false, true, false, true, false, false, false, false] (take_ofW HT_.out HW_.out (by kernel_rfl)) hHeld ?_
 refine tS (i := 7) (some 14) #[true, true, true, false, true, false, true, true, false, false, false] (take_ofW HT_.out HW_.out (by kernel_rfl)) hHeld ?_
 refine pS (i := 8) (some 15) #[true, true, true, false, true, false, true, true, true, false, false] (any_of HT_.out (by kernel_rfl)) ?_
 refine one_ (i := 3) (N := some 10) #[true, true, true, true, true, false, true, true, true, false, false] rfl rfl (one_of HT_.out (by kernel_rfl)) (by decide) (fun K hK => ?_)
 refine goes_ Try.func112 (by kernel_rfl) rfl #[.agg (csBay a0_0 a0_1 a0_2), .agg #[.int .i8 a1_0, .int .i8 a1_1]] (by rfl) rfl rfl (by (try simp only [List.map_toArray, List.map_cons, List.map_nil]); first | done | rfl | (simp only [List.length_drop, List.length_take]; rfl)) ?_
 with_reducible refine (impl_depth.calls a0_0 a0_1 a0_2 a1_0 a1_1 t258 _ A4.out).mono ?_
 rintro e w8 ⟨rfl, hb⟩
 refine ⟨_, rfl, ?_⟩
 have n0_ := bB BK256 hb
 have n1_ := bB BK257 hb
 have n2_ := am (below_step (be HB) hb)
 clear BK256
 clear BK257
 clear HB
 have BK256 := n0_
 have BK257 := n1_
 have HB := n2_
 clear n0_ n1_ n2_
 (try clear hb)
 (try clear hb2)
 (try clear hk)
 (try clear hi)
 refine hK.out _ _ ⟨(blk_cell BK256.out 0).trans rfl, (blk_cell BK256.out 1).trans rfl, at_cells BK256.out, BayAt28_of BK256.out, lvv_of BK256.out, (blk_cell BK257.out 0).trans rfl, (blk_cell BK257.out 1).trans rfl, (blk_cell BK257.out 2).trans rfl, (blk_cell BK257.out 3).trans rfl, (blk_cell BK257.out 4).trans rfl, (blk_cell BK257.out 5).trans rfl⟩ (fun hHeld => ?_)
 clear hK K
 refine norm_ (a' := ?_) ?_ ?_
 rotate_left
 ·show Act.put _ (some 10) _ = _
  simp only [Act.put, List.setIfInBounds_toArray, List.set_cons_zero, List.set_cons_succ, i64_w, i32_w]
  rfl
 refine pS (i := 5) (some 12) #[true, true, true, true, true, true, true, true, true, false, false] (any_of HT_.out (by kernel_rfl)) ?_
 refine pS (i := 9) (some 16) #[true, true, true, true, true, true, true, true, true, true, false] (any_of HT_.out (by kernel_rfl)) ?_
 refine pS (i := 10) (some 6) #[true, true, true, true, true, true, true, true, true, true, true] (any_of HT_.out (by kernel_rfl)) ?_
 refine done_ (done_of HT_.out (by kernel_rfl)) ?_
 try go_wp2
 go_ret
 exact ⟨by first | rfl | (simp [errW_none, errW_some] <;> rfl) | (simp [*, errW_none, errW_some] <;> rfl), be HB⟩

/-! ### impl_span: function 149 -/
def impl_span.f (l0 : List (S103)) : Option (Int × Int) := if 0 < (l0.length : Int) then (if 0 ≤ (wrap64 ((l0.length : Int) - 1)) then (if (wrap64 ((l0.length : Int) - 1)) < (l0.length : Int) then (some (wrap64 ((rd_T103 l0 0).f0), wrap64 ((rd_T103 l0 (wrap64 ((l0.length : Int) - 1))).f0))) else (none)) else (none)) else (none)
set_option maxHeartbeats 8000000 in
set_option maxRecDepth 100000 in
theorem impl_span.calls (A0 : Option Addr) (c0 : Nat) (l0 : List (S103)) (r1 : Int) (r2 : Int) (w : World) (hr0 : Kd.C k103 w A0 l0.length l0) (hc0 : l0.length ≤ c0) (h : impl_span.f l0 = some (r1, r2)) :
  Calls Try.prog 149 #[.slice A0 l0.length c0] w fun e w' => e = .returned (.tuple #[.int .i64 r1, .int .i64 r2]) ∧ Drawn0 w w' := by
 have HR0 := am hr0
 have HC0 := am hc0
 clear hr0 hc0
 have H : (if 0 < (l0.length : Int) then (if 0 ≤ (wrap64 ((l0.length : Int) - 1)) then (if (wrap64 ((l0.length : Int) - 1)) < (l0.length : Int) then (some (wrap64 ((rd_T103 l0 0).f0), wrap64 ((rd_T103 l0 (wrap64 ((l0.length : Int) - 1))).f0))) else (none)) else (none)) else (none)) = some (r1, r2) := h
 clear h
 by_cases c2 : 0 < (l0.length : Int)
 ·rw [if_pos c2] at H
  have c2b0 : decide (0 < (l0.length : Int)) = true := decide_eq_true c2
  have c2b1 : decide (0 < l0.length) = true := decide_eq_true (by omega)
  clear c2
  obtain ⟨ji3, hji3⟩ : ∃ j_ : Int, (wrap64 ((l0.length : Int) - 1)) = j_ := ⟨_, rfl⟩
  replace H : (if 0 ≤ (ji3) then (if (ji3) < (l0.length : Int) then (some (wrap64 ((rd_T103 l0 0).f0), wrap64 ((rd_T103 l0 (ji3)).f0))) else (none)) else (none)) = some (r1, r2) := by first | (rw [hji3] at H; exact H) | (simp only [hji3] at H ⊢; exact H)
  have hji3w : (IntKind.i64.wrap ((l0.length : Int) - 1)) = ji3 := (i64_w _).trans hji3
  by_cases c4 : 0 ≤ (ji3)
  ·rw [if_pos c4] at H
   have c4b0 : decide (0 ≤ (ji3)) = true := decide_eq_true c4
   have c4b1 : 0 ≤ (ji3) := c4
   clear c4
   by_cases c5 : (ji3) < (l0.length : Int)
   ·rw [if_pos c5] at H
    have c5b0 : decide ((ji3) < (l0.length : Int)) = true := decide_eq_true c5
    clear c5
    simp only [Option.some.injEq, Prod.mk.injEq] at H
    obtain ⟨rfl, rfl⟩ := H
    have p259 : 0 ≤ (0 : Int) := (by omega)
    have q259 : 0 < (l0.length : Int) := of_decide_eq_true (by first | (with_reducible assumption) | assumption)
    obtain ⟨ad259, e259, hx259_0, hx259_1⟩ := at_T103 HR0.out 0 p259 q259
    cases e259
    have qi259 : (0 < l0.length) = True := eq_true (by omega)
    (try rw [show ((0 : Int)).toNat = 0 from rfl] at hx259_0)
    (try rw [show 0 * 2 = 0 from rfl] at hx259_0)
    (try rw [Addr.add_zero'] at hx259_0)
    (try rw [show ((0 : Int)).toNat = 0 from rfl] at hx259_1)
    (try rw [show 0 * 2 = 0 from rfl] at hx259_1)
    (try rw [Addr.add_zero'] at hx259_1)
    replace p259 := eq_true p259
    replace q259 := eq_true q259
    have p260 : 0 ≤ ((ji3) : Int) := of_decide_eq_true (by first | (with_reducible assumption) | assumption)
    have q260 : (ji3) < (l0.length : Int) := of_decide_eq_true (by first | (with_reducible assumption) | assumption)
    obtain ⟨ad260, e260, hx260_0, hx260_1⟩ := at_T103 HR0.out (ji3) p260 q260
    obtain rfl : ad259 = ad260 := (by injection e260)
    replace p260 := eq_true p260
    replace q260 := eq_true q260
    go_enter Try.func149, Try.ntmps149
    go_wp2
    repeat (go_quiet (fail); try go_wp2)
    go_ret2
    exact ⟨by first | rfl | (simp; done) | (simp only [← hji3] <;> (first | rfl | simp)) | (simp [*]; done), by repeat (first | exact Drawn0.refl _ | apply Drawn0.step)⟩
   ·rw [if_neg c5] at H
    exact absurd H (by simp)
  ·rw [if_neg c4] at H
   exact absurd H (by simp)
 ·rw [if_neg c2] at H
  exact absurd H (by simp)

end Go.Proofs.Ytcollbifdfhfoaa.PFnExactAfloatAt
