-- Written by a program out of this seat's translation (functions, and that the code comes to them).
import Derived.Test.YtcollbifdfhfoaaPFnExactDryMinutesx0
import Derived.Test.YtcollbifdfhfoaaPFnExactDryMinutesx1
namespace Go.Proofs.Ytcollbifdfhfoaa.PFnExactDryMinutes
open Go.RowKit Go.Proofs.YtcollbifdfhfoaaW.PrintWords Go.Proofs.YtcollbifdfhfoaaW.PrintLast Go.Proofs.YtcollbifdfhfoaaW.PrintMore
attribute [local go_sem] max2_int min2_int max_two min_two max_three min_three max_four min_four   -- for this text's walks alone
open Go.Proofs.Ytcollbifdfhfoaa.Bay Go.Proofs.Ytcollbifdfhfoaa.Short
attribute [local go_sem ↓] lv26_eq lv28_eq
attribute [local go_sem] lvv_set lvv_drewN lvv_drew lv26_run BayAt26_set BayAt26_drewN BayAt26_drew lv28_run BayAt28_set BayAt28_drewN BayAt28_drew
set_option linter.unusedVariables false
set_option linter.unusedSimpArgs false

/-! ### spec_l02First: function 143 -/
def spec_l02First.f (l0 : List (S103)) : Option (Int) := if 0 < (l0.length : Int) then (some (wrap64 ((rd_T103 l0 0).f0))) else (none)
set_option maxHeartbeats 8000000 in
set_option maxRecDepth 100000 in
theorem spec_l02First.calls (A0 : Option Addr) (c0 : Nat) (l0 : List (S103)) (r : Int) (w : World) (hr0 : Kd.C k103 w A0 l0.length l0) (hc0 : l0.length ≤ c0) (h : spec_l02First.f l0 = some r) :
  Calls Try.prog 143 #[.slice A0 l0.length c0] w fun e w' => e = .returned (.int .i64 r) ∧ Drawn0 w w' := by
 have HR0 := am hr0
 have HC0 := am hc0
 clear hr0 hc0
 have H : (if 0 < (l0.length : Int) then (some (wrap64 ((rd_T103 l0 0).f0))) else (none)) = some r := h
 clear h
 by_cases c2 : 0 < (l0.length : Int)
 ·rw [if_pos c2] at H
  have c2b0 : decide (0 < (l0.length : Int)) = true := decide_eq_true c2
  have c2b1 : decide (0 < l0.length) = true := decide_eq_true (by omega)
  clear c2
  obtain rfl := Option.some.inj H
  have p157 : 0 ≤ (0 : Int) := (by omega)
  have q157 : 0 < (l0.length : Int) := of_decide_eq_true (by first | (with_reducible assumption) | assumption)
  obtain ⟨ad157, e157, hx157_0, hx157_1⟩ := at_T103 HR0.out 0 p157 q157
  cases e157
  have qi157 : (0 < l0.length) = True := eq_true (by omega)
  (try rw [show ((0 : Int)).toNat = 0 from rfl] at hx157_0)
  (try rw [show 0 * 2 = 0 from rfl] at hx157_0)
  (try rw [Addr.add_zero'] at hx157_0)
  (try rw [show ((0 : Int)).toNat = 0 from rfl] at hx157_1)
  (try rw [show 0 * 2 = 0 from rfl] at hx157_1)
  (try rw [Addr.add_zero'] at hx157_1)
  replace p157 := eq_true p157
  replace q157 := eq_true q157
  go_enter Try.func143, Try.ntmps143
  go_wp2
  go_ret
  exact ⟨by first | rfl | (simp; done) | (simp [*]; done), by repeat (first | exact Drawn0.refl _ | apply Drawn0.step)⟩
 ·rw [if_neg c2] at H
  exact absurd H (by simp)

/-! ### spec_l02Last: function 144 -/
def spec_l02Last.f (l0 : List (S103)) : Option (Int) := if 0 ≤ (wrap64 ((l0.length : Int) - 1)) then (if (wrap64 ((l0.length : Int) - 1)) < (l0.length : Int) then (some (wrap64 ((rd_T103 l0 (wrap64 ((l0.length : Int) - 1))).f0))) else (none)) else (none)
set_option maxHeartbeats 8000000 in
set_option maxRecDepth 100000 in
theorem spec_l02Last.calls (A0 : Option Addr) (c0 : Nat) (l0 : List (S103)) (r : Int) (w : World) (hr0 : Kd.C k103 w A0 l0.length l0) (hc0 : l0.length ≤ c0) (h : spec_l02Last.f l0 = some r) :
  Calls Try.prog 144 #[.slice A0 l0.length c0] w fun e w' => e = .returned (.int .i64 r) ∧ Drawn0 w w' := by
 have HR0 := am hr0
 have HC0 := am hc0
 clear hr0 hc0
 have H : (if 0 ≤ (wrap64 ((l0.length : Int) - 1)) then (if (wrap64 ((l0.length : Int) - 1)) < (l0.length : Int) then (some (wrap64 ((rd_T103 l0 (wrap64 ((l0.length : Int) - 1))).f0))) else (none)) else (none)) = some r := h
 clear h
 obtain ⟨ji2, hji2⟩ : ∃ j_ : Int, (wrap64 ((l0.length : Int) - 1)) = j_ := ⟨_, rfl⟩
 replace H : (if 0 ≤ (ji2) then (if (ji2) < (l0.length : Int) then (some (wrap64 ((rd_T103 l0 (ji2)).f0))) else (none)) else (none)) = some r := by first | (rw [hji2] at H; exact H) | (simp only [hji2] at H ⊢; exact H)
 have hji2w : (IntKind.i64.wrap ((l0.length : Int) - 1)) = ji2 := (i64_w _).trans hji2
 by_cases c3 : 0 ≤ (ji2)
 ·rw [if_pos c3] at H
  have c3b0 : decide (0 ≤ (ji2)) = true := decide_eq_true c3
  have c3b1 : 0 ≤ (ji2) := c3
  clear c3
  by_cases c4 : (ji2) < (l0.length : Int)
  ·rw [if_pos c4] at H
   have c4b0 : decide ((ji2) < (l0.length : Int)) = true := decide_eq_true c4
   clear c4
   obtain rfl := Option.some.inj H
   have p158 : 0 ≤ ((ji2) : Int) := of_decide_eq_true (by first | (with_reducible assumption) | assumption)
   have q158 : (ji2) < (l0.length : Int) := of_decide_eq_true (by first | (with_reducible assumption) | assumption)
   obtain ⟨ad158, e158, hx158_0, hx158_1⟩ := at_T103 HR0.out (ji2) p158 q158
   cases e158
   replace p158 := eq_true p158
   replace q158 := eq_true q158
   go_enter Try.func144, Try.ntmps144
   go_wp2
   go_ret
   exact ⟨by first | rfl | (simp; done) | (simp only [← hji2] <;> (first | rfl | simp)) | (simp [*]; done), by repeat (first | exact Drawn0.refl _ | apply Drawn0.step)⟩
  ·rw [if_neg c4] at H
   exact absurd H (by simp)
 ·rw [if_neg c3] at H
  exact absurd H (by simp)

/-! ### spec_l02Afloat: function 145 -/
def spec_l02Afloat.f (s0_0 : Int) (s0_1 : Int) (s0_2 : (Nat → Int)) (a1_0 : Int) (a1_1 : Int) (a1_2 : Int) (a1_3 : Int) (a1_4 : Int) (a1_5 : Int) (a2 : Int) : Option (Bool × Int × Int × (Nat → Int)) := (spec_l01Depth.f s0_0 s0_1 s0_2 a1_0 a1_1).bind fun bt160 => (some (decide ((wrap64 (bt160.1 + a2)) ≥ (wrap64 (a1_4))), bt160.2.1, bt160.2.2.1, bt160.2.2.2))
def spec_l02Afloat.T1 : Bool × List (List Nat × List Nat) := (true, [([], []), ([], []), ([1], [1]), ([0, 2], [0, 2]), ([], []), ([3, 4], [3, 4]), ([], []), ([6], [6]), ([7], [7]), ([5, 8], [5, 8]), ([9, 3, 0, 1, 2, 3, 4, 5, 6, 7, 8, 9], [9])])
def spec_l02Afloat.B1 : List Nat := [0, 0, 2, 7, 0, 31, 0, 64, 192, 511, 1023]
theorem spec_l02Afloat.tab1 : rtab .any (opsOf Try.f145 1) = spec_l02Afloat.T1 := by kernel_rfl
theorem spec_l02Afloat.bits1 : waitsOk spec_l02Afloat.T1.2 spec_l02Afloat.B1 = true := by kernel_rfl
set_option maxHeartbeats 8000000 in
set_option maxRecDepth 100000 in
theorem spec_l02Afloat.calls (g : Nat) (s0_0 : Int) (s0_1 : Int) (s0_2 : (Nat → Int)) (a1_0 : Int) (a1_1 : Int) (a1_2 : Int) (a1_3 : Int) (a1_4 : Int) (a1_5 : Int) (a2 : Int) (r1 : Bool) (r2 : Int) (r3 : Int) (r4 : (Nat → Int)) (w0 w : World) (hI : IsS28 w0 w g s0_0 s0_1 s0_2) (hB : Below w0.heap.size w0 w) (h : spec_l02Afloat.f s0_0 s0_1 s0_2 a1_0 a1_1 a1_2 a1_3 a1_4 a1_5 a2 = some (r1, r2, r3, r4)) :
  Calls Try.prog 145 #[.pointer (some ⟨g, 0, none⟩), .agg #[.int .i8 a1_0, .int .i8 a1_1, .int .i8 a1_2, .int .i8 a1_3, .int .i8 a1_4, .int .i8 a1_5], .int .i64 a2] w fun e w' => e = .returned (.bool r1) ∧ IsS28 w0 w' g r2 r3 r4 ∧ Below w0.heap.size w0 w' ∧ KeepBut w w' g none := by
 have hu38 := Try.underlying38
 have hu36 := Try.underlying36
 have HI0 := am hI
 have HK := am (KeepBut.refl w g none)
 have HL := am hB.size
 clear hI
 have HW0 := am hB.size
 have HB := am hB
 clear hB
 have H : ((spec_l01Depth.f s0_0 s0_1 s0_2 a1_0 a1_1).bind fun bt160 => (some (decide ((wrap64 (bt160.1 + a2)) ≥ (wrap64 (a1_4))), bt160.2.1, bt160.2.2.1, bt160.2.2.2))) = some (r1, r2, r3, r4) := h
 clear h
 replace H := Option.bind_eq_some_iff.mp H
 obtain ⟨⟨t160, t161, t162, t163⟩, A40, H⟩ := H
 try dsimp only at H
 have A4 := am A40
 clear A40
 simp only [Option.some.injEq, Prod.mk.injEq] at H
 obtain ⟨rfl, rfl, rfl, rfl⟩ := H
 go_enter Try.func145, Try.ntmps145
 try go_wp2_with (first | ((with_reducible refine gate_dst (N := 4) rfl ?_); refine bxe (N := 4) (cs := #[.int .i8 a1_0, .int .i8 a1_1, .int .i8 a1_2, .int .i8 a1_3, .int .i8 a1_4, .int .i8 a1_5]) (t := 38) ?_; intro gb159 hg w5 hbox hb; have BK159 := am (hbox); have GW159 := am (gN hg (keep_size (w := w) (g := g) (row := none) (ke HK))); have GE159 := am (Nat.le_trans HW0.out (gN hg (keep_size (w := w) (g := g) (row := none) (ke HK)))); have NB0_159 := am (nLi hg (IsS28.lt (show IsS28 w0 _ g s0_0 s0_1 s0_2 from si28 HI0))); have NB159_0 := am (nRi hg (IsS28.lt (show IsS28 w0 _ g s0_0 s0_1 s0_2 from si28 HI0))); replace HI0 := am (IsS28.below (si28 HI0) hb); replace HK := am (KeepBut.trans (ke HK) (KeepBut.of_below hb g none) (.inl rfl)); replace HB := am (below_step (be HB) hb); clear hb hbox hg))
 have n0_ := am (blk_drew BK159.out)
 have n1_ := am (IsS28.drew HI0.out)
 have n2_ := am (keep_drew HK.out)
 have n3_ := am (below_drew1 HB.out)
 clear BK159
 clear HI0
 clear HK
 clear HB
 have BK159 := n0_
 have HI0 := n1_
 have HK := n2_
 have HB := n3_
 clear n0_ n1_ n2_ n3_
 refine start_ (n := 11) (S := fun w' => w'.cell? ⟨gb159, 0, none⟩ = some (.int .i8 a1_0) ∧ w'.cell? ⟨gb159, 1, none⟩ = some (.int .i8 a1_1) ∧ w'.cell? ⟨gb159, 2, none⟩ = some (.int .i8 a1_2) ∧ w'.cell? ⟨gb159, 3, none⟩ = some (.int .i8 a1_3) ∧ w'.cell? ⟨gb159, 4, none⟩ = some (.int .i8 a1_4) ∧ w'.cell? ⟨gb159, 5, none⟩ = some (.int .i8 a1_5)) (ds := []) #[false, false, false, false, false, false, false, false, false, false, false] (by kernel_rfl) rfl rfl ⟨(blk_cell BK159.out 0).trans rfl, (blk_cell BK159.out 1).trans rfl, (blk_cell BK159.out 2).trans rfl, (blk_cell BK159.out 3).trans rfl, (blk_cell BK159.out 4).trans rfl, (blk_cell BK159.out 5).trans rfl⟩ (fun hHeld => ?_); refine with_tabW spec_l02Afloat.tab1 spec_l02Afloat.bits1 (fun HT_ HW_ => ?_)
 generalize w5.drew = w6 at BK159 HI0 HK HB hHeld ⊢
 refine pS (i := 0) (some 7) #[true, false, false, false, false, false, false, false, false, false, false] (any_of HT_.out (by kernel_rfl)) ?_
 refine pS (i := 1) (some 8) #[true, true, false, false, false, false, false, false, false, false, false] (any_of HT_.out (by kernel_rfl)) ?_
 refine pS (i := 4) (some 11) #[true, true, false, false, true, false, false, false, false, false, false] (any_of HT_.out (by kernel_rfl)) ?_
 refine pS (i := 6) (some 13) #[true, true, false, false, true, false, true, false, false, false, false] (any_of HT_.out (by kernel_rfl)) ?_
 refine tS (i := 2) (some 9) #[true, true, true, false, true, false, true, false, false, false, false] (take_ofW HT_.out HW_.out (by kernel_rfl)) hHeld ?_
 refine tS (i := 7) (some 14) #[true, true, true, false, true, false, true, true, false, false, false] (take_ofW HT_.out HW_.out (by kernel_rfl)) hHeld ?_
 refine pS (i := 8) (some 15) #[true, true, true, false, true, false, true, true, true, false, false] (any_of HT_.out (by kernel_rfl)) ?_
 refine one_ (i := 3) (N := some 10) #[true, true, true, true, true, false, true, true, true, false, false] rfl rfl (one_of HT_.out (by kernel_rfl)) (by decide) (fun K hK => ?_)
 refine goes_ Try.func110 (by kernel_rfl) rfl #[.pointer (some ⟨g, 0, none⟩), .agg #[.int .i8 a1_0, .int .i8 a1_1]] (by rfl) rfl rfl (by (try simp only [List.map_toArray, List.map_cons, List.map_nil]); first | done | rfl | (simp only [List.length_drop, List.length_take]; rfl)) ?_
 with_reducible refine (spec_l01Depth.calls g s0_0 s0_1 s0_2 a1_0 a1_1 t160 t161 t162 t163 w0 _ ?side1 ?side2 A4.out).mono ?_
 (case side1 => exact si28 HI0)
 (case side2 => exact be HB)
 rintro e w7 ⟨rfl, hi, hb, hk⟩
 refine ⟨_, rfl, ?_⟩
 have n0_ := am (KeepBut.blk hk (g' := gb159) (o := .cells #[.int .i8 a1_0, .int .i8 a1_1, .int .i8 a1_2, .int .i8 a1_3, .int .i8 a1_4, .int .i8 a1_5] 38 (0, 0)) (kb BK159) NB159_0.out (by simp))
 have n1_ := am (KeepBut.trans (ke HK) hk (.inl rfl))
 have n2_ := am (hb)
 have n3_ := am (hi)
 clear BK159
 clear HK
 clear HB
 clear HI0
 have BK159 := n0_
 have HK := n1_
 have HB := n2_
 have HI0 := n3_
 clear n0_ n1_ n2_ n3_
 (try clear hb)
 (try clear hb2)
 (try clear hk)
 (try clear hi)
 refine hK.out _ _ ⟨(blk_cell BK159.out 0).trans rfl, (blk_cell BK159.out 1).trans rfl, (blk_cell BK159.out 2).trans rfl, (blk_cell BK159.out 3).trans rfl, (blk_cell BK159.out 4).trans rfl, (blk_cell BK159.out 5).trans rfl⟩ (fun hHeld => ?_)
 clear hK K
 refine norm_ (a' := ?_) ?_ ?_
 rotate_left
 ·show Act.put _ (some 10) _ = _
  simp only [Act.put, List.setIfInBounds_toArray, List.set_cons_zero, List.set_cons_succ, i64_w, i32_w]
  rfl
 refine pS (i := 5) (some 12) #[true, true, true, true, true, true, true, true, true, false, false] (any_of HT_.out (by kernel_rfl)) ?_
 refine pS (i := 9) (some 16) #[true, true, true, true, true, true, true, true, true, true, false] (any_of HT_.out (by kernel_rfl)) ?_
 refine pS (i := 10) (some 6) #[true, true, true, true, true, true, true, true, true, true, true] (any_of HT_.out (by kernel_rfl)) ?_
 refine done_ (done_of HT_.out (by kernel_rfl)) ?_
 try go_wp2
 go_ret
 exact ⟨by first | rfl | (simp [errW_none, errW_some] <;> rfl) | (simp [*, errW_none, errW_some] <;> rfl), si28 HI0, be HB, ke HK⟩

end Go.Proofs.Ytcollbifdfhfoaa.PFnExactDryMinutes
