-- Written by a program out of this seat's translation (functions, and that the code comes to them).
import Derived.Test.YtcollbifdfhfoaaPFnExactAfloatAtx0
import Derived.Test.YtcollbifdfhfoaaPFnExactAfloatAtx1
import Derived.Test.YtcollbifdfhfoaaPFnExactAfloatAtx2
import Derived.Test.YtcollbifdfhfoaaPFnExactAfloatAtx3
import Derived.Test.YtcollbifdfhfoaaPFnExactAfloatAtx7
import Derived.Test.YtcollbifdfhfoaaPFnExactAfloatAtx12
namespace Go.Proofs.Ytcollbifdfhfoaa.PFnExactAfloatAt
open Go.RowKit Go.Proofs.YtcollbifdfhfoaaW.PrintWords Go.Proofs.YtcollbifdfhfoaaW.PrintLast Go.Proofs.YtcollbifdfhfoaaW.PrintMore
attribute [local go_sem] max2_int min2_int max_two min_two max_three min_three max_four min_four   -- for this text's walks alone
open Go.Proofs.Ytcollbifdfhfoaa.Bay Go.Proofs.Ytcollbifdfhfoaa.Short
attribute [local go_sem ↓] lv26_eq lv28_eq
attribute [local go_sem] lvv_set lvv_drewN lvv_drew lv26_run BayAt26_set BayAt26_drewN BayAt26_drew lv28_run BayAt28_set BayAt28_drewN BayAt28_drew
set_option linter.unusedVariables false
set_option linter.unusedSimpArgs false

/-! ### laws_FnExactAfloatAt: function 22 -/
mutual
def laws_FnExactAfloatAt.j0 : Nat → List (S34) → List (S145) → Int → List Int → Int → List (S38) → List (S103) → List Int → Int → Bool → Int → Int → (Nat → Int) → Option (Bool)
 | 0, _, _, _, _, _, _, _, _, _, _, _, _, _ => none
 | k + 1, x1, x2, x3, x10, x11, x12, x13, x14, x15, x63, x338000, x338001, x338002 => if x63 = true then (some false) else ((laws_toBoatS.f k x1).bind fun t367 => ((laws_eqBoatS.f k x12 t367).bind fun t370 => (if t370 = true then ((laws_toWaterS.f k x2).bind fun t371 => ((laws_eqWaterS.f k x13 t371).bind fun t374 => (if t374 = true then ((laws_markBoatS.f k x12 1).bind fun bt375 => ((laws_markWaterS.f k x13 bt375.1).bind fun bt377 => (if bt377.1 < 0 then (laws_FnExactAfloatAt.j1 k x1 x2 x3 x10 x11 x14 true x338000 x338001 x338002) else ((laws_eqInt64S.f k x14 x10).bind fun t379 => (if t379 = true then (laws_FnExactAfloatAt.j1 k x1 x2 x3 x10 x11 x14 (x15 != x11) x338000 x338001 x338002) else (laws_FnExactAfloatAt.j1 k x1 x2 x3 x10 x11 x14 true x338000 x338001 x338002)))))) else (some false)))) else (some false))))
def laws_FnExactAfloatAt.j1 : Nat → List (S34) → List (S145) → Int → List Int → Int → List Int → Bool → Int → Int → (Nat → Int) → Option (Bool)
 | 0, _, _, _, _, _, _, _, _, _, _ => none
 | k + 1, x1, x2, x3, x10, x11, x14, x92, x338000, x338001, x338002 => if x92 = true then (some false) else ((laws_markInt64S.f k x14 1).bind fun bt380 => ((laws_heldInt64S.f k bt380.2 1).bind fun t382 => (if t382 < 0 then (some false) else (if t382 = bt380.1 then ((laws_toBay.f x338000 x338001 x338002).bind fun bt383 => ((laws_toBoatS.f k x1).bind fun t386 => ((laws_toWaterS.f k x2).bind fun t389 => ((impl_AfloatAt.f k bt383.1 bt383.2.1 bt383.2.2 t386 t389 x3).bind fun bt392 => ((laws_eqInt64S.f k bt392.1 x10).bind fun t396 => (if t396 = true then (laws_FnExactAfloatAt.j2 k bt380.2 bt380.1 (bt392.2 != x11)) else (laws_FnExactAfloatAt.j2 k bt380.2 bt380.1 true))))))) else (some false)))))
def laws_FnExactAfloatAt.j2 : Nat → List Int → Int → Bool → Option (Bool)
 | 0, _, _, _ => none
 | k + 1, x14, x17, x123 => if x123 = true then (some false) else ((laws_heldInt64S.f k x14 1).bind fun t397 => (if t397 < 0 then (some false) else (if t397 = x17 then (some true) else (some false))))
end
def laws_FnExactAfloatAt.f (k : Nat) (a0_0 : Int) (a0_1 : Int) (a0_2 : (Nat → Int)) (l1 : List (S34)) (l2 : List (S145)) (a3 : Int) : Option (Bool) := (laws_szBoatS.f l1 1048576).bind fun t338 => (if t338 < 0 then (some true) else ((laws_szWaterS.f l2 t338).bind fun t339 => (if t339 < 0 then (some true) else ((laws_toBay.f a0_0 a0_1 a0_2).bind fun bt340 => ((laws_toBoatS.f k l1).bind fun t343 => ((laws_toWaterS.f k l2).bind fun t346 => ((spec_AfloatAt.f k bt340.1 bt340.2.1 bt340.2.2 t343 t346 a3).bind fun bt349 => ((laws_toBoatS.f k l1).bind fun t353 => ((laws_toWaterS.f k l2).bind fun t356 => ((laws_toBay.f a0_0 a0_1 a0_2).bind fun bt359 => ((impl_AfloatAt.f k bt359.1 bt359.2.1 bt359.2.2 t353 t356 a3).bind fun bt362 => ((laws_eqInt64S.f k bt362.1 bt349.1).bind fun t366 => (if t366 = true then (laws_FnExactAfloatAt.j0 k l1 l2 a3 bt349.1 bt349.2 t353 t356 bt362.1 bt362.2 (bt362.2 != bt349.2) a0_0 a0_1 a0_2) else (laws_FnExactAfloatAt.j0 k l1 l2 a3 bt349.1 bt349.2 t353 t356 bt362.1 bt362.2 true a0_0 a0_1 a0_2))))))))))))))
set_option maxHeartbeats 8000000 in
set_option maxRecDepth 100000 in
theorem laws_FnExactAfloatAt.calls (k : Nat) (a0_0 : Int) (a0_1 : Int) (a0_2 : (Nat → Int)) (A1 : Option Addr) (c1 : Nat) (l1 : List (S34)) (A2 : Option Addr) (c2 : Nat) (l2 : List (S145)) (a3 : Int) (r : Bool) (w : World) (hr1 : Kd.C k34 w A1 l1.length l1) (hc1 : l1.length ≤ c1) (hr2 : Kd.C k145 w A2 l2.length l2) (hc2 : l2.length ≤ c2) (h : laws_FnExactAfloatAt.f k a0_0 a0_1 a0_2 l1 l2 a3 = some r) :
  Calls Try.prog 22 #[.agg (csBay a0_0 a0_1 a0_2), .slice A1 l1.length c1, .slice A2 l2.length c2, .int .i64 a3] w fun e w' => e = .returned (.bool r) ∧ Below w.heap.size w w' := by
 have hu26 := Try.underlying26
 have HR1 := am hr1
 have HC1 := am hc1
 clear hr1 hc1
 have HR2 := am hr2
 have HC2 := am hc2
 clear hr2 hc2
 have HB := am (Below.refl w.heap.size w)
 have H : ((laws_szBoatS.f l1 1048576).bind fun t338 => (if t338 < 0 then (some true) else ((laws_szWaterS.f l2 t338).bind fun t339 => (if t339 < 0 then (some true) else ((laws_toBay.f a0_0 a0_1 a0_2).bind fun bt340 => ((laws_toBoatS.f k l1).bind fun t343 => ((laws_toWaterS.f k l2).bind fun t346 => ((spec_AfloatAt.f k bt340.1 bt340.2.1 bt340.2.2 t343 t346 a3).bind fun bt349 => ((laws_toBoatS.f k l1).bind fun t353 => ((laws_toWaterS.f k l2).bind fun t356 => ((laws_toBay.f a0_0 a0_1 a0_2).bind fun bt359 => ((impl_AfloatAt.f k bt359.1 bt359.2.1 bt359.2.2 t353 t356 a3).bind fun bt362 => ((laws_eqInt64S.f k bt362.1 bt349.1).bind fun t366 => (if t366 = true then (laws_FnExactAfloatAt.j0 k l1 l2 a3 bt349.1 bt349.2 t353 t356 bt362.1 bt362.2 (bt362.2 != bt349.2) a0_0 a0_1 a0_2) else (laws_FnExactAfloatAt.j0 k l1 l2 a3 bt349.1 bt349.2 t353 t356 bt362.1 bt362.2 true a0_0 a0_1 a0_2))))))))))))))) = some r := h
 clear h
 replace H := Option.bind_eq_some_iff.mp H
 obtain ⟨t338, A50, H⟩ := H
 try dsimp only at H
 have A5 := am A50
 clear A50
 by_cases c6 : t338 < 0
 ·rw [if_pos c6] at H
  have c6b0 : decide (t338 < 0) = true := decide_eq_true c6
  clear c6
  obtain rfl := Option.some.inj H
  go_enter Try.func22, Try.ntmps22
  go_wp2_with (first | ((with_reducible refine gate_dst (N := 4) rfl ?_); refine bxe (N := 4) (cs := (csBay a0_0 a0_1 a0_2)) (t := 26) ?_; intro gb337 hg w7 hbox hb; have BK337 := am (hbox); have GW337 := am (gN hg (below_size (be HB))); have GE337 := am (gN hg (below_size (be HB))); replace HB := am (below_step (be HB) hb); clear hb hbox hg) | ((with_reducible refine gate_callee (f := 31) rfl ?_); refine gL (some 23) Try.func31 #[.slice A1 l1.length c1, .int .i64 1048576] ?_; (with_reducible refine (laws_szBoatS.calls _ _ l1 1048576 t338 _ ?side1 ?side2 A5.out).mono ?_); (case side1 => repeat (first | exact (Kd.C_below HR1.out HB.out) | (with_reducible refine Kd.C_alloc ?_ _) | (with_reducible refine Kd.C_drewN ?_ _) | (with_reducible refine Kd.C_drew ?_))); (case side2 => exact HC1.out); rintro e w' ⟨rfl, ⟨nd, rfl⟩⟩; refine ⟨_, rfl, ?_⟩))
  go_ret
  exact ⟨by first | rfl | (simp [errW_none, errW_some] <;> rfl) | (simp [*, errW_none, errW_some] <;> rfl), be HB⟩
 ·rw [if_neg c6] at H
  have c6b0 : decide (t338 < 0) = false := decide_eq_false c6
  clear c6
  replace H := Option.bind_eq_some_iff.mp H
  obtain ⟨t339, A80, H⟩ := H
  try dsimp only at H
  have A8 := am A80
  clear A80
  by_cases c9 : t339 < 0
  ·rw [if_pos c9] at H
   have c9b0 : decide (t339 < 0) = true := decide_eq_true c9
   clear c9
   obtain rfl := Option.some.inj H
   go_enter Try.func22, Try.ntmps22
   go_wp2_with (first | ((with_reducible refine gate_dst (N := 4) rfl ?_); refine bxe (N := 4) (cs := (csBay a0_0 a0_1 a0_2)) (t := 26) ?_; intro gb337 hg w10 hbox hb; have BK337 := am (hbox); have GW337 := am (gN hg (below_size (be HB))); have GE337 := am (gN hg (below_size (be HB))); replace HB := am (below_step (be HB) hb); clear hb hbox hg) | ((with_reducible refine gate_callee (f := 31) rfl ?_); refine gL (some 23) Try.func31 #[.slice A1 l1.length c1, .int .i64 1048576] ?_; (with_reducible refine (laws_szBoatS.calls _ _ l1 1048576 t338 _ ?side1 ?side2 A5.out).mono ?_); (case side1 => repeat (first | exact (Kd.C_below HR1.out HB.out) | (with_reducible refine Kd.C_alloc ?_ _) | (with_reducible refine Kd.C_drewN ?_ _) | (with_reducible refine Kd.C_drew ?_))); (case side2 => exact HC1.out); rintro e w' ⟨rfl, ⟨nd, rfl⟩⟩; refine ⟨_, rfl, ?_⟩) | ((with_reducible refine gate_callee (f := 82) rfl ?_); refine gL (some 28) Try.func82 #[.slice A2 l2.length c2, .int .i64 t338] ?_; (with_reducible refine (laws_szWaterS.calls _ _ l2 t338 t339 _ ?side1 ?side2 A8.out).mono ?_); (case side1 => repeat (first | exact (Kd.C_below HR2.out (be HB)) | (with_reducible refine Kd.C_alloc ?_ _) | (with_reducible refine Kd.C_drewN ?_ _) | (with_reducible refine Kd.C_drew ?_))); (case side2 => exact HC2.out); rintro e w' ⟨rfl, ⟨nd, rfl⟩⟩; refine ⟨_, rfl, ?_⟩))
   go_ret
   exact ⟨by first | rfl | (simp [errW_none, errW_some] <;> rfl) | (simp [*, errW_none, errW_some] <;> rfl), be HB⟩
  ·rw [if_neg c9] at H
   have c9b0 : decide (t339 < 0) = false := decide_eq_false c9
   clear c9
   replace H := Option.bind_eq_some_iff.mp H
   obtain ⟨⟨t340, t341, t342⟩, A110, H⟩ := H
   try dsimp only at H
   have A11 := am A110
   clear A110
   replace H := Option.bind_eq_some_iff.mp H
   obtain ⟨t343, A120, H⟩ := H
   try dsimp only at H
   have A12 := am A120
   clear A120
   replace H := Option.bind_eq_some_iff.mp H
   obtain ⟨t346, A130, H⟩ := H
   try dsimp only at H
   have A13 := am A130
   clear A130
   replace H := Option.bind_eq_some_iff.mp H
   obtain ⟨⟨t349, t352⟩, A140, H⟩ := H
   try dsimp only at H
   have A14 := am A140
   clear A140
   replace H := Option.bind_eq_some_iff.mp H
   obtain ⟨t353, A150, H⟩ := H
   try dsimp only at H
   have A15 := am A150
   clear A150
   replace H := Option.bind_eq_some_iff.mp H
   obtain ⟨t356, A160, H⟩ := H
   try dsimp only at H
   have A16 := am A160
   clear A160
   replace H := Option.bind_eq_some_iff.mp H
   obtain ⟨⟨t359, t360, t361⟩, A170, H⟩ := H
   try dsimp only at H
   have A17 := am A170
   clear A170
   replace H := Option.bind_eq_some_iff.mp H
   obtain ⟨⟨t362, t365⟩, A180, H⟩ := H
   try dsimp only at H
   have A18 := am A180
   clear A180
   have HC19 := am H
   clear H
   go_enter Try.func22, Try.ntmps22
   go_upto_region 12 with (first | ((with_reducible refine gate_dst (N := 4) rfl ?_); refine bxe (N := 4) (cs := (csBay a0_0 a0_1 a0_2)) (t := 26) ?_; intro gb337 hg w20 hbox hb; have BK337 := am (hbox); have GW337 := am (gN hg (below_size (be HB))); have GE337 := am (gN hg (below_size (be HB))); replace HB := am (below_step (be HB) hb); clear hb hbox hg) | ((with_reducible refine gate_callee (f := 31) rfl ?_); refine gL (some 23) Try.func31 #[.slice A1 l1.length c1, .int .i64 1048576] ?_; (with_reducible refine (laws_szBoatS.calls _ _ l1 1048576 t338 _ ?side1 ?side2 A5.out).mono ?_); (case side1 => repeat (first | exact (Kd.C_below HR1.out HB.out) | (with_reducible refine Kd.C_alloc ?_ _) | (with_reducible refine Kd.C_drewN ?_ _) | (with_reducible refine Kd.C_drew ?_))); (case side2 => exact HC1.out); rintro e w' ⟨rfl, ⟨nd, rfl⟩⟩; refine ⟨_, rfl, ?_⟩) | ((with_reducible refine gate_callee (f := 82) rfl ?_); refine gL (some 28) Try.func82 #[.slice A2 l2.length c2, .int .i64 t338] ?_; (with_reducible refine (laws_szWaterS.calls _ _ l2 t338 t339 _ ?side1 ?side2 A8.out).mono ?_); (case side1 => repeat (first | exact (Kd.C_below HR2.out (be HB)) | (with_reducible refine Kd.C_alloc ?_ _) | (with_reducible refine Kd.C_drewN ?_ _) | (with_reducible refine Kd.C_drew ?_))); (case side2 => exact HC2.out); rintro e w' ⟨rfl, ⟨nd, rfl⟩⟩; refine ⟨_, rfl, ?_⟩; obtain ⟨hcz21_0, hcz21_1, hwz21, haz21, hyz21, hvz21, hfz21_0, hfz21_1, hfz21_2⟩ := bb26 BK337) | ((with_reducible refine gate_callee (f := 26) rfl ?_); refine gL (some 33) Try.func26 #[.agg (csBay a0_0 a0_1 a0_2)] ?_; (with_reducible refine (laws_toBay.calls a0_0 a0_1 a0_2 t340 t341 t342 _ A11.out).mono ?_); rintro e w22 ⟨rfl, hb⟩; refine ⟨_, rfl, ?_⟩; replace BK337 := bB BK337 hb; replace HB := am (below_step (be HB) hb); (try clear hb); (try clear hb2); (try clear hk); (try clear hi)) | ((with_reducible refine gate_callee (f := 33) rfl ?_); refine gL (some 35) Try.func33 #[.slice A1 l1.length c1] ?_; (with_reducible refine (laws_toBoatS.calls k _ _ l1 t343 _ ?side1 ?side2 A12.out).mono ?_); (case side1 => repeat (first | exact (Kd.C_below HR1.out HB.out) | (with_reducible refine Kd.C_alloc ?_ _) | (with_reducible refine Kd.C_drewN ?_ _) | (with_reducible refine Kd.C_drew ?_))); (case side2 => exact HC1.out); rintro e w23 ⟨v344, rfl, ho0, hb⟩; refine ⟨_, rfl, ?_⟩; have HO345 := am (Kd.R_lower ho0 (below_size (be HB))); replace BK337 := bB BK337 hb; replace HB := am (below_step (be HB) hb); (try clear hb); (try clear hb2); (try clear hk); (try clear hi); (try clear ho0)) | ((with_reducible refine gate_callee (f := 84) rfl ?_); refine gL (some 37) Try.func84 #[.slice A2 l2.length c2] ?_; (with_reducible refine (laws_toWaterS.calls k _ _ l2 t346 _ ?side1 ?side2 A13.out).mono ?_); (case side1 => repeat (first | exact (Kd.C_below HR2.out HB.out) | (with_reducible refine Kd.C_alloc ?_ _) | (with_reducible refine Kd.C_drewN ?_ _) | (with_reducible refine Kd.C_drew ?_))); (case side2 => exact HC2.out); rintro e w24 ⟨v347, rfl, ho0, hb⟩; refine ⟨_, rfl, ?_⟩; have HO348 := am (Kd.R_lower ho0 (below_size (be HB))); replace HO345 := am (Kd.R_below (kr HO345) hb); replace BK337 := bB BK337 hb; replace HB := am (below_step (be HB) hb); (try clear hb); (try clear hb2); (try clear hk); (try clear hi); (try clear ho0); obtain ⟨Ao25, co25, eo25⟩ := Kd.R_slice HO345.out; subst eo25; obtain ⟨Ao26, co26, eo26⟩ := Kd.R_slice HO348.out; subst eo26) | ((with_reducible refine gate_callee (f := 89) rfl ?_); refine gL (some 39) Try.func89 #[.agg (csBay t340 t341 t342), .slice Ao25 t343.length co25, .slice Ao26 t346.length co26, .int .i64 a3] ?_; (with_reducible refine (spec_AfloatAt.calls k t340 t341 t342 _ _ t343 _ _ t346 a3 t349 t352 _ ?side1 ?side2 ?side3 ?side4 A14.out).mono ?_); (case side1 => repeat (first | exact (Kd.R_reads' HO345.out).2.2 | (with_reducible refine Kd.C_alloc ?_ _) | (with_reducible refine Kd.C_drewN ?_ _) | (with_reducible refine Kd.C_drew ?_))); (case side2 => exact (Kd.R_reads' HO345.out).2.1); (case side3 => repeat (first | exact (Kd.R_reads' HO348.out).2.2 | (with_reducible refine Kd.C_alloc ?_ _) | (with_reducible refine Kd.C_drewN ?_ _) | (with_reducible refine Kd.C_drew ?_))); (case side4 => exact (Kd.R_reads' HO348.out).2.1); rintro e w27 ⟨v350, rfl, ho0, hb⟩; refine ⟨_, rfl, ?_⟩; have HO351 := am (Kd.R_lower ho0 (below_size (be HB))); replace HO345 := am (Kd.R_below (kr HO345) hb); replace HO348 := am (Kd.R_below (kr HO348) hb); replace BK337 := bB BK337 hb; replace HB := am (below_step (be HB) hb); (try clear hb); (try clear hb2); (try clear hk); (try clear hi); (try clear ho0)) | ((with_reducible refine gate_callee (f := 33) rfl ?_); refine gL (some 43) Try.func33 #[.slice A1 l1.length c1] ?_; (with_reducible refine (laws_toBoatS.calls k _ _ l1 t353 _ ?side1 ?side2 A15.out).mono ?_); (case side1 => repeat (first | exact (Kd.C_below HR1.out HB.out) | (with_reducible refine Kd.C_alloc ?_ _) | (with_reducible refine Kd.C_drewN ?_ _) | (with_reducible refine Kd.C_drew ?_))); (case side2 => exact HC1.out); rintro e w28 ⟨v354, rfl, ho0, hb⟩; refine ⟨_, rfl, ?_⟩; have HO355 := am (Kd.R_lower (Kd.R_new' ho0 (Kd.R_lt (kr HO345))) (below_size (be HB))); replace HO345 := am (Kd.R_elder' (kr HO345) (Kd.R_base ho0) hb); replace HO348 := am (Kd.R_below (kr HO348) hb); replace HO351 := am (Kd.R_below (kr HO351) hb); replace BK337 := bB BK337 hb; replace HB := am (below_step (be HB) hb); (try clear hb); (try clear hb2); (try clear hk); (try clear hi); (try clear ho0)) | ((with_reducible refine gate_callee (f := 84) rfl ?_); refine gL (some 45) Try.func84 #[.slice A2 l2.length c2] ?_; (with_reducible refine (laws_toWaterS.calls k _ _ l2 t356 _ ?side1 ?side2 A16.out).mono ?_); (case side1 => repeat (first | exact (Kd.C_below HR2.out HB.out) | (with_reducible refine Kd.C_alloc ?_ _) | (with_reducible refine Kd.C_drewN ?_ _) | (with_reducible refine Kd.C_drew ?_))); (case side2 => exact HC2.out); rintro e w29 ⟨v357, rfl, ho0, hb⟩; refine ⟨_, rfl, ?_⟩; have HO358 := am (Kd.R_lower (Kd.R_new' ho0 (Kd.R_lt (kr HO348))) (below_size (be HB))); replace HO345 := am (Kd.R_below (kr HO345) hb); replace HO348 := am (Kd.R_elder' (kr HO348) (Kd.R_base ho0) hb); replace HO351 := am (Kd.R_below (kr HO351) hb); replace HO355 := am (Kd.R_below (kr HO355) hb); replace BK337 := bB BK337 hb; replace HB := am (below_step (be HB) hb); (try clear hb); (try clear hb2); (try clear hk); (try clear hi); (try clear ho0); obtain ⟨hcz30_0, hcz30_1, hwz30, haz30, hyz30, hvz30, hfz30_0, hfz30_1, hfz30_2⟩ := bb26 BK337) | ((with_reducible refine gate_callee (f := 26) rfl ?_); refine gL (some 48) Try.func26 #[.agg (csBay a0_0 a0_1 a0_2)] ?_; (with_reducible refine (laws_toBay.calls a0_0 a0_1 a0_2 t359 t360 t361 _ A17.out).mono ?_); rintro e w31 ⟨rfl, hb⟩; refine ⟨_, rfl, ?_⟩; replace HO345 := am (Kd.R_below (kr HO345) hb); replace HO348 := am (Kd.R_below (kr HO348) hb); replace HO351 := am (Kd.R_below (kr HO351) hb); replace HO355 := am (Kd.R_below (kr HO355) hb); replace HO358 := am (Kd.R_below (kr HO358) hb); replace BK337 := bB BK337 hb; replace HB := am (below_step (be HB) hb); (try clear hb); (try clear hb2); (try clear hk); (try clear hi); obtain ⟨Ao32, co32, eo32⟩ := Kd.R_slice HO355.out; subst eo32; obtain ⟨Ao33, co33, eo33⟩ := Kd.R_slice HO358.out; subst eo33) | ((with_reducible refine gate_callee (f := 90) rfl ?_); refine gL (some 52) Try.func90 #[.agg (csBay t359 t360 t361), .slice Ao32 t353.length co32, .slice Ao33 t356.length co33, .int .i64 a3] ?_; (with_reducible refine (impl_AfloatAt.calls k t359 t360 t361 _ _ t353 _ _ t356 a3 t362 t365 _ ?side1 ?side2 ?side3 ?side4 A18.out).mono ?_); (case side1 => repeat (first | exact (Kd.R_reads' HO355.out).2.2 | (with_reducible refine Kd.C_alloc ?_ _) | (with_reducible refine Kd.C_drewN ?_ _) | (with_reducible refine Kd.C_drew ?_))); (case side2 => exact (Kd.R_reads' HO355.out).2.1); (case side3 => repeat (first | exact (Kd.R_reads' HO358.out).2.2 | (with_reducible refine Kd.C_alloc ?_ _) | (with_reducible refine Kd.C_drewN ?_ _) | (with_reducible refine Kd.C_drew ?_))); (case side4 => exact (Kd.R_reads' HO358.out).2.1); rintro e w34 ⟨v363, rfl, ho0, hb⟩; refine ⟨_, rfl, ?_⟩; have HO364 := am (Kd.R_lower (Kd.R_new' ho0 (Kd.R_lt (kr HO351))) (below_size (be HB))); replace HO345 := am (Kd.R_below (kr HO345) hb); replace HO348 := am (Kd.R_below (kr HO348) hb); replace HO351 := am (Kd.R_elder' (kr HO351) (Kd.R_base ho0) hb); replace HO355 := am (Kd.R_below (kr HO355) hb); replace HO358 := am (Kd.R_below (kr HO358) hb); replace BK337 := bB BK337 hb; replace HB := am (below_step (be HB) hb); (try clear hb); (try clear hb2); (try clear hk); (try clear hi); (try clear ho0)))
   (try simp only [Act.put, List.setIfInBounds_toArray, List.set_cons_zero, List.set_cons_succ])
   go_cut [63] (fun v63 wc => ∃ (kq : Nat) (x63_18 : Bool), v63 = .bool x63_18 ∧ Aside0 (laws_FnExactAfloatAt.j0 kq l1 l2 a3 t349 t352 t353 t356 t362 t365 x63_18 a0_0 a0_1 a0_2 = some r) ∧ Aside0 (kq ≤ k) ∧ Aside0 (Kd.R (Kd.int .i64) 2 wc w.heap.size (fun k_ => some k_ ≠ (v363 : Value).ownBlock) v350 t349) ∧ Aside0 (Kd.R k38 38 wc w.heap.size (fun _ => True) (.slice Ao32 t353.length co32) t353) ∧ Aside0 (Kd.R k103 103 wc w.heap.size (fun _ => True) (.slice Ao33 t356.length co33) t356) ∧ Aside0 (Kd.R (Kd.int .i64) 2 wc w.heap.size (fun k_ => some k_ ≠ (v350 : Value).ownBlock) v363 t362) ∧ Aside0 (wc.heap[gb337]? = some (.cells (csBay a0_0 a0_1 a0_2) 26 (0, 0))) ∧ Aside0 (Below w.heap.size w wc))
   case first =>
    have H := HC19.out
    clear HC19
    replace H := Option.bind_eq_some_iff.mp H
    obtain ⟨t366, A350, H⟩ := H
    try dsimp only at H
    have A35 := am A350
    clear A350
    by_cases c36 : t366 = true
    ·subst c36
     rw [if_pos rfl] at H
     have H' := am H
     clear H
     obtain ⟨Ao37, co37, eo37⟩ := Kd.R_slice HO364.out
     subst eo37
     obtain ⟨Ao38, co38, eo38⟩ := Kd.R_slice HO351.out
     subst eo38
     go_wp2_with (first | ((with_reducible refine gate_callee (f := 66) rfl ?_); refine gL (some 57) Try.func66 #[.slice Ao37 t362.length co37, .slice Ao38 t349.length co38] ?_; (with_reducible refine (laws_eqInt64S.calls k _ _ t362 _ _ t349 true _ ?side1 ?side2 ?side3 ?side4 A35.out).mono ?_); (case side1 => repeat (first | exact (Kd.R_reads' HO364.out).2.2 | (with_reducible refine Kd.C_alloc ?_ _) | (with_reducible refine Kd.C_drewN ?_ _) | (with_reducible refine Kd.C_drew ?_))); (case side2 => exact (Kd.R_reads' HO364.out).2.1); (case side3 => repeat (first | exact (Kd.R_reads' HO351.out).2.2 | (with_reducible refine Kd.C_alloc ?_ _) | (with_reducible refine Kd.C_drewN ?_ _) | (with_reducible refine Kd.C_drew ?_))); (case side4 => exact (Kd.R_reads' HO351.out).2.1); rintro e w' ⟨rfl, ⟨nd, rfl⟩⟩; refine ⟨_, rfl, ?_⟩))
     go_meet
     case rel => exact ⟨_, ((t365 != t352)), vv, H', ⟨by first | omega | exact Nat.le_refl _⟩, ⟨by (with_reducible repeat (first | apply Kd.R_alloc | apply Kd.R_drewN | apply Kd.R_drew)); exact Kd.R_mono HO351.out (fun _ hk => hk.2)⟩, ⟨by (with_reducible repeat (first | apply Kd.R_alloc | apply Kd.R_drewN | apply Kd.R_drew)); exact Kd.R_mono HO355.out (fun _ hk => trivial)⟩, ⟨by (with_reducible repeat (first | apply Kd.R_alloc | apply Kd.R_drewN | apply Kd.R_drew)); exact Kd.R_mono HO358.out (fun _ hk => trivial)⟩, ⟨by (with_reducible repeat (first | apply Kd.R_alloc | apply Kd.R_drewN | apply Kd.R_drew)); exact Kd.R_mono HO364.out (fun _ hk => hk.2)⟩, ⟨kb BK337⟩, ⟨be HB⟩⟩
    ·replace c36 := Bool.eq_false_iff.mpr c36
     subst c36
     have H1 : (laws_FnExactAfloatAt.j0 k l1 l2 a3 t349 t352 t353 t356 t362 t365 true a0_0 a0_1 a0_2) = some r := by rw [if_neg (show ¬ (false = true) by decide)] at H; exact H
     clear H
     have H := H1
     clear H1
     have H' := am H
     clear H
     obtain ⟨Ao39, co39, eo39⟩ := Kd.R_slice HO364.out
     subst eo39
     obtain ⟨Ao40, co40, eo40⟩ := Kd.R_slice HO351.out
     subst eo40
     go_wp2_with (first | ((with_reducible refine gate_callee (f := 66) rfl ?_); refine gL (some 57) Try.func66 #[.slice Ao39 t362.length co39, .slice Ao40 t349.length co40] ?_; (with_reducible refine (laws_eqInt64S.calls k _ _ t362 _ _ t349 false _ ?side1 ?side2 ?side3 ?side4 A35.out).mono ?_); (case side1 => repeat (first | exact (Kd.R_reads' HO364.out).2.2 | (with_reducible refine Kd.C_alloc ?_ _) | (with_reducible refine Kd.C_drewN ?_ _) | (with_reducible refine Kd.C_drew ?_))); (case side2 => exact (Kd.R_reads' HO364.out).2.1); (case side3 => repeat (first | exact (Kd.R_reads' HO351.out).2.2 | (with_reducible refine Kd.C_alloc ?_ _) | (with_reducible refine Kd.C_drewN ?_ _) | (with_reducible refine Kd.C_drew ?_))); (case side4 => exact (Kd.R_reads' HO351.out).2.1); rintro e w' ⟨rfl, ⟨nd, rfl⟩⟩; refine ⟨_, rfl, ?_⟩))
     go_meet
     case rel => exact ⟨_, (true), vv, H', ⟨by first | omega | exact Nat.le_refl _⟩, ⟨by (with_reducible repeat (first | apply Kd.R_alloc | apply Kd.R_drewN | apply Kd.R_drew)); exact Kd.R_mono HO351.out (fun _ hk => hk.2)⟩, ⟨by (with_reducible repeat (first | apply Kd.R_alloc | apply Kd.R_drewN | apply Kd.R_drew)); exact Kd.R_mono HO355.out (fun _ hk => trivial)⟩, ⟨by (with_reducible repeat (first | apply Kd.R_alloc | apply Kd.R_drewN | apply Kd.R_drew)); exact Kd.R_mono HO358.out (fun _ hk => trivial)⟩, ⟨by (with_reducible repeat (first | apply Kd.R_alloc | apply Kd.R_drewN | apply Kd.R_drew)); exact Kd.R_mono HO364.out (fun _ hk => hk.2)⟩, ⟨kb BK337⟩, ⟨be HB⟩⟩
   case rest =>
    clear HC19
    try clear c1
    try clear c2
    try clear p2
    try clear c3
    try clear c6
    try clear c6b0
    try clear c8
    try clear c9
    try clear c9b0
    try clear c22
    try clear c26
    try clear c31
    try clear c33
    try clear c36
    try clear hcz21_0
    try clear hcz21_1
    try clear hcz30_0
    try clear hcz30_1
    try clear hfz21_0
    try clear hfz21_1
    try clear hfz21_2
    try clear hfz30_0
    try clear hfz30_1
    try clear hfz30_2
    obtain ⟨kq, x63_18, rfl, HA, HJ18, HO_10, HO_12, HO_13, HO_14, BK337, HB⟩ := hcut
    cases kq with
    | zero => exact absurd HA.out (by simp [laws_FnExactAfloatAt.j0])
    | succ kj18 =>
     have H := HA.out
     clear HA
     simp only [laws_FnExactAfloatAt.j0] at H
     by_cases c41 : x63_18 = true
     ·subst c41
      rw [if_pos rfl] at H
      obtain rfl := Option.some.inj H
      go_wp2
      go_ret
      exact ⟨by first | rfl | (simp [errW_none, errW_some] <;> rfl) | (simp [*, errW_none, errW_some] <;> rfl), be HB⟩
     ·replace c41 := Bool.eq_false_iff.mpr c41
      subst c41
      have H1 : ((laws_toBoatS.f kj18 l1).bind fun t367 => ((laws_eqBoatS.f kj18 t353 t367).bind fun t370 => (if t370 = true then ((laws_toWaterS.f kj18 l2).bind fun t371 => ((laws_eqWaterS.f kj18 t356 t371).bind fun t374 => (if t374 = true then ((laws_markBoatS.f kj18 t353 1).bind fun bt375 => ((laws_markWaterS.f kj18 t356 bt375.1).bind fun bt377 => (if bt377.1 < 0 then (laws_FnExactAfloatAt.j1 kj18 l1 l2 a3 t349 t352 t362 true a0_0 a0_1 a0_2) else ((laws_eqInt64S.f kj18 t362 t349).bind fun t379 => (if t379 = true then (laws_FnExactAfloatAt.j1 kj18 l1 l2 a3 t349 t352 t362 (t365 != t352) a0_0 a0_1 a0_2) else (laws_FnExactAfloatAt.j1 kj18 l1 l2 a3 t349 t352 t362 true a0_0 a0_1 a0_2)))))) else (some false)))) else (some false)))) = some r := by rw [if_neg (show ¬ (false = true) by decide)] at H; exact H
      clear H
      have H := H1
      clear H1
      replace H := Option.bind_eq_some_iff.mp H
      obtain ⟨t367, A420, H⟩ := H
      try dsimp only at H
      have A42 := am A420
      clear A420
      replace H := Option.bind_eq_some_iff.mp H
      obtain ⟨t370, A430, H⟩ := H
      try dsimp only at H
      have A43 := am A430
      clear A430
      by_cases c44 : t370 = true
      ·subst c44
       rw [if_pos rfl] at H
       replace H := Option.bind_eq_some_iff.mp H
       obtain ⟨t371, A450, H⟩ := H
       try dsimp only at H
       have A45 := am A450
       clear A450
       replace H := Option.bind_eq_some_iff.mp H
       obtain ⟨t374, A460, H⟩ := H
       try dsimp only at H
       have A46 := am A460
       clear A460
       by_cases c47 : t374 = true
       ·subst c47
        rw [if_pos rfl] at H
        replace H := Option.bind_eq_some_iff.mp H
        obtain ⟨⟨t375, t376⟩, A480, H⟩ := H
        try dsimp only at H
        have A48 := am A480
        clear A480
        replace H := Option.bind_eq_some_iff.mp H
        obtain ⟨⟨t377, t378⟩, A490, H⟩ := H
        try dsimp only at H
        have A49 := am A490
        clear A490
        have HC50 := am H
        clear H
        go_upto_region 21 with (first | ((with_reducible refine gate_callee (f := 33) rfl ?_); refine gL (some 66) Try.func33 #[.slice A1 l1.length c1] ?_; (with_reducible refine (laws_toBoatS.calls kj18 _ _ l1 t367 _ ?side1 ?side2 A42.out).mono ?_); (case side1 => repeat (first | exact (Kd.C_below HR1.out HB.out) | (with_reducible refine Kd.C_alloc ?_ _) | (with_reducible refine Kd.C_drewN ?_ _) | (with_reducible refine Kd.C_drew ?_))); (case side2 => exact HC1.out); rintro e w51 ⟨v368, rfl, ho0, hb⟩; refine ⟨_, rfl, ?_⟩; have HO369 := am (Kd.R_lower (Kd.R_new' ho0 (Kd.R_lt (kr HO_12))) (below_size (be HB))); replace HO_10 := am (Kd.R_below (kr HO_10) hb); replace HO_12 := am (Kd.R_elder' (kr HO_12) (Kd.R_base ho0) hb); replace HO_13 := am (Kd.R_below (kr HO_13) hb); replace HO_14 := am (Kd.R_below (kr HO_14) hb); replace BK337 := bB BK337 hb; replace HB := am (below_step (be HB) hb); (try clear hb); (try clear hb2); (try clear hk); (try clear hi); (try clear ho0); obtain ⟨Ao52, co52, eo52⟩ := Kd.R_slice HO369.out; subst eo52) | ((with_reducible refine gate_callee (f := 35) rfl ?_); refine gL (some 67) Try.func35 #[.slice Ao32 t353.length co32, .slice Ao52 t367.length co52] ?_; (with_reducible refine (laws_eqBoatS.calls kj18 _ _ t353 _ _ t367 true _ ?side1 ?side2 ?side3 ?side4 A43.out).mono ?_); (case side1 => repeat (first | exact (Kd.R_reads' HO_12.out).2.2 | (with_reducible refine Kd.C_alloc ?_ _) | (with_reducible refine Kd.C_drewN ?_ _) | (with_reducible refine Kd.C_drew ?_))); (case side2 => exact (Kd.R_reads' HO_12.out).2.1); (case side3 => repeat (first | exact (Kd.R_reads' HO369.out).2.2 | (with_reducible refine Kd.C_alloc ?_ _) | (with_reducible refine Kd.C_drewN ?_ _) | (with_reducible refine Kd.C_drew ?_))); (case side4 => exact (Kd.R_reads' HO369.out).2.1); rintro e w53 ⟨rfl, hb⟩; refine ⟨_, rfl, ?_⟩; replace HO_10 := am (Kd.R_below (kr HO_10) hb); replace HO_12 := am (Kd.R_below (kr HO_12) hb); replace HO_13 := am (Kd.R_below (kr HO_13) hb); replace HO_14 := am (Kd.R_below (kr HO_14) hb); replace HO369 := am (Kd.R_below (kr HO369) hb); replace BK337 := bB BK337 hb; replace HB := am (below_step (be HB) hb); (try clear hb); (try clear hb2); (try clear hk); (try clear hi)) | ((with_reducible refine gate_callee (f := 84) rfl ?_); refine gL (some 71) Try.func84 #[.slice A2 l2.length c2] ?_; (with_reducible refine (laws_toWaterS.calls kj18 _ _ l2 t371 _ ?side1 ?side2 A45.out).mono ?_); (case side1 => repeat (first | exact (Kd.C_below HR2.out HB.out) | (with_reducible refine Kd.C_alloc ?_ _) | (with_reducible refine Kd.C_drewN ?_ _) | (with_reducible refine Kd.C_drew ?_))); (case side2 => exact HC2.out); rintro e w54 ⟨v372, rfl, ho0, hb⟩; refine ⟨_, rfl, ?_⟩; have HO373 := am (Kd.R_lower (Kd.R_new' ho0 (Kd.R_lt (kr HO_13))) (below_size (be HB))); replace HO_10 := am (Kd.R_below (kr HO_10) hb); replace HO_12 := am (Kd.R_below (kr HO_12) hb); replace HO_13 := am (Kd.R_elder' (kr HO_13) (Kd.R_base ho0) hb); replace HO_14 := am (Kd.R_below (kr HO_14) hb); replace HO369 := am (Kd.R_below (kr HO369) hb); replace BK337 := bB BK337 hb; replace HB := am (below_step (be HB) hb); (try clear hb); (try clear hb2); (try clear hk); (try clear hi); (try clear ho0); obtain ⟨Ao55, co55, eo55⟩ := Kd.R_slice HO373.out; subst eo55) | ((with_reducible refine gate_callee (f := 86) rfl ?_); refine gL (some 72) Try.func86 #[.slice Ao33 t356.length co33, .slice Ao55 t371.length co55] ?_; (with_reducible refine (laws_eqWaterS.calls kj18 _ _ t356 _ _ t371 true _ ?side1 ?side2 ?side3 ?side4 A46.out).mono ?_); (case side1 => repeat (first | exact (Kd.R_reads' HO_13.out).2.2 | (with_reducible refine Kd.C_alloc ?_ _) | (with_reducible refine Kd.C_drewN ?_ _) | (with_reducible refine Kd.C_drew ?_))); (case side2 => exact (Kd.R_reads' HO_13.out).2.1); (case side3 => repeat (first | exact (Kd.R_reads' HO373.out).2.2 | (with_reducible refine Kd.C_alloc ?_ _) | (with_reducible refine Kd.C_drewN ?_ _) | (with_reducible refine Kd.C_drew ?_))); (case side4 => exact (Kd.R_reads' HO373.out).2.1); rintro e w56 ⟨rfl, hb⟩; refine ⟨_, rfl, ?_⟩; replace HO_10 := am (Kd.R_below (kr HO_10) hb); replace HO_12 := am (Kd.R_below (kr HO_12) hb); replace HO_13 := am (Kd.R_below (kr HO_13) hb); replace HO_14 := am (Kd.R_below (kr HO_14) hb); replace HO369 := am (Kd.R_below (kr HO369) hb); replace HO373 := am (Kd.R_below (kr HO373) hb); replace BK337 := bB BK337 hb; replace HB := am (below_step (be HB) hb); (try clear hb); (try clear hb2); (try clear hk); (try clear hi)) | ((with_reducible refine gate_callee (f := 57) rfl ?_); refine gL (some 76) Try.func57 #[.slice Ao32 t353.length co32, .int .i64 1] ?_; (with_reducible refine (laws_markBoatS.calls kj18 (fun k_ => some k_ = (.slice Ao32 t353.length co32 : Value).ownBlock) (.slice Ao32 t353.length co32) t353 1 t375 t376 w _ ?side1 ?side2 A48.out).mono ?_); (case side1 => exact be HB); (case side2 => exact Kd.R_tight rfl HO_12.out); rintro e w57 ⟨rfl, hy0, hb, hkp⟩; refine ⟨_, rfl, ?_⟩; replace HO_10 := am (Kd.R_mono (ok' := fun k_ => some k_ ≠ (v363 : Value).ownBlock) (Kd.R_keptB ((Kd.R_apart' HO_10.out (Kd.R_typed HO_12.out) (by decide))) hkp (fun k_ hk_ hs_ => (hk_.2) hs_)) (fun k_ hk_ => hk_.1.1)); replace HO_13 := am (Kd.R_mono (ok' := fun k_ => some k_ ≠ (.slice Ao55 t371.length co55 : Value).ownBlock) (Kd.R_keptB ((Kd.R_apart' HO_13.out (Kd.R_typed HO_12.out) (by decide))) hkp (fun k_ hk_ hs_ => (hk_.2) hs_)) (fun k_ hk_ => hk_.1.1.2)); replace HO_14 := am (Kd.R_mono (ok' := fun k_ => some k_ ≠ (v350 : Value).ownBlock) (Kd.R_keptB ((Kd.R_apart' HO_14.out (Kd.R_typed HO_12.out) (by decide))) hkp (fun k_ hk_ hs_ => (hk_.2) hs_)) (fun k_ hk_ => hk_.1.1)); replace BK337 := am (blk_kept (kb BK337) hkp (fun hs_ => (fun e_ => (Kd.R_ne HO_12.out BK337.out (by decide)) e_) hs_)); replace HO369 := am (Kd.R_mono (ok' := fun k_ => some k_ ≠ (.slice Ao32 t353.length co32 : Value).ownBlock) (Kd.R_keptB (HO369.out) hkp (fun k_ hk_ hs_ => (hk_.2) hs_)) (fun k_ hk_ => hk_.1.2)); replace HO373 := am (Kd.R_mono (ok' := fun k_ => some k_ ≠ (.slice Ao33 t356.length co33 : Value).ownBlock) (Kd.R_keptB ((Kd.R_apart' HO373.out (Kd.R_typed HO_12.out) (by decide))) hkp (fun k_ hk_ hs_ => (hk_.2) hs_)) (fun k_ hk_ => hk_.1.1.2)); replace HO_12 := am (Kd.R_reok rfl hy0 (fun k_ e_ => HO_12.out.1 k_ e_)); replace HB := am (hb); (try clear hb); (try clear hkp); (try clear hy0)) | ((with_reducible refine gate_callee (f := 91) rfl ?_); refine gL (some 79) Try.func91 #[.slice Ao33 t356.length co33, .int .i64 t375] ?_; (with_reducible refine (laws_markWaterS.calls kj18 (fun k_ => some k_ = (.slice Ao33 t356.length co33 : Value).ownBlock) (.slice Ao33 t356.length co33) t356 t375 t377 t378 w _ ?side1 ?side2 A49.out).mono ?_); (case side1 => exact be HB); (case side2 => exact Kd.R_tight rfl HO_13.out); rintro e w58 ⟨rfl, hy0, hb, hkp⟩; refine ⟨_, rfl, ?_⟩; replace HO_10 := am (Kd.R_mono (ok' := fun k_ => some k_ ≠ (v363 : Value).ownBlock) (Kd.R_keptB ((Kd.R_apart' HO_10.out (Kd.R_typed HO_13.out) (by decide))) hkp (fun k_ hk_ hs_ => (hk_.2) hs_)) (fun k_ hk_ => hk_.1.1)); replace HO_12 := am (Kd.R_mono (ok' := fun k_ => some k_ ≠ (.slice Ao52 t367.length co52 : Value).ownBlock) (Kd.R_keptB ((Kd.R_apart' HO_12.out (Kd.R_typed HO_13.out) (by decide))) hkp (fun k_ hk_ hs_ => (hk_.2) hs_)) (fun k_ hk_ => hk_.1.1.2)); replace HO_14 := am (Kd.R_mono (ok' := fun k_ => some k_ ≠ (v350 : Value).ownBlock) (Kd.R_keptB ((Kd.R_apart' HO_14.out (Kd.R_typed HO_13.out) (by decide))) hkp (fun k_ hk_ hs_ => (hk_.2) hs_)) (fun k_ hk_ => hk_.1.1)); replace BK337 := am (blk_kept (kb BK337) hkp (fun hs_ => (fun e_ => (Kd.R_ne HO_13.out BK337.out (by decide)) e_) hs_)); replace HO369 := am (Kd.R_mono (ok' := fun k_ => some k_ ≠ (.slice Ao32 t353.length co32 : Value).ownBlock) (Kd.R_keptB ((Kd.R_apart' HO369.out (Kd.R_typed HO_13.out) (by decide))) hkp (fun k_ hk_ hs_ => (hk_.2) hs_)) (fun k_ hk_ => hk_.1.1)); replace HO_13 := am (Kd.R_reok rfl hy0 (fun k_ e_ => HO_13.out.1 k_ e_)); replace HO373 := am (Kd.R_mono (ok' := fun k_ => some k_ ≠ (.slice Ao33 t356.length co33 : Value).ownBlock) (Kd.R_keptB (HO373.out) hkp (fun k_ hk_ hs_ => (hk_) hs_)) (fun k_ hk_ => hk_.1)); replace HB := am (hb); (try clear hb); (try clear hkp); (try clear hy0)))
        (try simp only [Act.put, List.setIfInBounds_toArray, List.set_cons_zero, List.set_cons_succ])
        go_cut [92] (fun v92 wc => ∃ (kq : Nat) (x92_49 : Bool), v92 = .bool x92_49 ∧ Aside0 (laws_FnExactAfloatAt.j1 kq l1 l2 a3 t349 t352 t362 x92_49 a0_0 a0_1 a0_2 = some r) ∧ Aside0 (kq ≤ kj18) ∧ Aside0 (Kd.R (Kd.int .i64) 2 wc w.heap.size (fun k_ => some k_ ≠ (v363 : Value).ownBlock) v350 t349) ∧ Aside0 (Kd.R (Kd.int .i64) 2 wc w.heap.size (fun k_ => some k_ ≠ (v350 : Value).ownBlock) v363 t362) ∧ Aside0 (wc.heap[gb337]? = some (.cells (csBay a0_0 a0_1 a0_2) 26 (0, 0))) ∧ Aside0 (Below w.heap.size w wc))
        case first =>
         have H := HC50.out
         clear HC50
         by_cases c59 : t377 < 0
         ·rw [if_pos c59] at H
          have c59b0 : decide (t377 < 0) = true := decide_eq_true c59
          clear c59
          (first | rw [c59b0] | (simp only [i64_w, i32_w]; rw [c59b0]) | skip)
          have H' := am H
          clear H
          go_wp2
          go_meet
          case rel => exact ⟨_, (true), vv, H', ⟨by have := HJ18.out; first | omega | exact Nat.le_refl _⟩, ⟨kr HO_10⟩, ⟨kr HO_14⟩, ⟨kb BK337⟩, ⟨be HB⟩⟩
         ·rw [if_neg c59] at H
          have c59b0 : decide (t377 < 0) = false := decide_eq_false c59
          clear c59
          (first | rw [c59b0] | (simp only [i64_w, i32_w]; rw [c59b0]) | skip)
          replace H := Option.bind_eq_some_iff.mp H
          obtain ⟨t379, A600, H⟩ := H
          try dsimp only at H
          have A60 := am A600
          clear A600
          by_cases c61 : t379 = true
          ·subst c61
           rw [if_pos rfl] at H
           have H' := am H
           clear H
           obtain ⟨Ao62, co62, eo62⟩ := Kd.R_slice HO_14.out
           subst eo62
           obtain ⟨Ao63, co63, eo63⟩ := Kd.R_slice HO_10.out
           subst eo63
           go_wp2_with (first | (go_at_call 66; (with_reducible refine (laws_eqInt64S.calls kj18 _ _ t362 _ _ t349 true _ ?side1 ?side2 ?side3 ?side4 A60.out).mono ?_); (case side1 => repeat (first | exact (Kd.R_reads' HO_14.out).2.2 | (with_reducible refine Kd.C_alloc ?_ _) | (with_reducible refine Kd.C_drewN ?_ _) | (with_reducible refine Kd.C_drew ?_))); (case side2 => exact (Kd.R_reads' HO_14.out).2.1); (case side3 => repeat (first | exact (Kd.R_reads' HO_10.out).2.2 | (with_reducible refine Kd.C_alloc ?_ _) | (with_reducible refine Kd.C_drewN ?_ _) | (with_reducible refine Kd.C_drew ?_))); (case side4 => exact (Kd.R_reads' HO_10.out).2.1); rintro e w' ⟨rfl, ⟨nd, rfl⟩⟩))
           go_meet
           case rel => exact ⟨_, ((t365 != t352)), vv, H', ⟨by have := HJ18.out; first | omega | exact Nat.le_refl _⟩, ⟨kr HO_10⟩, ⟨kr HO_14⟩, ⟨kb BK337⟩, ⟨be HB⟩⟩
          ·replace c61 := Bool.eq_false_iff.mpr c61
           subst c61
           have H1 : (laws_FnExactAfloatAt.j1 kj18 l1 l2 a3 t349 t352 t362 true a0_0 a0_1 a0_2) = some r := by rw [if_neg (show ¬ (false = true) by decide)] at H; exact H
           clear H
           have H := H1
           clear H1
           have H' := am H
           clear H
           obtain ⟨Ao64, co64, eo64⟩ := Kd.R_slice HO_14.out
           subst eo64
           obtain ⟨Ao65, co65, eo65⟩ := Kd.R_slice HO_10.out
           subst eo65
           go_wp2_with (first | (go_at_call 66; (with_reducible refine (laws_eqInt64S.calls kj18 _ _ t362 _ _ t349 false _ ?side1 ?side2 ?side3 ?side4 A60.out).mono ?_); (case side1 => repeat (first | exact (Kd.R_reads' HO_14.out).2.2 | (with_reducible refine Kd.C_alloc ?_ _) | (with_reducible refine Kd.C_drewN ?_ _) | (with_reducible refine Kd.C_drew ?_))); (case side2 => exact (Kd.R_reads' HO_14.out).2.1); (case side3 => repeat (first | exact (Kd.R_reads' HO_10.out).2.2 | (with_reducible refine Kd.C_alloc ?_ _) | (with_reducible refine Kd.C_drewN ?_ _) | (with_reducible refine Kd.C_drew ?_))); (case side4 => exact (Kd.R_reads' HO_10.out).2.1); rintro e w' ⟨rfl, ⟨nd, rfl⟩⟩))
           go_meet
           case rel => exact ⟨_, (true), vv, H', ⟨by have := HJ18.out; first | omega | exact Nat.le_refl _⟩, ⟨kr HO_10⟩, ⟨kr HO_14⟩, ⟨kb BK337⟩, ⟨be HB⟩⟩
        case rest =>
         clear HC50
         try clear c1
         try clear c2
         try clear p2
         try clear c3
         try clear c4
         try clear c5
         try clear c6
         try clear c6b0
         try clear c8
         try clear c9
         try clear c9b0
         try clear c22
         try clear c26
         try clear c31
         try clear c33
         try clear c35
         try clear c36
         try clear c41
         try clear c44
         try clear c47
         try clear c57
         try clear c59
         try clear c59b0
         try clear c61
         try clear hcz21_0
         try clear hcz21_1
         try clear hcz30_0
         try clear hcz30_1
         try clear hfz21_0
         try clear hfz21_1
         try clear hfz21_2
         try clear hfz30_0
         try clear hfz30_1
         try clear hfz30_2
         try clear p2
         obtain ⟨kq, x92_49, rfl, HA, HJ49, HO_10, HO_14, BK337, HB⟩ := hcut
         cases kq with
         | zero => exact absurd HA.out (by simp [laws_FnExactAfloatAt.j1])
         | succ kj49 =>
          have H := HA.out
          clear HA
          simp only [laws_FnExactAfloatAt.j1] at H
          by_cases c66 : x92_49 = true
          ·subst c66
           rw [if_pos rfl] at H
           obtain rfl := Option.some.inj H
           go_wp2
           go_ret
           exact ⟨by first | rfl | (simp [errW_none, errW_some] <;> rfl) | (simp [*, errW_none, errW_some] <;> rfl), be HB⟩
          ·replace c66 := Bool.eq_false_iff.mpr c66
           subst c66
           have H1 : ((laws_markInt64S.f kj49 t362 1).bind fun bt380 => ((laws_heldInt64S.f kj49 bt380.2 1).bind fun t382 => (if t382 < 0 then (some false) else (if t382 = bt380.1 then ((laws_toBay.f a0_0 a0_1 a0_2).bind fun bt383 => ((laws_toBoatS.f kj49 l1).bind fun t386 => ((laws_toWaterS.f kj49 l2).bind fun t389 => ((impl_AfloatAt.f kj49 bt383.1 bt383.2.1 bt383.2.2 t386 t389 a3).bind fun bt392 => ((laws_eqInt64S.f kj49 bt392.1 t349).bind fun t396 => (if t396 = true then (laws_FnExactAfloatAt.j2 kj49 bt380.2 bt380.1 (bt392.2 != t352)) else (laws_FnExactAfloatAt.j2 kj49 bt380.2 bt380.1 true))))))) else (some false))))) = some r := by rw [if_neg (show ¬ (false = true) by decide)] at H; exact H
           clear H
           have H := H1
           clear H1
           replace H := Option.bind_eq_some_iff.mp H
           obtain ⟨⟨t380, t381⟩, A670, H⟩ := H
           try dsimp only at H
           have A67 := am A670
           clear A670
           replace H := Option.bind_eq_some_iff.mp H
           obtain ⟨t382, A680, H⟩ := H
           try dsimp only at H
           have A68 := am A680
           clear A680
           by_cases c69 : t382 < 0
           ·rw [if_pos c69] at H
            have c69b0 : decide (t382 < 0) = true := decide_eq_true c69
            clear c69
            obtain rfl := Option.some.inj H
            obtain ⟨Ao70, co70, eo70⟩ := Kd.R_slice HO_14.out
            subst eo70
            go_wp2_with (first | ((with_reducible refine gate_callee (f := 67) rfl ?_); refine gL (some 95) Try.func67 #[.slice Ao70 t362.length co70, .int .i64 1] ?_; (with_reducible refine (laws_markInt64S.calls kj49 (fun k_ => some k_ = (.slice Ao70 t362.length co70 : Value).ownBlock) (.slice Ao70 t362.length co70) t362 1 t380 t381 w _ ?side1 ?side2 A67.out).mono ?_); (case side1 => exact be HB); (case side2 => exact Kd.R_tight rfl HO_14.out); rintro e w71 ⟨rfl, hy0, hb, hkp⟩; refine ⟨_, rfl, ?_⟩; replace HO_10 := am (Kd.R_mono (ok' := fun k_ => some k_ ≠ (.slice Ao70 t362.length co70 : Value).ownBlock) (Kd.R_keptB (HO_10.out) hkp (fun k_ hk_ hs_ => (hk_) hs_)) (fun k_ hk_ => hk_.1)); replace BK337 := am (blk_kept (kb BK337) hkp (fun hs_ => (fun e_ => (Kd.R_ne HO_14.out BK337.out (by decide)) e_) hs_)); replace HO_14 := am (Kd.R_reok rfl hy0 (fun k_ e_ => HO_14.out.1 k_ e_)); replace HB := am (hb); (try clear hb); (try clear hkp); (try clear hy0)) | ((with_reducible refine gate_callee (f := 68) rfl ?_); refine goesL_ (some 98) rfl rfl Try.func68 (by kernel_rfl) rfl #[.slice Ao70 t381.length co70, .int .i64 1] rfl (by (try simp only [List.map_toArray, List.map_cons, List.map_nil]); first | done | (rw [show t381.length = t362.length from (Kd.R_reads' HO_14.out).1.symm] <;> rfl) | rfl | (simp only [List.length_drop, List.length_take]; rfl)) ?_; (with_reducible refine (laws_heldInt64S.calls kj49 _ _ t381 1 t382 _ ?side1 ?side2 A68.out).mono ?_); (case side1 => repeat (first | exact (Kd.R_reads' HO_14.out).2.2 | (with_reducible refine Kd.C_alloc ?_ _) | (with_reducible refine Kd.C_drewN ?_ _) | (with_reducible refine Kd.C_drew ?_))); (case side2 => rw [show t381.length = t362.length from (Kd.R_reads' HO_14.out).1.symm]; exact (Kd.R_reads' HO_14.out).2.1); rintro e w' ⟨rfl, ⟨nd, rfl⟩⟩; refine ⟨_, rfl, ?_⟩))
            go_ret
            exact ⟨by first | rfl | (simp [errW_none, errW_some] <;> rfl) | (simp [*, errW_none, errW_some] <;> rfl), be HB⟩
           ·rw [if_neg c69] at H
            have c69b0 : decide (t382 < 0) = false := decide_eq_false c69
            clear c69
            by_cases c72 : t382 = t380
            ·rw [if_pos c72] at H
             have c72b0 : (t382 == t380) = true := beq_iff_eq.mpr c72
             have c72b1 : (t382 != t380) = false := bne_eq_false_iff_eq.mpr c72
             clear c72
             replace H := Option.bind_eq_some_iff.mp H
             obtain ⟨⟨t383, t384, t385⟩, A730, H⟩ := H
             try dsimp only at H
             have A73 := am A730
             clear A730
             replace H := Option.bind_eq_some_iff.mp H
             obtain ⟨t386, A740, H⟩ := H
             try dsimp only at H
             have A74 := am A740
             clear A740
             replace H := Option.bind_eq_some_iff.mp H
             obtain ⟨t389, A750, H⟩ := H
             try dsimp only at H
             have A75 := am A750
             clear A750
             replace H := Option.bind_eq_some_iff.mp H
             obtain ⟨⟨t392, t395⟩, A760, H⟩ := H
             try dsimp only at H
             have A76 := am A760
             clear A760
             have HC77 := am H
             clear H
             obtain ⟨Ao78, co78, eo78⟩ := Kd.R_slice HO_14.out
             subst eo78
             go_upto_region 32 with (first | ((with_reducible refine gate_callee (f := 67) rfl ?_); refine gL (some 95) Try.func67 #[.slice Ao78 t362.length co78, .int .i64 1] ?_; (with_reducible refine (laws_markInt64S.calls kj49 (fun k_ => some k_ = (.slice Ao78 t362.length co78 : Value).ownBlock) (.slice Ao78 t362.length co78) t362 1 t380 t381 w _ ?side1 ?side2 A67.out).mono ?_); (case side1 => exact be HB); (case side2 => exact Kd.R_tight rfl HO_14.out); rintro e w79 ⟨rfl, hy0, hb, hkp⟩; refine ⟨_, rfl, ?_⟩; replace HO_10 := am (Kd.R_mono (ok' := fun k_ => some k_ ≠ (.slice Ao78 t362.length co78 : Value).ownBlock) (Kd.R_keptB (HO_10.out) hkp (fun k_ hk_ hs_ => (hk_) hs_)) (fun k_ hk_ => hk_.1)); replace BK337 := am (blk_kept (kb BK337) hkp (fun hs_ => (fun e_ => (Kd.R_ne HO_14.out BK337.out (by decide)) e_) hs_)); replace HO_14 := am (Kd.R_reok rfl hy0 (fun k_ e_ => HO_14.out.1 k_ e_)); replace HB := am (hb); (try clear hb); (try clear hkp); (try clear hy0)) | ((with_reducible refine gate_callee (f := 68) rfl ?_); refine goesL_ (some 98) rfl rfl Try.func68 (by kernel_rfl) rfl #[.slice Ao78 t381.length co78, .int .i64 1] rfl (by (try simp only [List.map_toArray, List.map_cons, List.map_nil]); first | done | (rw [show t381.length = t362.length from (Kd.R_reads' HO_14.out).1.symm] <;> rfl) | rfl | (simp only [List.length_drop, List.length_take]; rfl)) ?_; (with_reducible refine (laws_heldInt64S.calls kj49 _ _ t381 1 t382 _ ?side1 ?side2 A68.out).mono ?_); (case side1 => repeat (first | exact (Kd.R_reads' HO_14.out).2.2 | (with_reducible refine Kd.C_alloc ?_ _) | (with_reducible refine Kd.C_drewN ?_ _) | (with_reducible refine Kd.C_drew ?_))); (case side2 => rw [show t381.length = t362.length from (Kd.R_reads' HO_14.out).1.symm]; exact (Kd.R_reads' HO_14.out).2.1); rintro e w' ⟨rfl, ⟨nd, rfl⟩⟩; refine ⟨_, rfl, ?_⟩; obtain ⟨hcz80_0, hcz80_1, hwz80, haz80, hyz80, hvz80, hfz80_0, hfz80_1, hfz80_2⟩ := bb26 BK337) | ((with_reducible refine gate_callee (f := 26) rfl ?_); refine gL (some 106) Try.func26 #[.agg (csBay a0_0 a0_1 a0_2)] ?_; (with_reducible refine (laws_toBay.calls a0_0 a0_1 a0_2 t383 t384 t385 _ A73.out).mono ?_); rintro e w81 ⟨rfl, hb⟩; refine ⟨_, rfl, ?_⟩; replace HO_10 := am (Kd.R_below (kr HO_10) hb); replace HO_14 := am (Kd.R_below (kr HO_14) hb); replace BK337 := bB BK337 hb; replace HB := am (below_step (be HB) hb); (try clear hb); (try clear hb2); (try clear hk); (try clear hi)) | ((with_reducible refine gate_callee (f := 33) rfl ?_); refine gL (some 108) Try.func33 #[.slice A1 l1.length c1] ?_; (with_reducible refine (laws_toBoatS.calls kj49 _ _ l1 t386 _ ?side1 ?side2 A74.out).mono ?_); (case side1 => repeat (first | exact (Kd.C_below HR1.out HB.out) | (with_reducible refine Kd.C_alloc ?_ _) | (with_reducible refine Kd.C_drewN ?_ _) | (with_reducible refine Kd.C_drew ?_))); (case side2 => exact HC1.out); rintro e w82 ⟨v387, rfl, ho0, hb⟩; refine ⟨_, rfl, ?_⟩; have HO388 := am (Kd.R_lower ho0 (below_size (be HB))); replace HO_10 := am (Kd.R_below (kr HO_10) hb); replace HO_14 := am (Kd.R_below (kr HO_14) hb); replace BK337 := bB BK337 hb; replace HB := am (below_step (be HB) hb); (try clear hb); (try clear hb2); (try clear hk); (try clear hi); (try clear ho0)) | ((with_reducible refine gate_callee (f := 84) rfl ?_); refine gL (some 110) Try.func84 #[.slice A2 l2.length c2] ?_; (with_reducible refine (laws_toWaterS.calls kj49 _ _ l2 t389 _ ?side1 ?side2 A75.out).mono ?_); (case side1 => repeat (first | exact (Kd.C_below HR2.out HB.out) | (with_reducible refine Kd.C_alloc ?_ _) | (with_reducible refine Kd.C_drewN ?_ _) | (with_reducible refine Kd.C_drew ?_))); (case side2 => exact HC2.out); rintro e w83 ⟨v390, rfl, ho0, hb⟩; refine ⟨_, rfl, ?_⟩; have HO391 := am (Kd.R_lower ho0 (below_size (be HB))); replace HO_10 := am (Kd.R_below (kr HO_10) hb); replace HO_14 := am (Kd.R_below (kr HO_14) hb); replace HO388 := am (Kd.R_below (kr HO388) hb); replace BK337 := bB BK337 hb; replace HB := am (below_step (be HB) hb); (try clear hb); (try clear hb2); (try clear hk); (try clear hi); (try clear ho0); obtain ⟨Ao84, co84, eo84⟩ := Kd.R_slice HO388.out; subst eo84; obtain ⟨Ao85, co85, eo85⟩ := Kd.R_slice HO391.out; subst eo85) | ((with_reducible refine gate_callee (f := 90) rfl ?_); refine gL (some 112) Try.func90 #[.agg (csBay t383 t384 t385), .slice Ao84 t386.length co84, .slice Ao85 t389.length co85, .int .i64 a3] ?_; (with_reducible refine (impl_AfloatAt.calls kj49 t383 t384 t385 _ _ t386 _ _ t389 a3 t392 t395 _ ?side1 ?side2 ?side3 ?side4 A76.out).mono ?_); (case side1 => repeat (first | exact (Kd.R_reads' HO388.out).2.2 | (with_reducible refine Kd.C_alloc ?_ _) | (with_reducible refine Kd.C_drewN ?_ _) | (with_reducible refine Kd.C_drew ?_))); (case side2 => exact (Kd.R_reads' HO388.out).2.1); (case side3 => repeat (first | exact (Kd.R_reads' HO391.out).2.2 | (with_reducible refine Kd.C_alloc ?_ _) | (with_reducible refine Kd.C_drewN ?_ _) | (with_reducible refine Kd.C_drew ?_))); (case side4 => exact (Kd.R_reads' HO391.out).2.1); rintro e w86 ⟨v393, rfl, ho0, hb⟩; refine ⟨_, rfl, ?_⟩; have HO394 := am (Kd.R_lower (Kd.R_new' (Kd.R_new' ho0 (Kd.R_lt (kr HO_10))) (Kd.R_lt (kr HO_14))) (below_size (be HB))); replace HO_10 := am (Kd.R_elder' (kr HO_10) (Kd.R_base ho0) hb); replace HO_14 := am (Kd.R_elder' (kr HO_14) (Kd.R_base ho0) hb); replace HO388 := am (Kd.R_below (kr HO388) hb); replace HO391 := am (Kd.R_below (kr HO391) hb); replace BK337 := bB BK337 hb; replace HB := am (below_step (be HB) hb); (try clear hb); (try clear hb2); (try clear hk); (try clear hi); (try clear ho0)))
             (try simp only [Act.put, List.setIfInBounds_toArray, List.set_cons_zero, List.set_cons_succ])
             go_cut [123] (fun v123 wc => ∃ (kq : Nat) (x123_76 : Bool), v123 = .bool x123_76 ∧ Aside0 (laws_FnExactAfloatAt.j2 kq t381 t380 x123_76 = some r) ∧ Aside0 (kq ≤ kj49) ∧ Aside0 (Kd.R (Kd.int .i64) 2 wc w.heap.size (fun _ => True) (.slice Ao78 t362.length co78) t381) ∧ Aside0 (wc.heap[gb337]? = some (.cells (csBay a0_0 a0_1 a0_2) 26 (0, 0))) ∧ Aside0 (Below w.heap.size w wc))
             case first =>
              have H := HC77.out
              clear HC77
              replace H := Option.bind_eq_some_iff.mp H
              obtain ⟨t396, A870, H⟩ := H
              try dsimp only at H
              have A87 := am A870
              clear A870
              by_cases c88 : t396 = true
              ·subst c88
               rw [if_pos rfl] at H
               have H' := am H
               clear H
               obtain ⟨Ao89, co89, eo89⟩ := Kd.R_slice HO394.out
               subst eo89
               obtain ⟨Ao90, co90, eo90⟩ := Kd.R_slice HO_10.out
               subst eo90
               go_wp2_with (first | ((with_reducible refine gate_callee (f := 66) rfl ?_); refine gL (some 117) Try.func66 #[.slice Ao89 t392.length co89, .slice Ao90 t349.length co90] ?_; (with_reducible refine (laws_eqInt64S.calls kj49 _ _ t392 _ _ t349 true _ ?side1 ?side2 ?side3 ?side4 A87.out).mono ?_); (case side1 => repeat (first | exact (Kd.R_reads' HO394.out).2.2 | (with_reducible refine Kd.C_alloc ?_ _) | (with_reducible refine Kd.C_drewN ?_ _) | (with_reducible refine Kd.C_drew ?_))); (case side2 => exact (Kd.R_reads' HO394.out).2.1); (case side3 => repeat (first | exact (Kd.R_reads' HO_10.out).2.2 | (with_reducible refine Kd.C_alloc ?_ _) | (with_reducible refine Kd.C_drewN ?_ _) | (with_reducible refine Kd.C_drew ?_))); (case side4 => exact (Kd.R_reads' HO_10.out).2.1); rintro e w' ⟨rfl, ⟨nd, rfl⟩⟩; refine ⟨_, rfl, ?_⟩))
               go_meet
               case rel => exact ⟨_, ((t395 != t352)), vv, H', ⟨by have := HJ18.out; have := HJ49.out; first | omega | exact Nat.le_refl _⟩, ⟨by (with_reducible repeat (first | apply Kd.R_alloc | apply Kd.R_drewN | apply Kd.R_drew)); exact Kd.R_mono HO_14.out (fun _ hk => trivial)⟩, ⟨kb BK337⟩, ⟨be HB⟩⟩
              ·replace c88 := Bool.eq_false_iff.mpr c88
               subst c88
               have H1 : (laws_FnExactAfloatAt.j2 kj49 t381 t380 true) = some r := by rw [if_neg (show ¬ (false = true) by decide)] at H; exact H
               clear H
               have H := H1
               clear H1
               have H' := am H
               clear H
               obtain ⟨Ao91, co91, eo91⟩ := Kd.R_slice HO394.out
               subst eo91
               obtain ⟨Ao92, co92, eo92⟩ := Kd.R_slice HO_10.out
               subst eo92
               go_wp2_with (first | ((with_reducible refine gate_callee (f := 66) rfl ?_); refine gL (some 117) Try.func66 #[.slice Ao91 t392.length co91, .slice Ao92 t349.length co92] ?_; (with_reducible refine (laws_eqInt64S.calls kj49 _ _ t392 _ _ t349 false _ ?side1 ?side2 ?side3 ?side4 A87.out).mono ?_); (case side1 => repeat (first | exact (Kd.R_reads' HO394.out).2.2 | (with_reducible refine Kd.C_alloc ?_ _) | (with_reducible refine Kd.C_drewN ?_ _) | (with_reducible refine Kd.C_drew ?_))); (case side2 => exact (Kd.R_reads' HO394.out).2.1); (case side3 => repeat (first | exact (Kd.R_reads' HO_10.out).2.2 | (with_reducible refine Kd.C_alloc ?_ _) | (with_reducible refine Kd.C_drewN ?_ _) | (with_reducible refine Kd.C_drew ?_))); (case side4 => exact (Kd.R_reads' HO_10.out).2.1); rintro e w' ⟨rfl, ⟨nd, rfl⟩⟩; refine ⟨_, rfl, ?_⟩))
               go_meet
               case rel => exact ⟨_, (true), vv, H', ⟨by have := HJ18.out; have := HJ49.out; first | omega | exact Nat.le_refl _⟩, ⟨by (with_reducible repeat (first | apply Kd.R_alloc | apply Kd.R_drewN | apply Kd.R_drew)); exact Kd.R_mono HO_14.out (fun _ hk => trivial)⟩, ⟨kb BK337⟩, ⟨be HB⟩⟩
             case rest =>
              clear HC77
              try clear c1
              try clear c2
              try clear p2
              try clear c3
              try clear c4
              try clear c5
              try clear c6
              try clear c6b0
              try clear c7
              try clear c8
              try clear c9
              try clear c9b0
              try clear c22
              try clear c26
              try clear c31
              try clear c33
              try clear c35
              try clear c36
              try clear c41
              try clear c44
              try clear c47
              try clear c57
              try clear c59
              try clear c59b0
              try clear c61
              try clear c66
              try clear c67
              try clear c68
              try clear c69
              try clear c69b0
              try clear c72
              try clear c72b0
              try clear c72b1
              try clear c82
              try clear c84
              try clear c86
              try clear c88
              try clear c89
              try clear c90
              try clear c91
              try clear hcz21_0
              try clear hcz21_1
              try clear hcz30_0
              try clear hcz30_1
              try clear hcz80_0
              try clear hcz80_1
              try clear hfz21_0
              try clear hfz21_1
              try clear hfz21_2
              try clear hfz30_0
              try clear hfz30_1
              try clear hfz30_2
              try clear hfz80_0
              try clear hfz80_1
              try clear hfz80_2
              try clear p2
              obtain ⟨kq, x123_76, rfl, HA, HJ76, HO_14, BK337, HB⟩ := hcut
              have hl14_76 := (Kd.R_reads' HO_14.out).1
              rw [hl14_76] at HO_14
              (try simp only [hl14_76])
              (try simp only [hl14_76] at BK337)
              cases kq with
              | zero => exact absurd HA.out (by simp [laws_FnExactAfloatAt.j2])
              | succ kj76 =>
               have H := HA.out
               clear HA
               simp only [laws_FnExactAfloatAt.j2] at H
               by_cases c93 : x123_76 = true
               ·subst c93
                rw [if_pos rfl] at H
                obtain rfl := Option.some.inj H
                go_wp2
                go_ret
                exact ⟨by first | rfl | (simp [errW_none, errW_some] <;> rfl) | (simp [*, errW_none, errW_some] <;> rfl), be HB⟩
               ·replace c93 := Bool.eq_false_iff.mpr c93
                subst c93
                have H1 : ((laws_heldInt64S.f kj76 t381 1).bind fun t397 => (if t397 < 0 then (some false) else (if t397 = t380 then (some true) else (some false)))) = some r := by rw [if_neg (show ¬ (false = true) by decide)] at H; exact H
                clear H
                have H := H1
                clear H1
                replace H := Option.bind_eq_some_iff.mp H
                obtain ⟨t397, A940, H⟩ := H
                try dsimp only at H
                have A94 := am A940
                clear A940
                by_cases c95 : t397 < 0
                ·rw [if_pos c95] at H
                 have c95b0 : decide (t397 < 0) = true := decide_eq_true c95
                 clear c95
                 obtain rfl := Option.some.inj H
                 go_wp2_with (first | ((with_reducible refine gate_callee (f := 68) rfl ?_); refine gL (some 126) Try.func68 #[.slice Ao78 t381.length co78, .int .i64 1] ?_; (with_reducible refine (laws_heldInt64S.calls kj76 _ _ t381 1 t397 _ ?side1 ?side2 A94.out).mono ?_); (case side1 => repeat (first | exact (Kd.R_reads' HO_14.out).2.2 | (with_reducible refine Kd.C_alloc ?_ _) | (with_reducible refine Kd.C_drewN ?_ _) | (with_reducible refine Kd.C_drew ?_))); (case side2 => exact (Kd.R_reads' HO_14.out).2.1); rintro e w' ⟨rfl, ⟨nd, rfl⟩⟩; refine ⟨_, rfl, ?_⟩))
                 go_ret
                 exact ⟨by first | rfl | (simp [errW_none, errW_some] <;> rfl) | (simp [*, errW_none, errW_some] <;> rfl), be HB⟩
                ·rw [if_neg c95] at H
                 have c95b0 : decide (t397 < 0) = false := decide_eq_false c95
                 clear c95
                 by_cases c96 : t397 = t380
                 ·rw [if_pos c96] at H
                  have c96b0 : (t397 == t380) = true := beq_iff_eq.mpr c96
                  have c96b1 : (t397 != t380) = false := bne_eq_false_iff_eq.mpr c96
                  clear c96
                  obtain rfl := Option.some.inj H
                  go_wp2_with (first | ((with_reducible refine gate_callee (f := 68) rfl ?_); refine gL (some 126) Try.func68 #[.slice Ao78 t381.length co78, .int .i64 1] ?_; (with_reducible refine (laws_heldInt64S.calls kj76 _ _ t381 1 t397 _ ?side1 ?side2 A94.out).mono ?_); (case side1 => repeat (first | exact (Kd.R_reads' HO_14.out).2.2 | (with_reducible refine Kd.C_alloc ?_ _) | (with_reducible refine Kd.C_drewN ?_ _) | (with_reducible refine Kd.C_drew ?_))); (case side2 => exact (Kd.R_reads' HO_14.out).2.1); rintro e w' ⟨rfl, ⟨nd, rfl⟩⟩; refine ⟨_, rfl, ?_⟩))
                  go_ret
                  exact ⟨by first | rfl | (simp [errW_none, errW_some] <;> rfl) | (simp [*, errW_none, errW_some] <;> rfl), be HB⟩
                 ·rw [if_neg c96] at H
                  have c96b0 : (t397 == t380) = false := beq_eq_false_iff_ne.mpr c96
                  have c96b1 : (t397 != t380) = true := bne_iff_ne.mpr c96
                  obtain rfl := Option.some.inj H
                  go_wp2_with (first | ((with_reducible refine gate_callee (f := 68) rfl ?_); refine gL (some 126) Try.func68 #[.slice Ao78 t381.length co78, .int .i64 1] ?_; (with_reducible refine (laws_heldInt64S.calls kj76 _ _ t381 1 t397 _ ?side1 ?side2 A94.out).mono ?_); (case side1 => repeat (first | exact (Kd.R_reads' HO_14.out).2.2 | (with_reducible refine Kd.C_alloc ?_ _) | (with_reducible refine Kd.C_drewN ?_ _) | (with_reducible refine Kd.C_drew ?_))); (case side2 => exact (Kd.R_reads' HO_14.out).2.1); rintro e w' ⟨rfl, ⟨nd, rfl⟩⟩; refine ⟨_, rfl, ?_⟩))
                  go_ret
                  exact ⟨by first | rfl | (simp [errW_none, errW_some] <;> rfl) | (simp [*, errW_none, errW_some] <;> rfl), be HB⟩
            ·rw [if_neg c72] at H
             have c72b0 : (t382 == t380) = false := beq_eq_false_iff_ne.mpr c72
             have c72b1 : (t382 != t380) = true := bne_iff_ne.mpr c72
             obtain rfl := Option.some.inj H
             obtain ⟨Ao97, co97, eo97⟩ := Kd.R_slice HO_14.out
             subst eo97
             go_wp2_with (first | ((with_reducible refine gate_callee (f := 67) rfl ?_); refine gL (some 95) Try.func67 #[.slice Ao97 t362.length co97, .int .i64 1] ?_; (with_reducible refine (laws_markInt64S.calls kj49 (fun k_ => some k_ = (.slice Ao97 t362.length co97 : Value).ownBlock) (.slice Ao97 t362.length co97) t362 1 t380 t381 w _ ?side1 ?side2 A67.out).mono ?_); (case side1 => exact be HB); (case side2 => exact Kd.R_tight rfl HO_14.out); rintro e w98 ⟨rfl, hy0, hb, hkp⟩; refine ⟨_, rfl, ?_⟩; replace HO_10 := am (Kd.R_mono (ok' := fun k_ => some k_ ≠ (.slice Ao97 t362.length co97 : Value).ownBlock) (Kd.R_keptB (HO_10.out) hkp (fun k_ hk_ hs_ => (hk_) hs_)) (fun k_ hk_ => hk_.1)); replace BK337 := am (blk_kept (kb BK337) hkp (fun hs_ => (fun e_ => (Kd.R_ne HO_14.out BK337.out (by decide)) e_) hs_)); replace HO_14 := am (Kd.R_reok rfl hy0 (fun k_ e_ => HO_14.out.1 k_ e_)); replace HB := am (hb); (try clear hb); (try clear hkp); (try clear hy0)) | ((with_reducible refine gate_callee (f := 68) rfl ?_); refine goesL_ (some 98) rfl rfl Try.func68 (by kernel_rfl) rfl #[.slice Ao97 t381.length co97, .int .i64 1] rfl (by (try simp only [List.map_toArray, List.map_cons, List.map_nil]); first | done | (rw [show t381.length = t362.length from (Kd.R_reads' HO_14.out).1.symm] <;> rfl) | rfl | (simp only [List.length_drop, List.length_take]; rfl)) ?_; (with_reducible refine (laws_heldInt64S.calls kj49 _ _ t381 1 t382 _ ?side1 ?side2 A68.out).mono ?_); (case side1 => repeat (first | exact (Kd.R_reads' HO_14.out).2.2 | (with_reducible refine Kd.C_alloc ?_ _) | (with_reducible refine Kd.C_drewN ?_ _) | (with_reducible refine Kd.C_drew ?_))); (case side2 => rw [show t381.length = t362.length from (Kd.R_reads' HO_14.out).1.symm]; exact (Kd.R_reads' HO_14.out).2.1); rintro e w' ⟨rfl, ⟨nd, rfl⟩⟩; refine ⟨_, rfl, ?_⟩))
             go_ret
             exact ⟨by first | rfl | (simp [errW_none, errW_some] <;> rfl) | (simp [*, errW_none, errW_some] <;> rfl), be HB⟩
       ·replace c47 := Bool.eq_false_iff.mpr c47
        subst c47
        have H1 : (some false) = some r := by rw [if_neg (show ¬ (false = true) by decide)] at H; exact H
        clear H
        have H := H1
        clear H1
        obtain rfl := Option.some.inj H
        go_wp2_with (first | ((with_reducible refine gate_callee (f := 33) rfl ?_); refine gL (some 66) Try.func33 #[.slice A1 l1.length c1] ?_; (with_reducible refine (laws_toBoatS.calls kj18 _ _ l1 t367 _ ?side1 ?side2 A42.out).mono ?_); (case side1 => repeat (first | exact (Kd.C_below HR1.out HB.out) | (with_reducible refine Kd.C_alloc ?_ _) | (with_reducible refine Kd.C_drewN ?_ _) | (with_reducible refine Kd.C_drew ?_))); (case side2 => exact HC1.out); rintro e w99 ⟨v368, rfl, ho0, hb⟩; refine ⟨_, rfl, ?_⟩; have HO369 := am (Kd.R_lower (Kd.R_new' ho0 (Kd.R_lt (kr HO_12))) (below_size (be HB))); replace HO_10 := am (Kd.R_below (kr HO_10) hb); replace HO_12 := am (Kd.R_elder' (kr HO_12) (Kd.R_base ho0) hb); replace HO_13 := am (Kd.R_below (kr HO_13) hb); replace HO_14 := am (Kd.R_below (kr HO_14) hb); replace BK337 := bB BK337 hb; replace HB := am (below_step (be HB) hb); (try clear hb); (try clear hb2); (try clear hk); (try clear hi); (try clear ho0); obtain ⟨Ao100, co100, eo100⟩ := Kd.R_slice HO369.out; subst eo100) | ((with_reducible refine gate_callee (f := 35) rfl ?_); refine gL (some 67) Try.func35 #[.slice Ao32 t353.length co32, .slice Ao100 t367.length co100] ?_; (with_reducible refine (laws_eqBoatS.calls kj18 _ _ t353 _ _ t367 true _ ?side1 ?side2 ?side3 ?side4 A43.out).mono ?_); (case side1 => repeat (first | exact (Kd.R_reads' HO_12.out).2.2 | (with_reducible refine Kd.C_alloc ?_ _) | (with_reducible refine Kd.C_drewN ?_ _) | (with_reducible refine Kd.C_drew ?_))); (case side2 => exact (Kd.R_reads' HO_12.out).2.1); (case side3 => repeat (first | exact (Kd.R_reads' HO369.out).2.2 | (with_reducible refine Kd.C_alloc ?_ _) | (with_reducible refine Kd.C_drewN ?_ _) | (with_reducible refine Kd.C_drew ?_))); (case side4 => exact (Kd.R_reads' HO369.out).2.1); rintro e w101 ⟨rfl, hb⟩; refine ⟨_, rfl, ?_⟩; replace HO_10 := am (Kd.R_below (kr HO_10) hb); replace HO_12 := am (Kd.R_below (kr HO_12) hb); replace HO_13 := am (Kd.R_below (kr HO_13) hb); replace HO_14 := am (Kd.R_below (kr HO_14) hb); replace HO369 := am (Kd.R_below (kr HO369) hb); replace BK337 := bB BK337 hb; replace HB := am (below_step (be HB) hb); (try clear hb); (try clear hb2); (try clear hk); (try clear hi)) | ((with_reducible refine gate_callee (f := 84) rfl ?_); refine gL (some 71) Try.func84 #[.slice A2 l2.length c2] ?_; (with_reducible refine (laws_toWaterS.calls kj18 _ _ l2 t371 _ ?side1 ?side2 A45.out).mono ?_); (case side1 => repeat (first | exact (Kd.C_below HR2.out HB.out) | (with_reducible refine Kd.C_alloc ?_ _) | (with_reducible refine Kd.C_drewN ?_ _) | (with_reducible refine Kd.C_drew ?_))); (case side2 => exact HC2.out); rintro e w102 ⟨v372, rfl, ho0, hb⟩; refine ⟨_, rfl, ?_⟩; have HO373 := am (Kd.R_lower (Kd.R_new' ho0 (Kd.R_lt (kr HO_13))) (below_size (be HB))); replace HO_10 := am (Kd.R_below (kr HO_10) hb); replace HO_12 := am (Kd.R_below (kr HO_12) hb); replace HO_13 := am (Kd.R_elder' (kr HO_13) (Kd.R_base ho0) hb); replace HO_14 := am (Kd.R_below (kr HO_14) hb); replace HO369 := am (Kd.R_below (kr HO369) hb); replace BK337 := bB BK337 hb; replace HB := am (below_step (be HB) hb); (try clear hb); (try clear hb2); (try clear hk); (try clear hi); (try clear ho0); obtain ⟨Ao103, co103, eo103⟩ := Kd.R_slice HO373.out; subst eo103) | ((with_reducible refine gate_callee (f := 86) rfl ?_); refine gL (some 72) Try.func86 #[.slice Ao33 t356.length co33, .slice Ao103 t371.length co103] ?_; (with_reducible refine (laws_eqWaterS.calls kj18 _ _ t356 _ _ t371 false _ ?side1 ?side2 ?side3 ?side4 A46.out).mono ?_); (case side1 => repeat (first | exact (Kd.R_reads' HO_13.out).2.2 | (with_reducible refine Kd.C_alloc ?_ _) | (with_reducible refine Kd.C_drewN ?_ _) | (with_reducible refine Kd.C_drew ?_))); (case side2 => exact (Kd.R_reads' HO_13.out).2.1); (case side3 => repeat (first | exact (Kd.R_reads' HO373.out).2.2 | (with_reducible refine Kd.C_alloc ?_ _) | (with_reducible refine Kd.C_drewN ?_ _) | (with_reducible refine Kd.C_drew ?_))); (case side4 => exact (Kd.R_reads' HO373.out).2.1); rintro e w104 ⟨rfl, hb⟩; refine ⟨_, rfl, ?_⟩; replace HO_10 := am (Kd.R_below (kr HO_10) hb); replace HO_12 := am (Kd.R_below (kr HO_12) hb); replace HO_13 := am (Kd.R_below (kr HO_13) hb); replace HO_14 := am (Kd.R_below (kr HO_14) hb); replace HO369 := am (Kd.R_below (kr HO369) hb); replace HO373 := am (Kd.R_below (kr HO373) hb); replace BK337 := bB BK337 hb; replace HB := am (below_step (be HB) hb); (try clear hb); (try clear hb2); (try clear hk); (try clear hi)))
        go_ret
        exact ⟨by first | rfl | (simp [errW_none, errW_some] <;> rfl) | (simp [*, errW_none, errW_some] <;> rfl), be HB⟩
      ·replace c44 := Bool.eq_false_iff.mpr c44
       subst c44
       have H1 : (some false) = some r := by rw [if_neg (show ¬ (false = true) by decide)] at H; exact H
       clear H
       have H := H1
       clear H1
       obtain rfl := Option.some.inj H
       go_wp2_with (first | ((with_reducible refine gate_callee (f := 33) rfl ?_); refine gL (some 66) Try.func33 #[.slice A1 l1.length c1] ?_; (with_reducible refine (laws_toBoatS.calls kj18 _ _ l1 t367 _ ?side1 ?side2 A42.out).mono ?_); (case side1 => repeat (first | exact (Kd.C_below HR1.out HB.out) | (with_reducible refine Kd.C_alloc ?_ _) | (with_reducible refine Kd.C_drewN ?_ _) | (with_reducible refine Kd.C_drew ?_))); (case side2 => exact HC1.out); rintro e w105 ⟨v368, rfl, ho0, hb⟩; refine ⟨_, rfl, ?_⟩; have HO369 := am (Kd.R_lower (Kd.R_new' ho0 (Kd.R_lt (kr HO_12))) (below_size (be HB))); replace HO_10 := am (Kd.R_below (kr HO_10) hb); replace HO_12 := am (Kd.R_elder' (kr HO_12) (Kd.R_base ho0) hb); replace HO_13 := am (Kd.R_below (kr HO_13) hb); replace HO_14 := am (Kd.R_below (kr HO_14) hb); replace BK337 := bB BK337 hb; replace HB := am (below_step (be HB) hb); (try clear hb); (try clear hb2); (try clear hk); (try clear hi); (try clear ho0); obtain ⟨Ao106, co106, eo106⟩ := Kd.R_slice HO369.out; subst eo106) | ((with_reducible refine gate_callee (f := 35) rfl ?_); refine gL (some 67) Try.func35 #[.slice Ao32 t353.length co32, .slice Ao106 t367.length co106] ?_; (with_reducible refine (laws_eqBoatS.calls kj18 _ _ t353 _ _ t367 false _ ?side1 ?side2 ?side3 ?side4 A43.out).mono ?_); (case side1 => repeat (first | exact (Kd.R_reads' HO_12.out).2.2 | (with_reducible refine Kd.C_alloc ?_ _) | (with_reducible refine Kd.C_drewN ?_ _) | (with_reducible refine Kd.C_drew ?_))); (case side2 => exact (Kd.R_reads' HO_12.out).2.1); (case side3 => repeat (first | exact (Kd.R_reads' HO369.out).2.2 | (with_reducible refine Kd.C_alloc ?_ _) | (with_reducible refine Kd.C_drewN ?_ _) | (with_reducible refine Kd.C_drew ?_))); (case side4 => exact (Kd.R_reads' HO369.out).2.1); rintro e w107 ⟨rfl, hb⟩; refine ⟨_, rfl, ?_⟩; replace HO_10 := am (Kd.R_below (kr HO_10) hb); replace HO_12 := am (Kd.R_below (kr HO_12) hb); replace HO_13 := am (Kd.R_below (kr HO_13) hb); replace HO_14 := am (Kd.R_below (kr HO_14) hb); replace HO369 := am (Kd.R_below (kr HO369) hb); replace BK337 := bB BK337 hb; replace HB := am (below_step (be HB) hb); (try clear hb); (try clear hb2); (try clear hk); (try clear hi)))
       go_ret
       exact ⟨by first | rfl | (simp [errW_none, errW_some] <;> rfl) | (simp [*, errW_none, errW_some] <;> rfl), be HB⟩

end Go.Proofs.Ytcollbifdfhfoaa.PFnExactAfloatAt
