-- Written by a program out of this seat's translation (functions, and that the code comes to them).
import Derived.Test.YtcollbifdfhfoaaPFnExactAllAfloatx0
import Derived.Test.YtcollbifdfhfoaaPFnExactAllAfloatx1
import Derived.Test.YtcollbifdfhfoaaPFnExactAllAfloatx2
import Derived.Test.YtcollbifdfhfoaaPFnExactAllAfloatx3
import Derived.Test.YtcollbifdfhfoaaPFnExactAllAfloatx4
import Derived.Test.YtcollbifdfhfoaaPFnExactAllAfloatx8
import Derived.Test.YtcollbifdfhfoaaPFnExactAllAfloatx12
namespace Go.Proofs.Ytcollbifdfhfoaa.PFnExactAllAfloat
open Go.RowKit Go.Proofs.YtcollbifdfhfoaaW.PrintWords Go.Proofs.YtcollbifdfhfoaaW.PrintLast Go.Proofs.YtcollbifdfhfoaaW.PrintMore
attribute [local go_sem] max2_int min2_int max_two min_two max_three min_three max_four min_four   -- for this text's walks alone
open Go.Proofs.Ytcollbifdfhfoaa.Bay Go.Proofs.Ytcollbifdfhfoaa.Short
attribute [local go_sem ↓] lv26_eq lv28_eq
attribute [local go_sem] lvv_set lvv_drewN lvv_drew lv26_run BayAt26_set BayAt26_drewN BayAt26_drew lv28_run BayAt28_set BayAt28_drewN BayAt28_drew
set_option linter.unusedVariables false
set_option linter.unusedSimpArgs false

/-! ### laws_FnExactAllAfloat: function 23 -/
mutual
def laws_FnExactAllAfloat.j0 : Nat → List (S34) → List (S145) → List (S82) → Int → List (S38) → List (S103) → List (S82) → Int → Bool → Int → Int → (Nat → Int) → Option (Bool)
 | 0, _, _, _, _, _, _, _, _, _, _, _, _ => none
 | k + 1, x1, x2, x8, x9, x10, x11, x12, x13, x59, x351000, x351001, x351002 => if x59 = true then (some false) else ((laws_toBoatS.f k x1).bind fun t380 => ((laws_eqBoatS.f k x10 t380).bind fun t383 => (if t383 = true then ((laws_toWaterS.f k x2).bind fun t384 => ((laws_eqWaterS.f k x11 t384).bind fun t387 => (if t387 = true then ((laws_markBoatS.f k x10 1).bind fun bt388 => ((laws_markWaterS.f k x11 bt388.1).bind fun bt390 => (if bt390.1 < 0 then (laws_FnExactAllAfloat.j1 k x1 x2 x8 x9 x12 true x351000 x351001 x351002) else ((laws_eqInt64A2S.f k x12 x8).bind fun t392 => (if t392 = true then (laws_FnExactAllAfloat.j1 k x1 x2 x8 x9 x12 (x13 != x9) x351000 x351001 x351002) else (laws_FnExactAllAfloat.j1 k x1 x2 x8 x9 x12 true x351000 x351001 x351002)))))) else (some false)))) else (some false))))
def laws_FnExactAllAfloat.j1 : Nat → List (S34) → List (S145) → List (S82) → Int → List (S82) → Bool → Int → Int → (Nat → Int) → Option (Bool)
 | 0, _, _, _, _, _, _, _, _, _ => none
 | k + 1, x1, x2, x8, x9, x12, x88, x351000, x351001, x351002 => if x88 = true then (some false) else ((laws_markInt64A2S.f k x12 1).bind fun bt393 => ((laws_heldInt64A2S.f k bt393.2 1).bind fun t395 => (if t395 < 0 then (some false) else (if t395 = bt393.1 then ((laws_toBay.f x351000 x351001 x351002).bind fun bt396 => ((laws_toBoatS.f k x1).bind fun t399 => ((laws_toWaterS.f k x2).bind fun t402 => ((impl_AllAfloat.f k bt396.1 bt396.2.1 bt396.2.2 t399 t402).bind fun bt405 => ((laws_eqInt64A2S.f k bt405.1 x8).bind fun t409 => (if t409 = true then (laws_FnExactAllAfloat.j2 k bt393.2 bt393.1 (bt405.2 != x9)) else (laws_FnExactAllAfloat.j2 k bt393.2 bt393.1 true))))))) else (some false)))))
def laws_FnExactAllAfloat.j2 : Nat → List (S82) → Int → Bool → Option (Bool)
 | 0, _, _, _ => none
 | k + 1, x12, x15, x118 => if x118 = true then (some false) else ((laws_heldInt64A2S.f k x12 1).bind fun t410 => (if t410 < 0 then (some false) else (if t410 = x15 then (some true) else (some false))))
end
def laws_FnExactAllAfloat.f (k : Nat) (a0_0 : Int) (a0_1 : Int) (a0_2 : (Nat → Int)) (l1 : List (S34)) (l2 : List (S145)) : Option (Bool) := (laws_szBoatS.f l1 1048576).bind fun t351 => (if t351 < 0 then (some true) else ((laws_szWaterS.f l2 t351).bind fun t352 => (if t352 < 0 then (some true) else ((laws_toBay.f a0_0 a0_1 a0_2).bind fun bt353 => ((laws_toBoatS.f k l1).bind fun t356 => ((laws_toWaterS.f k l2).bind fun t359 => ((spec_AllAfloat.f k bt353.1 bt353.2.1 bt353.2.2 t356 t359).bind fun bt362 => ((laws_toBoatS.f k l1).bind fun t366 => ((laws_toWaterS.f k l2).bind fun t369 => ((laws_toBay.f a0_0 a0_1 a0_2).bind fun bt372 => ((impl_AllAfloat.f k bt372.1 bt372.2.1 bt372.2.2 t366 t369).bind fun bt375 => ((laws_eqInt64A2S.f k bt375.1 bt362.1).bind fun t379 => (if t379 = true then (laws_FnExactAllAfloat.j0 k l1 l2 bt362.1 bt362.2 t366 t369 bt375.1 bt375.2 (bt375.2 != bt362.2) a0_0 a0_1 a0_2) else (laws_FnExactAllAfloat.j0 k l1 l2 bt362.1 bt362.2 t366 t369 bt375.1 bt375.2 true a0_0 a0_1 a0_2))))))))))))))
set_option maxHeartbeats 8000000 in
set_option maxRecDepth 100000 in
theorem laws_FnExactAllAfloat.calls (k : Nat) (a0_0 : Int) (a0_1 : Int) (a0_2 : (Nat → Int)) (A1 : Option Addr) (c1 : Nat) (l1 : List (S34)) (A2 : Option Addr) (c2 : Nat) (l2 : List (S145)) (r : Bool) (w : World) (hr1 : Kd.C k34 w A1 l1.length l1) (hc1 : l1.length ≤ c1) (hr2 : Kd.C k145 w A2 l2.length l2) (hc2 : l2.length ≤ c2) (h : laws_FnExactAllAfloat.f k a0_0 a0_1 a0_2 l1 l2 = some r) :
  Calls Try.prog 23 #[.agg (csBay a0_0 a0_1 a0_2), .slice A1 l1.length c1, .slice A2 l2.length c2] w fun e w' => e = .returned (.bool r) ∧ Below w.heap.size w w' := by
 have hu26 := Try.underlying26
 have HR1 := am hr1
 have HC1 := am hc1
 clear hr1 hc1
 have HR2 := am hr2
 have HC2 := am hc2
 clear hr2 hc2
 have HB := am (Below.refl w.heap.size w)
 have H : ((laws_szBoatS.f l1 1048576).bind fun t351 => (if t351 < 0 then (some true) else ((laws_szWaterS.f l2 t351).bind fun t352 => (if t352 < 0 then (some true) else ((laws_toBay.f a0_0 a0_1 a0_2).bind fun bt353 => ((laws_toBoatS.f k l1).bind fun t356 => ((laws_toWaterS.f k l2).bind fun t359 => ((spec_AllAfloat.f k bt353.1 bt353.2.1 bt353.2.2 t356 t359).bind fun bt362 => ((laws_toBoatS.f k l1).bind fun t366 => ((laws_toWaterS.f k l2).bind fun t369 => ((laws_toBay.f a0_0 a0_1 a0_2).bind fun bt372 => ((impl_AllAfloat.f k bt372.1 bt372.2.1 bt372.2.2 t366 t369).bind fun bt375 => ((laws_eqInt64A2S.f k bt375.1 bt362.1).bind fun t379 => (if t379 = true then (laws_FnExactAllAfloat.j0 k l1 l2 bt362.1 bt362.2 t366 t369 bt375.1 bt375.2 (bt375.2 != bt362.2) a0_0 a0_1 a0_2) else (laws_FnExactAllAfloat.j0 k l1 l2 bt362.1 bt362.2 t366 t369 bt375.1 bt375.2 true a0_0 a0_1 a0_2))))))))))))))) = some r := h
 clear h
 replace H := Option.bind_eq_some_iff.mp H
 obtain ⟨t351, A40, H⟩ := H
 try dsimp only at H
 have A4 := am A40
 clear A40
 by_cases c5 : t351 < 0
 ·rw [if_pos c5] at H
  have c5b0 : decide (t351 < 0) = true := decide_eq_true c5
  clear c5
  obtain rfl := Option.some.inj H
  go_enter Try.func23, Try.ntmps23
  go_wp2_with (first | ((with_reducible refine gate_dst (N := 3) rfl ?_); refine bxe (N := 3) (cs := (csBay a0_0 a0_1 a0_2)) (t := 26) ?_; intro gb350 hg w6 hbox hb; have BK350 := am (hbox); have GW350 := am (gN hg (below_size (be HB))); have GE350 := am (gN hg (below_size (be HB))); replace HB := am (below_step (be HB) hb); clear hb hbox hg) | ((with_reducible refine gate_callee (f := 31) rfl ?_); refine gL (some 21) Try.func31 #[.slice A1 l1.length c1, .int .i64 1048576] ?_; (with_reducible refine (laws_szBoatS.calls _ _ l1 1048576 t351 _ ?side1 ?side2 A4.out).mono ?_); (case side1 => repeat (first | exact (Kd.C_below HR1.out HB.out) | (with_reducible refine Kd.C_alloc ?_ _) | (with_reducible refine Kd.C_drewN ?_ _) | (with_reducible refine Kd.C_drew ?_))); (case side2 => exact HC1.out); rintro e w' ⟨rfl, ⟨nd, rfl⟩⟩; refine ⟨_, rfl, ?_⟩))
  go_ret
  exact ⟨by first | rfl | (simp [errW_none, errW_some] <;> rfl) | (simp [*, errW_none, errW_some] <;> rfl), be HB⟩
 ·rw [if_neg c5] at H
  have c5b0 : decide (t351 < 0) = false := decide_eq_false c5
  clear c5
  replace H := Option.bind_eq_some_iff.mp H
  obtain ⟨t352, A70, H⟩ := H
  try dsimp only at H
  have A7 := am A70
  clear A70
  by_cases c8 : t352 < 0
  ·rw [if_pos c8] at H
   have c8b0 : decide (t352 < 0) = true := decide_eq_true c8
   clear c8
   obtain rfl := Option.some.inj H
   go_enter Try.func23, Try.ntmps23
   go_wp2_with (first | ((with_reducible refine gate_dst (N := 3) rfl ?_); refine bxe (N := 3) (cs := (csBay a0_0 a0_1 a0_2)) (t := 26) ?_; intro gb350 hg w9 hbox hb; have BK350 := am (hbox); have GW350 := am (gN hg (below_size (be HB))); have GE350 := am (gN hg (below_size (be HB))); replace HB := am (below_step (be HB) hb); clear hb hbox hg) | ((with_reducible refine gate_callee (f := 31) rfl ?_); refine gL (some 21) Try.func31 #[.slice A1 l1.length c1, .int .i64 1048576] ?_; (with_reducible refine (laws_szBoatS.calls _ _ l1 1048576 t351 _ ?side1 ?side2 A4.out).mono ?_); (case side1 => repeat (first | exact (Kd.C_below HR1.out HB.out) | (with_reducible refine Kd.C_alloc ?_ _) | (with_reducible refine Kd.C_drewN ?_ _) | (with_reducible refine Kd.C_drew ?_))); (case side2 => exact HC1.out); rintro e w' ⟨rfl, ⟨nd, rfl⟩⟩; refine ⟨_, rfl, ?_⟩) | ((with_reducible refine gate_callee (f := 82) rfl ?_); refine gL (some 26) Try.func82 #[.slice A2 l2.length c2, .int .i64 t351] ?_; (with_reducible refine (laws_szWaterS.calls _ _ l2 t351 t352 _ ?side1 ?side2 A7.out).mono ?_); (case side1 => repeat (first | exact (Kd.C_below HR2.out (be HB)) | (with_reducible refine Kd.C_alloc ?_ _) | (with_reducible refine Kd.C_drewN ?_ _) | (with_reducible refine Kd.C_drew ?_))); (case side2 => exact HC2.out); rintro e w' ⟨rfl, ⟨nd, rfl⟩⟩; refine ⟨_, rfl, ?_⟩))
   go_ret
   exact ⟨by first | rfl | (simp [errW_none, errW_some] <;> rfl) | (simp [*, errW_none, errW_some] <;> rfl), be HB⟩
  ·rw [if_neg c8] at H
   have c8b0 : decide (t352 < 0) = false := decide_eq_false c8
   clear c8
   replace H := Option.bind_eq_some_iff.mp H
   obtain ⟨⟨t353, t354, t355⟩, A100, H⟩ := H
   try dsimp only at H
   have A10 := am A100
   clear A100
   replace H := Option.bind_eq_some_iff.mp H
   obtain ⟨t356, A110, H⟩ := H
   try dsimp only at H
   have A11 := am A110
   clear A110
   replace H := Option.bind_eq_some_iff.mp H
   obtain ⟨t359, A120, H⟩ := H
   try dsimp only at H
   have A12 := am A120
   clear A120
   replace H := Option.bind_eq_some_iff.mp H
   obtain ⟨⟨t362, t365⟩, A130, H⟩ := H
   try dsimp only at H
   have A13 := am A130
   clear A130
   replace H := Option.bind_eq_some_iff.mp H
   obtain ⟨t366, A140, H⟩ := H
   try dsimp only at H
   have A14 := am A140
   clear A140
   replace H := Option.bind_eq_some_iff.mp H
   obtain ⟨t369, A150, H⟩ := H
   try dsimp only at H
   have A15 := am A150
   clear A150
   replace H := Option.bind_eq_some_iff.mp H
   obtain ⟨⟨t372, t373, t374⟩, A160, H⟩ := H
   try dsimp only at H
   have A16 := am A160
   clear A160
   replace H := Option.bind_eq_some_iff.mp H
   obtain ⟨⟨t375, t378⟩, A170, H⟩ := H
   try dsimp only at H
   have A17 := am A170
   clear A170
   have HC18 := am H
   clear H
   go_enter Try.func23, Try.ntmps23
   go_upto_region 12 with (first | ((with_reducible refine gate_dst (N := 3) rfl ?_); refine bxe (N := 3) (cs := (csBay a0_0 a0_1 a0_2)) (t := 26) ?_; intro gb350 hg w19 hbox hb; have BK350 := am (hbox); have GW350 := am (gN hg (below_size (be HB))); have GE350 := am (gN hg (below_size (be HB))); replace HB := am (below_step (be HB) hb); clear hb hbox hg) | ((with_reducible refine gate_callee (f := 31) rfl ?_); refine gL (some 21) Try.func31 #[.slice A1 l1.length c1, .int .i64 1048576] ?_; (with_reducible refine (laws_szBoatS.calls _ _ l1 1048576 t351 _ ?side1 ?side2 A4.out).mono ?_); (case side1 => repeat (first | exact (Kd.C_below HR1.out HB.out) | (with_reducible refine Kd.C_alloc ?_ _) | (with_reducible refine Kd.C_drewN ?_ _) | (with_reducible refine Kd.C_drew ?_))); (case side2 => exact HC1.out); rintro e w' ⟨rfl, ⟨nd, rfl⟩⟩; refine ⟨_, rfl, ?_⟩) | ((with_reducible refine gate_callee (f := 82) rfl ?_); refine gL (some 26) Try.func82 #[.slice A2 l2.length c2, .int .i64 t351] ?_; (with_reducible refine (laws_szWaterS.calls _ _ l2 t351 t352 _ ?side1 ?side2 A7.out).mono ?_); (case side1 => repeat (first | exact (Kd.C_below HR2.out (be HB)) | (with_reducible refine Kd.C_alloc ?_ _) | (with_reducible refine Kd.C_drewN ?_ _) | (with_reducible refine Kd.C_drew ?_))); (case side2 => exact HC2.out); rintro e w' ⟨rfl, ⟨nd, rfl⟩⟩; refine ⟨_, rfl, ?_⟩; obtain ⟨hcz20_0, hcz20_1, hwz20, haz20, hyz20, hvz20, hfz20_0, hfz20_1, hfz20_2⟩ := bb26 BK350) | ((with_reducible refine gate_callee (f := 26) rfl ?_); refine gL (some 31) Try.func26 #[.agg (csBay a0_0 a0_1 a0_2)] ?_; (with_reducible refine (laws_toBay.calls a0_0 a0_1 a0_2 t353 t354 t355 _ A10.out).mono ?_); rintro e w21 ⟨rfl, hb⟩; refine ⟨_, rfl, ?_⟩; replace BK350 := bB BK350 hb; replace HB := am (below_step (be HB) hb); (try clear hb); (try clear hb2); (try clear hk); (try clear hi)) | ((with_reducible refine gate_callee (f := 33) rfl ?_); refine gL (some 33) Try.func33 #[.slice A1 l1.length c1] ?_; (with_reducible refine (laws_toBoatS.calls k _ _ l1 t356 _ ?side1 ?side2 A11.out).mono ?_); (case side1 => repeat (first | exact (Kd.C_below HR1.out HB.out) | (with_reducible refine Kd.C_alloc ?_ _) | (with_reducible refine Kd.C_drewN ?_ _) | (with_reducible refine Kd.C_drew ?_))); (case side2 => exact HC1.out); rintro e w22 ⟨v357, rfl, ho0, hb⟩; refine ⟨_, rfl, ?_⟩; have HO358 := am (Kd.R_lower ho0 (below_size (be HB))); replace BK350 := bB BK350 hb; replace HB := am (below_step (be HB) hb); (try clear hb); (try clear hb2); (try clear hk); (try clear hi); (try clear ho0)) | ((with_reducible refine gate_callee (f := 84) rfl ?_); refine gL (some 35) Try.func84 #[.slice A2 l2.length c2] ?_; (with_reducible refine (laws_toWaterS.calls k _ _ l2 t359 _ ?side1 ?side2 A12.out).mono ?_); (case side1 => repeat (first | exact (Kd.C_below HR2.out HB.out) | (with_reducible refine Kd.C_alloc ?_ _) | (with_reducible refine Kd.C_drewN ?_ _) | (with_reducible refine Kd.C_drew ?_))); (case side2 => exact HC2.out); rintro e w23 ⟨v360, rfl, ho0, hb⟩; refine ⟨_, rfl, ?_⟩; have HO361 := am (Kd.R_lower ho0 (below_size (be HB))); replace HO358 := am (Kd.R_below (kr HO358) hb); replace BK350 := bB BK350 hb; replace HB := am (below_step (be HB) hb); (try clear hb); (try clear hb2); (try clear hk); (try clear hi); (try clear ho0); obtain ⟨Ao24, co24, eo24⟩ := Kd.R_slice HO358.out; subst eo24; obtain ⟨Ao25, co25, eo25⟩ := Kd.R_slice HO361.out; subst eo25) | ((with_reducible refine gate_callee (f := 92) rfl ?_); refine gL (some 36) Try.func92 #[.agg (csBay t353 t354 t355), .slice Ao24 t356.length co24, .slice Ao25 t359.length co25] ?_; (with_reducible refine (spec_AllAfloat.calls k t353 t354 t355 _ _ t356 _ _ t359 t362 t365 _ ?side1 ?side2 ?side3 ?side4 A13.out).mono ?_); (case side1 => repeat (first | exact (Kd.R_reads' HO358.out).2.2 | (with_reducible refine Kd.C_alloc ?_ _) | (with_reducible refine Kd.C_drewN ?_ _) | (with_reducible refine Kd.C_drew ?_))); (case side2 => exact (Kd.R_reads' HO358.out).2.1); (case side3 => repeat (first | exact (Kd.R_reads' HO361.out).2.2 | (with_reducible refine Kd.C_alloc ?_ _) | (with_reducible refine Kd.C_drewN ?_ _) | (with_reducible refine Kd.C_drew ?_))); (case side4 => exact (Kd.R_reads' HO361.out).2.1); rintro e w26 ⟨v363, rfl, ho0, hb⟩; refine ⟨_, rfl, ?_⟩; have HO364 := am (Kd.R_lower ho0 (below_size (be HB))); replace HO358 := am (Kd.R_below (kr HO358) hb); replace HO361 := am (Kd.R_below (kr HO361) hb); replace BK350 := bB BK350 hb; replace HB := am (below_step (be HB) hb); (try clear hb); (try clear hb2); (try clear hk); (try clear hi); (try clear ho0)) | ((with_reducible refine gate_callee (f := 33) rfl ?_); refine gL (some 40) Try.func33 #[.slice A1 l1.length c1] ?_; (with_reducible refine (laws_toBoatS.calls k _ _ l1 t366 _ ?side1 ?side2 A14.out).mono ?_); (case side1 => repeat (first | exact (Kd.C_below HR1.out HB.out) | (with_reducible refine Kd.C_alloc ?_ _) | (with_reducible refine Kd.C_drewN ?_ _) | (with_reducible refine Kd.C_drew ?_))); (case side2 => exact HC1.out); rintro e w27 ⟨v367, rfl, ho0, hb⟩; refine ⟨_, rfl, ?_⟩; have HO368 := am (Kd.R_lower (Kd.R_new' ho0 (Kd.R_lt (kr HO358))) (below_size (be HB))); replace HO358 := am (Kd.R_elder' (kr HO358) (Kd.R_base ho0) hb); replace HO361 := am (Kd.R_below (kr HO361) hb); replace HO364 := am (Kd.R_below (kr HO364) hb); replace BK350 := bB BK350 hb; replace HB := am (below_step (be HB) hb); (try clear hb); (try clear hb2); (try clear hk); (try clear hi); (try clear ho0)) | ((with_reducible refine gate_callee (f := 84) rfl ?_); refine gL (some 42) Try.func84 #[.slice A2 l2.length c2] ?_; (with_reducible refine (laws_toWaterS.calls k _ _ l2 t369 _ ?side1 ?side2 A15.out).mono ?_); (case side1 => repeat (first | exact (Kd.C_below HR2.out HB.out) | (with_reducible refine Kd.C_alloc ?_ _) | (with_reducible refine Kd.C_drewN ?_ _) | (with_reducible refine Kd.C_drew ?_))); (case side2 => exact HC2.out); rintro e w28 ⟨v370, rfl, ho0, hb⟩; refine ⟨_, rfl, ?_⟩; have HO371 := am (Kd.R_lower (Kd.R_new' ho0 (Kd.R_lt (kr HO361))) (below_size (be HB))); replace HO358 := am (Kd.R_below (kr HO358) hb); replace HO361 := am (Kd.R_elder' (kr HO361) (Kd.R_base ho0) hb); replace HO364 := am (Kd.R_below (kr HO364) hb); replace HO368 := am (Kd.R_below (kr HO368) hb); replace BK350 := bB BK350 hb; replace HB := am (below_step (be HB) hb); (try clear hb); (try clear hb2); (try clear hk); (try clear hi); (try clear ho0); obtain ⟨hcz29_0, hcz29_1, hwz29, haz29, hyz29, hvz29, hfz29_0, hfz29_1, hfz29_2⟩ := bb26 BK350) | ((with_reducible refine gate_callee (f := 26) rfl ?_); refine gL (some 45) Try.func26 #[.agg (csBay a0_0 a0_1 a0_2)] ?_; (with_reducible refine (laws_toBay.calls a0_0 a0_1 a0_2 t372 t373 t374 _ A16.out).mono ?_); rintro e w30 ⟨rfl, hb⟩; refine ⟨_, rfl, ?_⟩; replace HO358 := am (Kd.R_below (kr HO358) hb); replace HO361 := am (Kd.R_below (kr HO361) hb); replace HO364 := am (Kd.R_below (kr HO364) hb); replace HO368 := am (Kd.R_below (kr HO368) hb); replace HO371 := am (Kd.R_below (kr HO371) hb); replace BK350 := bB BK350 hb; replace HB := am (below_step (be HB) hb); (try clear hb); (try clear hb2); (try clear hk); (try clear hi); obtain ⟨Ao31, co31, eo31⟩ := Kd.R_slice HO368.out; subst eo31; obtain ⟨Ao32, co32, eo32⟩ := Kd.R_slice HO371.out; subst eo32) | ((with_reducible refine gate_callee (f := 93) rfl ?_); refine gL (some 48) Try.func93 #[.agg (csBay t372 t373 t374), .slice Ao31 t366.length co31, .slice Ao32 t369.length co32] ?_; (with_reducible refine (impl_AllAfloat.calls k t372 t373 t374 _ _ t366 _ _ t369 t375 t378 _ ?side1 ?side2 ?side3 ?side4 A17.out).mono ?_); (case side1 => repeat (first | exact (Kd.R_reads' HO368.out).2.2 | (with_reducible refine Kd.C_alloc ?_ _) | (with_reducible refine Kd.C_drewN ?_ _) | (with_reducible refine Kd.C_drew ?_))); (case side2 => exact (Kd.R_reads' HO368.out).2.1); (case side3 => repeat (first | exact (Kd.R_reads' HO371.out).2.2 | (with_reducible refine Kd.C_alloc ?_ _) | (with_reducible refine Kd.C_drewN ?_ _) | (with_reducible refine Kd.C_drew ?_))); (case side4 => exact (Kd.R_reads' HO371.out).2.1); rintro e w33 ⟨v376, rfl, ho0, hb⟩; refine ⟨_, rfl, ?_⟩; have HO377 := am (Kd.R_lower (Kd.R_new' ho0 (Kd.R_lt (kr HO364))) (below_size (be HB))); replace HO358 := am (Kd.R_below (kr HO358) hb); replace HO361 := am (Kd.R_below (kr HO361) hb); replace HO364 := am (Kd.R_elder' (kr HO364) (Kd.R_base ho0) hb); replace HO368 := am (Kd.R_below (kr HO368) hb); replace HO371 := am (Kd.R_below (kr HO371) hb); replace BK350 := bB BK350 hb; replace HB := am (below_step (be HB) hb); (try clear hb); (try clear hb2); (try clear hk); (try clear hi); (try clear ho0)))
   (try simp only [Act.put, List.setIfInBounds_toArray, List.set_cons_zero, List.set_cons_succ])
   go_cut [59] (fun v59 wc => ∃ (kq : Nat) (x59_17 : Bool), v59 = .bool x59_17 ∧ Aside0 (laws_FnExactAllAfloat.j0 kq l1 l2 t362 t365 t366 t369 t375 t378 x59_17 a0_0 a0_1 a0_2 = some r) ∧ Aside0 (kq ≤ k) ∧ Aside0 (Kd.R k82 82 wc w.heap.size (fun k_ => some k_ ≠ (v376 : Value).ownBlock) v363 t362) ∧ Aside0 (Kd.R k38 38 wc w.heap.size (fun _ => True) (.slice Ao31 t366.length co31) t366) ∧ Aside0 (Kd.R k103 103 wc w.heap.size (fun _ => True) (.slice Ao32 t369.length co32) t369) ∧ Aside0 (Kd.R k82 82 wc w.heap.size (fun k_ => some k_ ≠ (v363 : Value).ownBlock) v376 t375) ∧ Aside0 (wc.heap[gb350]? = some (.cells (csBay a0_0 a0_1 a0_2) 26 (0, 0))) ∧ Aside0 (Below w.heap.size w wc))
   case first =>
    have H := HC18.out
    clear HC18
    replace H := Option.bind_eq_some_iff.mp H
    obtain ⟨t379, A340, H⟩ := H
    try dsimp only at H
    have A34 := am A340
    clear A340
    by_cases c35 : t379 = true
    ·subst c35
     rw [if_pos rfl] at H
     have H' := am H
     clear H
     obtain ⟨Ao36, co36, eo36⟩ := Kd.R_slice HO377.out
     subst eo36
     obtain ⟨Ao37, co37, eo37⟩ := Kd.R_slice HO364.out
     subst eo37
     go_wp2_with (first | ((with_reducible refine gate_callee (f := 56) rfl ?_); refine gL (some 53) Try.func56 #[.slice Ao36 t375.length co36, .slice Ao37 t362.length co37] ?_; (with_reducible refine (laws_eqInt64A2S.calls k _ _ t375 _ _ t362 true _ ?side1 ?side2 ?side3 ?side4 A34.out).mono ?_); (case side1 => repeat (first | exact (Kd.R_reads' HO377.out).2.2 | (with_reducible refine Kd.C_alloc ?_ _) | (with_reducible refine Kd.C_drewN ?_ _) | (with_reducible refine Kd.C_drew ?_))); (case side2 => exact (Kd.R_reads' HO377.out).2.1); (case side3 => repeat (first | exact (Kd.R_reads' HO364.out).2.2 | (with_reducible refine Kd.C_alloc ?_ _) | (with_reducible refine Kd.C_drewN ?_ _) | (with_reducible refine Kd.C_drew ?_))); (case side4 => exact (Kd.R_reads' HO364.out).2.1); rintro e w38 ⟨rfl, hb⟩; refine ⟨_, rfl, ?_⟩; replace HO358 := am (Kd.R_below (kr HO358) hb); replace HO361 := am (Kd.R_below (kr HO361) hb); replace HO364 := am (Kd.R_below (kr HO364) hb); replace HO368 := am (Kd.R_below (kr HO368) hb); replace HO371 := am (Kd.R_below (kr HO371) hb); replace HO377 := am (Kd.R_below (kr HO377) hb); replace BK350 := bB BK350 hb; replace HB := am (below_step (be HB) hb); (try clear hb); (try clear hb2); (try clear hk); (try clear hi)))
     go_meet
     case rel => exact ⟨_, ((t378 != t365)), vx, H', ⟨by first | omega | exact Nat.le_refl _⟩, ⟨by (with_reducible repeat (first | apply Kd.R_alloc | apply Kd.R_drewN | apply Kd.R_drew)); exact Kd.R_mono HO364.out (fun _ hk => hk.2)⟩, ⟨by (with_reducible repeat (first | apply Kd.R_alloc | apply Kd.R_drewN | apply Kd.R_drew)); exact Kd.R_mono HO368.out (fun _ hk => trivial)⟩, ⟨by (with_reducible repeat (first | apply Kd.R_alloc | apply Kd.R_drewN | apply Kd.R_drew)); exact Kd.R_mono HO371.out (fun _ hk => trivial)⟩, ⟨by (with_reducible repeat (first | apply Kd.R_alloc | apply Kd.R_drewN | apply Kd.R_drew)); exact Kd.R_mono HO377.out (fun _ hk => hk.2)⟩, ⟨kb BK350⟩, ⟨be HB⟩⟩
    ·replace c35 := Bool.eq_false_iff.mpr c35
     subst c35
     have H1 : (laws_FnExactAllAfloat.j0 k l1 l2 t362 t365 t366 t369 t375 t378 true a0_0 a0_1 a0_2) = some r := by rw [if_neg (show ¬ (false = true) by decide)] at H; exact H
     clear H
     have H := H1
     clear H1
     have H' := am H
     clear H
     obtain ⟨Ao39, co39, eo39⟩ := Kd.R_slice HO377.out
     subst eo39
     obtain ⟨Ao40, co40, eo40⟩ := Kd.R_slice HO364.out
     subst eo40
     go_wp2_with (first | ((with_reducible refine gate_callee (f := 56) rfl ?_); refine gL (some 53) Try.func56 #[.slice Ao39 t375.length co39, .slice Ao40 t362.length co40] ?_; (with_reducible refine (laws_eqInt64A2S.calls k _ _ t375 _ _ t362 false _ ?side1 ?side2 ?side3 ?side4 A34.out).mono ?_); (case side1 => repeat (first | exact (Kd.R_reads' HO377.out).2.2 | (with_reducible refine Kd.C_alloc ?_ _) | (with_reducible refine Kd.C_drewN ?_ _) | (with_reducible refine Kd.C_drew ?_))); (case side2 => exact (Kd.R_reads' HO377.out).2.1); (case side3 => repeat (first | exact (Kd.R_reads' HO364.out).2.2 | (with_reducible refine Kd.C_alloc ?_ _) | (with_reducible refine Kd.C_drewN ?_ _) | (with_reducible refine Kd.C_drew ?_))); (case side4 => exact (Kd.R_reads' HO364.out).2.1); rintro e w41 ⟨rfl, hb⟩; refine ⟨_, rfl, ?_⟩; replace HO358 := am (Kd.R_below (kr HO358) hb); replace HO361 := am (Kd.R_below (kr HO361) hb); replace HO364 := am (Kd.R_below (kr HO364) hb); replace HO368 := am (Kd.R_below (kr HO368) hb); replace HO371 := am (Kd.R_below (kr HO371) hb); replace HO377 := am (Kd.R_below (kr HO377) hb); replace BK350 := bB BK350 hb; replace HB := am (below_step (be HB) hb); (try clear hb); (try clear hb2); (try clear hk); (try clear hi)))
     go_meet
     case rel => exact ⟨_, (true), vx, H', ⟨by first | omega | exact Nat.le_refl _⟩, ⟨by (with_reducible repeat (first | apply Kd.R_alloc | apply Kd.R_drewN | apply Kd.R_drew)); exact Kd.R_mono HO364.out (fun _ hk => hk.2)⟩, ⟨by (with_reducible repeat (first | apply Kd.R_alloc | apply Kd.R_drewN | apply Kd.R_drew)); exact Kd.R_mono HO368.out (fun _ hk => trivial)⟩, ⟨by (with_reducible repeat (first | apply Kd.R_alloc | apply Kd.R_drewN | apply Kd.R_drew)); exact Kd.R_mono HO371.out (fun _ hk => trivial)⟩, ⟨by (with_reducible repeat (first | apply Kd.R_alloc | apply Kd.R_drewN | apply Kd.R_drew)); exact Kd.R_mono HO377.out (fun _ hk => hk.2)⟩, ⟨kb BK350⟩, ⟨be HB⟩⟩
   case rest =>
    clear HC18
    try clear c1
    try clear c2
    try clear p2
    try clear c3
    try clear c5
    try clear c5b0
    try clear c8
    try clear c8b0
    try clear c9
    try clear c23
    try clear c26
    try clear c31
    try clear c33
    try clear c35
    try clear hcz20_0
    try clear hcz20_1
    try clear hcz29_0
    try clear hcz29_1
    try clear hfz20_0
    try clear hfz20_1
    try clear hfz20_2
    try clear hfz29_0
    try clear hfz29_1
    try clear hfz29_2
    obtain ⟨kq, x59_17, rfl, HA, HJ17, HO_8, HO_10, HO_11, HO_12, BK350, HB⟩ := hcut
    cases kq with
    | zero => exact absurd HA.out (by simp [laws_FnExactAllAfloat.j0])
    | succ kj17 =>
     have H := HA.out
     clear HA
     simp only [laws_FnExactAllAfloat.j0] at H
     by_cases c42 : x59_17 = true
     ·subst c42
      rw [if_pos rfl] at H
      obtain rfl := Option.some.inj H
      go_wp2
      go_ret
      exact ⟨by first | rfl | (simp [errW_none, errW_some] <;> rfl) | (simp [*, errW_none, errW_some] <;> rfl), be HB⟩
     ·replace c42 := Bool.eq_false_iff.mpr c42
      subst c42
      have H1 : ((laws_toBoatS.f kj17 l1).bind fun t380 => ((laws_eqBoatS.f kj17 t366 t380).bind fun t383 => (if t383 = true then ((laws_toWaterS.f kj17 l2).bind fun t384 => ((laws_eqWaterS.f kj17 t369 t384).bind fun t387 => (if t387 = true then ((laws_markBoatS.f kj17 t366 1).bind fun bt388 => ((laws_markWaterS.f kj17 t369 bt388.1).bind fun bt390 => (if bt390.1 < 0 then (laws_FnExactAllAfloat.j1 kj17 l1 l2 t362 t365 t375 true a0_0 a0_1 a0_2) else ((laws_eqInt64A2S.f kj17 t375 t362).bind fun t392 => (if t392 = true then (laws_FnExactAllAfloat.j1 kj17 l1 l2 t362 t365 t375 (t378 != t365) a0_0 a0_1 a0_2) else (laws_FnExactAllAfloat.j1 kj17 l1 l2 t362 t365 t375 true a0_0 a0_1 a0_2)))))) else (some false)))) else (some false)))) = some r := by rw [if_neg (show ¬ (false = true) by decide)] at H; exact H
      clear H
      have H := H1
      clear H1
      replace H := Option.bind_eq_some_iff.mp H
      obtain ⟨t380, A430, H⟩ := H
      try dsimp only at H
      have A43 := am A430
      clear A430
      replace H := Option.bind_eq_some_iff.mp H
      obtain ⟨t383, A440, H⟩ := H
      try dsimp only at H
      have A44 := am A440
      clear A440
      by_cases c45 : t383 = true
      ·subst c45
       rw [if_pos rfl] at H
       replace H := Option.bind_eq_some_iff.mp H
       obtain ⟨t384, A460, H⟩ := H
       try dsimp only at H
       have A46 := am A460
       clear A460
       replace H := Option.bind_eq_some_iff.mp H
       obtain ⟨t387, A470, H⟩ := H
       try dsimp only at H
       have A47 := am A470
       clear A470
       by_cases c48 : t387 = true
       ·subst c48
        rw [if_pos rfl] at H
        replace H := Option.bind_eq_some_iff.mp H
        obtain ⟨⟨t388, t389⟩, A490, H⟩ := H
        try dsimp only at H
        have A49 := am A490
        clear A490
        replace H := Option.bind_eq_some_iff.mp H
        obtain ⟨⟨t390, t391⟩, A500, H⟩ := H
        try dsimp only at H
        have A50 := am A500
        clear A500
        have HC51 := am H
        clear H
        go_upto_region 21 with (first | ((with_reducible refine gate_callee (f := 33) rfl ?_); refine gL (some 62) Try.func33 #[.slice A1 l1.length c1] ?_; (with_reducible refine (laws_toBoatS.calls kj17 _ _ l1 t380 _ ?side1 ?side2 A43.out).mono ?_); (case side1 => repeat (first | exact (Kd.C_below HR1.out HB.out) | (with_reducible refine Kd.C_alloc ?_ _) | (with_reducible refine Kd.C_drewN ?_ _) | (with_reducible refine Kd.C_drew ?_))); (case side2 => exact HC1.out); rintro e w52 ⟨v381, rfl, ho0, hb⟩; refine ⟨_, rfl, ?_⟩; have HO382 := am (Kd.R_lower (Kd.R_new' ho0 (Kd.R_lt (kr HO_10))) (below_size (be HB))); replace HO_8 := am (Kd.R_below (kr HO_8) hb); replace HO_10 := am (Kd.R_elder' (kr HO_10) (Kd.R_base ho0) hb); replace HO_11 := am (Kd.R_below (kr HO_11) hb); replace HO_12 := am (Kd.R_below (kr HO_12) hb); replace BK350 := bB BK350 hb; replace HB := am (below_step (be HB) hb); (try clear hb); (try clear hb2); (try clear hk); (try clear hi); (try clear ho0); obtain ⟨Ao53, co53, eo53⟩ := Kd.R_slice HO382.out; subst eo53) | ((with_reducible refine gate_callee (f := 35) rfl ?_); refine gL (some 63) Try.func35 #[.slice Ao31 t366.length co31, .slice Ao53 t380.length co53] ?_; (with_reducible refine (laws_eqBoatS.calls kj17 _ _ t366 _ _ t380 true _ ?side1 ?side2 ?side3 ?side4 A44.out).mono ?_); (case side1 => repeat (first | exact (Kd.R_reads' HO_10.out).2.2 | (with_reducible refine Kd.C_alloc ?_ _) | (with_reducible refine Kd.C_drewN ?_ _) | (with_reducible refine Kd.C_drew ?_))); (case side2 => exact (Kd.R_reads' HO_10.out).2.1); (case side3 => repeat (first | exact (Kd.R_reads' HO382.out).2.2 | (with_reducible refine Kd.C_alloc ?_ _) | (with_reducible refine Kd.C_drewN ?_ _) | (with_reducible refine Kd.C_drew ?_))); (case side4 => exact (Kd.R_reads' HO382.out).2.1); rintro e w54 ⟨rfl, hb⟩; refine ⟨_, rfl, ?_⟩; replace HO_8 := am (Kd.R_below (kr HO_8) hb); replace HO_10 := am (Kd.R_below (kr HO_10) hb); replace HO_11 := am (Kd.R_below (kr HO_11) hb); replace HO_12 := am (Kd.R_below (kr HO_12) hb); replace HO382 := am (Kd.R_below (kr HO382) hb); replace BK350 := bB BK350 hb; replace HB := am (below_step (be HB) hb); (try clear hb); (try clear hb2); (try clear hk); (try clear hi)) | ((with_reducible refine gate_callee (f := 84) rfl ?_); refine gL (some 67) Try.func84 #[.slice A2 l2.length c2] ?_; (with_reducible refine (laws_toWaterS.calls kj17 _ _ l2 t384 _ ?side1 ?side2 A46.out).mono ?_); (case side1 => repeat (first | exact (Kd.C_below HR2.out HB.out) | (with_reducible refine Kd.C_alloc ?_ _) | (with_reducible refine Kd.C_drewN ?_ _) | (with_reducible refine Kd.C_drew ?_))); (case side2 => exact HC2.out); rintro e w55 ⟨v385, rfl, ho0, hb⟩; refine ⟨_, rfl, ?_⟩; have HO386 := am (Kd.R_lower (Kd.R_new' ho0 (Kd.R_lt (kr HO_11))) (below_size (be HB))); replace HO_8 := am (Kd.R_below (kr HO_8) hb); replace HO_10 := am (Kd.R_below (kr HO_10) hb); replace HO_11 := am (Kd.R_elder' (kr HO_11) (Kd.R_base ho0) hb); replace HO_12 := am (Kd.R_below (kr HO_12) hb); replace HO382 := am (Kd.R_below (kr HO382) hb); replace BK350 := bB BK350 hb; replace HB := am (below_step (be HB) hb); (try clear hb); (try clear hb2); (try clear hk); (try clear hi); (try clear ho0); obtain ⟨Ao56, co56, eo56⟩ := Kd.R_slice HO386.out; subst eo56) | ((with_reducible refine gate_callee (f := 86) rfl ?_); refine gL (some 68) Try.func86 #[.slice Ao32 t369.length co32, .slice Ao56 t384.length co56] ?_; (with_reducible refine (laws_eqWaterS.calls kj17 _ _ t369 _ _ t384 true _ ?side1 ?side2 ?side3 ?side4 A47.out).mono ?_); (case side1 => repeat (first | exact (Kd.R_reads' HO_11.out).2.2 | (with_reducible refine Kd.C_alloc ?_ _) | (with_reducible refine Kd.C_drewN ?_ _) | (with_reducible refine Kd.C_drew ?_))); (case side2 => exact (Kd.R_reads' HO_11.out).2.1); (case side3 => repeat (first | exact (Kd.R_reads' HO386.out).2.2 | (with_reducible refine Kd.C_alloc ?_ _) | (with_reducible refine Kd.C_drewN ?_ _) | (with_reducible refine Kd.C_drew ?_))); (case side4 => exact (Kd.R_reads' HO386.out).2.1); rintro e w57 ⟨rfl, hb⟩; refine ⟨_, rfl, ?_⟩; replace HO_8 := am (Kd.R_below (kr HO_8) hb); replace HO_10 := am (Kd.R_below (kr HO_10) hb); replace HO_11 := am (Kd.R_below (kr HO_11) hb); replace HO_12 := am (Kd.R_below (kr HO_12) hb); replace HO382 := am (Kd.R_below (kr HO382) hb); replace HO386 := am (Kd.R_below (kr HO386) hb); replace BK350 := bB BK350 hb; replace HB := am (below_step (be HB) hb); (try clear hb); (try clear hb2); (try clear hk); (try clear hi)) | ((with_reducible refine gate_callee (f := 57) rfl ?_); refine gL (some 72) Try.func57 #[.slice Ao31 t366.length co31, .int .i64 1] ?_; (with_reducible refine (laws_markBoatS.calls kj17 (fun k_ => some k_ = (.slice Ao31 t366.length co31 : Value).ownBlock) (.slice Ao31 t366.length co31) t366 1 t388 t389 w _ ?side1 ?side2 A49.out).mono ?_); (case side1 => exact be HB); (case side2 => exact Kd.R_tight rfl HO_10.out); rintro e w58 ⟨rfl, hy0, hb, hkp⟩; refine ⟨_, rfl, ?_⟩; replace HO_8 := am (Kd.R_mono (ok' := fun k_ => some k_ ≠ (v376 : Value).ownBlock) (Kd.R_keptB ((Kd.R_apart' HO_8.out (Kd.R_typed HO_10.out) (by decide))) hkp (fun k_ hk_ hs_ => (hk_.2) hs_)) (fun k_ hk_ => hk_.1.1)); replace HO_11 := am (Kd.R_mono (ok' := fun k_ => some k_ ≠ (.slice Ao56 t384.length co56 : Value).ownBlock) (Kd.R_keptB ((Kd.R_apart' HO_11.out (Kd.R_typed HO_10.out) (by decide))) hkp (fun k_ hk_ hs_ => (hk_.2) hs_)) (fun k_ hk_ => hk_.1.1.2)); replace HO_12 := am (Kd.R_mono (ok' := fun k_ => some k_ ≠ (v363 : Value).ownBlock) (Kd.R_keptB ((Kd.R_apart' HO_12.out (Kd.R_typed HO_10.out) (by decide))) hkp (fun k_ hk_ hs_ => (hk_.2) hs_)) (fun k_ hk_ => hk_.1.1)); replace BK350 := am (blk_kept (kb BK350) hkp (fun hs_ => (fun e_ => (Kd.R_ne HO_10.out BK350.out (by decide)) e_) hs_)); replace HO382 := am (Kd.R_mono (ok' := fun k_ => some k_ ≠ (.slice Ao31 t366.length co31 : Value).ownBlock) (Kd.R_keptB (HO382.out) hkp (fun k_ hk_ hs_ => (hk_.2) hs_)) (fun k_ hk_ => hk_.1.2)); replace HO386 := am (Kd.R_mono (ok' := fun k_ => some k_ ≠ (.slice Ao32 t369.length co32 : Value).ownBlock) (Kd.R_keptB ((Kd.R_apart' HO386.out (Kd.R_typed HO_10.out) (by decide))) hkp (fun k_ hk_ hs_ => (hk_.2) hs_)) (fun k_ hk_ => hk_.1.1.2)); replace HO_10 := am (Kd.R_reok rfl hy0 (fun k_ e_ => HO_10.out.1 k_ e_)); replace HB := am (hb); (try clear hb); (try clear hkp); (try clear hy0)) | ((with_reducible refine gate_callee (f := 91) rfl ?_); refine gL (some 75) Try.func91 #[.slice Ao32 t369.length co32, .int .i64 t388] ?_; (with_reducible refine (laws_markWaterS.calls kj17 (fun k_ => some k_ = (.slice Ao32 t369.length co32 : Value).ownBlock) (.slice Ao32 t369.length co32) t369 t388 t390 t391 w _ ?side1 ?side2 A50.out).mono ?_); (case side1 => exact be HB); (case side2 => exact Kd.R_tight rfl HO_11.out); rintro e w59 ⟨rfl, hy0, hb, hkp⟩; refine ⟨_, rfl, ?_⟩; replace HO_8 := am (Kd.R_mono (ok' := fun k_ => some k_ ≠ (v376 : Value).ownBlock) (Kd.R_keptB ((Kd.R_apart' HO_8.out (Kd.R_typed HO_11.out) (by decide))) hkp (fun k_ hk_ hs_ => (hk_.2) hs_)) (fun k_ hk_ => hk_.1.1)); replace HO_10 := am (Kd.R_mono (ok' := fun k_ => some k_ ≠ (.slice Ao53 t380.length co53 : Value).ownBlock) (Kd.R_keptB ((Kd.R_apart' HO_10.out (Kd.R_typed HO_11.out) (by decide))) hkp (fun k_ hk_ hs_ => (hk_.2) hs_)) (fun k_ hk_ => hk_.1.1.2)); replace HO_12 := am (Kd.R_mono (ok' := fun k_ => some k_ ≠ (v363 : Value).ownBlock) (Kd.R_keptB ((Kd.R_apart' HO_12.out (Kd.R_typed HO_11.out) (by decide))) hkp (fun k_ hk_ hs_ => (hk_.2) hs_)) (fun k_ hk_ => hk_.1.1)); replace BK350 := am (blk_kept (kb BK350) hkp (fun hs_ => (fun e_ => (Kd.R_ne HO_11.out BK350.out (by decide)) e_) hs_)); replace HO382 := am (Kd.R_mono (ok' := fun k_ => some k_ ≠ (.slice Ao31 t366.length co31 : Value).ownBlock) (Kd.R_keptB ((Kd.R_apart' HO382.out (Kd.R_typed HO_11.out) (by decide))) hkp (fun k_ hk_ hs_ => (hk_.2) hs_)) (fun k_ hk_ => hk_.1.1)); replace HO_11 := am (Kd.R_reok rfl hy0 (fun k_ e_ => HO_11.out.1 k_ e_)); replace HO386 := am (Kd.R_mono (ok' := fun k_ => some k_ ≠ (.slice Ao32 t369.length co32 : Value).ownBlock) (Kd.R_keptB (HO386.out) hkp (fun k_ hk_ hs_ => (hk_) hs_)) (fun k_ hk_ => hk_.1)); replace HB := am (hb); (try clear hb); (try clear hkp); (try clear hy0)))
        (try simp only [Act.put, List.setIfInBounds_toArray, List.set_cons_zero, List.set_cons_succ])
        go_cut [88] (fun v88 wc => ∃ (kq : Nat) (x88_50 : Bool), v88 = .bool x88_50 ∧ Aside0 (laws_FnExactAllAfloat.j1 kq l1 l2 t362 t365 t375 x88_50 a0_0 a0_1 a0_2 = some r) ∧ Aside0 (kq ≤ kj17) ∧ Aside0 (Kd.R k82 82 wc w.heap.size (fun k_ => some k_ ≠ (v376 : Value).ownBlock) v363 t362) ∧ Aside0 (Kd.R k82 82 wc w.heap.size (fun k_ => some k_ ≠ (v363 : Value).ownBlock) v376 t375) ∧ Aside0 (wc.heap[gb350]? = some (.cells (csBay a0_0 a0_1 a0_2) 26 (0, 0))) ∧ Aside0 (Below w.heap.size w wc))
        case first =>
         have H := HC51.out
         clear HC51
         by_cases c60 : t390 < 0
         ·rw [if_pos c60] at H
          have c60b0 : decide (t390 < 0) = true := decide_eq_true c60
          clear c60
          (first | rw [c60b0] | (simp only [i64_w, i32_w]; rw [c60b0]) | skip)
          have H' := am H
          clear H
          go_wp2
          go_meet
          case rel => exact ⟨_, (true), vx, H', ⟨by have := HJ17.out; first | omega | exact Nat.le_refl _⟩, ⟨kr HO_8⟩, ⟨kr HO_12⟩, ⟨kb BK350⟩, ⟨be HB⟩⟩
         ·rw [if_neg c60] at H
          have c60b0 : decide (t390 < 0) = false := decide_eq_false c60
          clear c60
          (first | rw [c60b0] | (simp only [i64_w, i32_w]; rw [c60b0]) | skip)
          replace H := Option.bind_eq_some_iff.mp H
          obtain ⟨t392, A610, H⟩ := H
          try dsimp only at H
          have A61 := am A610
          clear A610
          by_cases c62 : t392 = true
          ·subst c62
           rw [if_pos rfl] at H
           have H' := am H
           clear H
           obtain ⟨Ao63, co63, eo63⟩ := Kd.R_slice HO_12.out
           subst eo63
           obtain ⟨Ao64, co64, eo64⟩ := Kd.R_slice HO_8.out
           subst eo64
           go_wp2_with (first | (go_at_call 56; (with_reducible refine (laws_eqInt64A2S.calls kj17 _ _ t375 _ _ t362 true _ ?side1 ?side2 ?side3 ?side4 A61.out).mono ?_); (case side1 => repeat (first | exact (Kd.R_reads' HO_12.out).2.2 | (with_reducible refine Kd.C_alloc ?_ _) | (with_reducible refine Kd.C_drewN ?_ _) | (with_reducible refine Kd.C_drew ?_))); (case side2 => exact (Kd.R_reads' HO_12.out).2.1); (case side3 => repeat (first | exact (Kd.R_reads' HO_8.out).2.2 | (with_reducible refine Kd.C_alloc ?_ _) | (with_reducible refine Kd.C_drewN ?_ _) | (with_reducible refine Kd.C_drew ?_))); (case side4 => exact (Kd.R_reads' HO_8.out).2.1); rintro e w65 ⟨rfl, hb⟩; replace HO_8 := am (Kd.R_below (kr HO_8) hb); replace HO_10 := am (Kd.R_below (kr HO_10) hb); replace HO_11 := am (Kd.R_below (kr HO_11) hb); replace HO_12 := am (Kd.R_below (kr HO_12) hb); replace HO382 := am (Kd.R_below (kr HO382) hb); replace HO386 := am (Kd.R_below (kr HO386) hb); replace BK350 := bB BK350 hb; replace HB := am (below_step (be HB) hb); (try clear hb); (try clear hb2); (try clear hk); (try clear hi)))
           go_meet
           case rel => exact ⟨_, ((t378 != t365)), vx, H', ⟨by have := HJ17.out; first | omega | exact Nat.le_refl _⟩, ⟨kr HO_8⟩, ⟨kr HO_12⟩, ⟨kb BK350⟩, ⟨be HB⟩⟩
          ·replace c62 := Bool.eq_false_iff.mpr c62
           subst c62
           have H1 : (laws_FnExactAllAfloat.j1 kj17 l1 l2 t362 t365 t375 true a0_0 a0_1 a0_2) = some r := by rw [if_neg (show ¬ (false = true) by decide)] at H; exact H
           clear H
           have H := H1
           clear H1
           have H' := am H
           clear H
           obtain ⟨Ao66, co66, eo66⟩ := Kd.R_slice HO_12.out
           subst eo66
           obtain ⟨Ao67, co67, eo67⟩ := Kd.R_slice HO_8.out
           subst eo67
           go_wp2_with (first | (go_at_call 56; (with_reducible refine (laws_eqInt64A2S.calls kj17 _ _ t375 _ _ t362 false _ ?side1 ?side2 ?side3 ?side4 A61.out).mono ?_); (case side1 => repeat (first | exact (Kd.R_reads' HO_12.out).2.2 | (with_reducible refine Kd.C_alloc ?_ _) | (with_reducible refine Kd.C_drewN ?_ _) | (with_reducible refine Kd.C_drew ?_))); (case side2 => exact (Kd.R_reads' HO_12.out).2.1); (case side3 => repeat (first | exact (Kd.R_reads' HO_8.out).2.2 | (with_reducible refine Kd.C_alloc ?_ _) | (with_reducible refine Kd.C_drewN ?_ _) | (with_reducible refine Kd.C_drew ?_))); (case side4 => exact (Kd.R_reads' HO_8.out).2.1); rintro e w68 ⟨rfl, hb⟩; replace HO_8 := am (Kd.R_below (kr HO_8) hb); replace HO_10 := am (Kd.R_below (kr HO_10) hb); replace HO_11 := am (Kd.R_below (kr HO_11) hb); replace HO_12 := am (Kd.R_below (kr HO_12) hb); replace HO382 := am (Kd.R_below (kr HO382) hb); replace HO386 := am (Kd.R_below (kr HO386) hb); replace BK350 := bB BK350 hb; replace HB := am (below_step (be HB) hb); (try clear hb); (try clear hb2); (try clear hk); (try clear hi)))
           go_meet
           case rel => exact ⟨_, (true), vx, H', ⟨by have := HJ17.out; first | omega | exact Nat.le_refl _⟩, ⟨kr HO_8⟩, ⟨kr HO_12⟩, ⟨kb BK350⟩, ⟨be HB⟩⟩
        case rest =>
         clear HC51
         try clear c1
         try clear c2
         try clear p2
         try clear c3
         try clear c4
         try clear c5
         try clear c5b0
         try clear c6
         try clear c8
         try clear c8b0
         try clear c9
         try clear c23
         try clear c26
         try clear c31
         try clear c33
         try clear c35
         try clear c42
         try clear c45
         try clear c48
         try clear c56
         try clear c57
         try clear c60
         try clear c60b0
         try clear c62
         try clear hcz20_0
         try clear hcz20_1
         try clear hcz29_0
         try clear hcz29_1
         try clear hfz20_0
         try clear hfz20_1
         try clear hfz20_2
         try clear hfz29_0
         try clear hfz29_1
         try clear hfz29_2
         try clear p2
         obtain ⟨kq, x88_50, rfl, HA, HJ50, HO_8, HO_12, BK350, HB⟩ := hcut
         cases kq with
         | zero => exact absurd HA.out (by simp [laws_FnExactAllAfloat.j1])
         | succ kj50 =>
          have H := HA.out
          clear HA
          simp only [laws_FnExactAllAfloat.j1] at H
          by_cases c69 : x88_50 = true
          ·subst c69
           rw [if_pos rfl] at H
           obtain rfl := Option.some.inj H
           go_wp2
           go_ret
           exact ⟨by first | rfl | (simp [errW_none, errW_some] <;> rfl) | (simp [*, errW_none, errW_some] <;> rfl), be HB⟩
          ·replace c69 := Bool.eq_false_iff.mpr c69
           subst c69
           have H1 : ((laws_markInt64A2S.f kj50 t375 1).bind fun bt393 => ((laws_heldInt64A2S.f kj50 bt393.2 1).bind fun t395 => (if t395 < 0 then (some false) else (if t395 = bt393.1 then ((laws_toBay.f a0_0 a0_1 a0_2).bind fun bt396 => ((laws_toBoatS.f kj50 l1).bind fun t399 => ((laws_toWaterS.f kj50 l2).bind fun t402 => ((impl_AllAfloat.f kj50 bt396.1 bt396.2.1 bt396.2.2 t399 t402).bind fun bt405 => ((laws_eqInt64A2S.f kj50 bt405.1 t362).bind fun t409 => (if t409 = true then (laws_FnExactAllAfloat.j2 kj50 bt393.2 bt393.1 (bt405.2 != t365)) else (laws_FnExactAllAfloat.j2 kj50 bt393.2 bt393.1 true))))))) else (some false))))) = some r := by rw [if_neg (show ¬ (false = true) by decide)] at H; exact H
           clear H
           have H := H1
           clear H1
           replace H := Option.bind_eq_some_iff.mp H
           obtain ⟨⟨t393, t394⟩, A700, H⟩ := H
           try dsimp only at H
           have A70 := am A700
           clear A700
           replace H := Option.bind_eq_some_iff.mp H
           obtain ⟨t395, A710, H⟩ := H
           try dsimp only at H
           have A71 := am A710
           clear A710
           by_cases c72 : t395 < 0
           ·rw [if_pos c72] at H
            have c72b0 : decide (t395 < 0) = true := decide_eq_true c72
            clear c72
            obtain rfl := Option.some.inj H
            obtain ⟨Ao73, co73, eo73⟩ := Kd.R_slice HO_12.out
            subst eo73
            go_wp2_with (first | ((with_reducible refine gate_callee (f := 58) rfl ?_); refine gL (some 91) Try.func58 #[.slice Ao73 t375.length co73, .int .i64 1] ?_; (with_reducible refine (laws_markInt64A2S.calls kj50 (fun k_ => some k_ = (.slice Ao73 t375.length co73 : Value).ownBlock) (.slice Ao73 t375.length co73) t375 1 t393 t394 w _ ?side1 ?side2 A70.out).mono ?_); (case side1 => exact be HB); (case side2 => exact Kd.R_tight rfl HO_12.out); rintro e w74 ⟨rfl, hy0, hb, hkp⟩; refine ⟨_, rfl, ?_⟩; replace HO_8 := am (Kd.R_mono (ok' := fun k_ => some k_ ≠ (.slice Ao73 t375.length co73 : Value).ownBlock) (Kd.R_keptB (HO_8.out) hkp (fun k_ hk_ hs_ => (hk_) hs_)) (fun k_ hk_ => hk_.1)); replace BK350 := am (blk_kept (kb BK350) hkp (fun hs_ => (fun e_ => (Kd.R_ne HO_12.out BK350.out (by decide)) e_) hs_)); replace HO_12 := am (Kd.R_reok rfl hy0 (fun k_ e_ => HO_12.out.1 k_ e_)); replace HB := am (hb); (try clear hb); (try clear hkp); (try clear hy0)) | ((with_reducible refine gate_callee (f := 59) rfl ?_); refine goesL_ (some 94) rfl rfl Try.func59 (by kernel_rfl) rfl #[.slice Ao73 t394.length co73, .int .i64 1] rfl (by (try simp only [List.map_toArray, List.map_cons, List.map_nil]); first | done | (rw [show t394.length = t375.length from (Kd.R_reads' HO_12.out).1.symm] <;> rfl) | rfl | (simp only [List.length_drop, List.length_take]; rfl)) ?_; (with_reducible refine (laws_heldInt64A2S.calls kj50 _ _ t394 1 t395 _ ?side1 ?side2 A71.out).mono ?_); (case side1 => repeat (first | exact (Kd.R_reads' HO_12.out).2.2 | (with_reducible refine Kd.C_alloc ?_ _) | (with_reducible refine Kd.C_drewN ?_ _) | (with_reducible refine Kd.C_drew ?_))); (case side2 => rw [show t394.length = t375.length from (Kd.R_reads' HO_12.out).1.symm]; exact (Kd.R_reads' HO_12.out).2.1); rintro e w' ⟨rfl, ⟨nd, rfl⟩⟩; refine ⟨_, rfl, ?_⟩))
            go_ret
            exact ⟨by first | rfl | (simp [errW_none, errW_some] <;> rfl) | (simp [*, errW_none, errW_some] <;> rfl), be HB⟩
           ·rw [if_neg c72] at H
            have c72b0 : decide (t395 < 0) = false := decide_eq_false c72
            clear c72
            by_cases c75 : t395 = t393
            ·rw [if_pos c75] at H
             have c75b0 : (t395 == t393) = true := beq_iff_eq.mpr c75
             have c75b1 : (t395 != t393) = false := bne_eq_false_iff_eq.mpr c75
             clear c75
             replace H := Option.bind_eq_some_iff.mp H
             obtain ⟨⟨t396, t397, t398⟩, A760, H⟩ := H
             try dsimp only at H
             have A76 := am A760
             clear A760
             replace H := Option.bind_eq_some_iff.mp H
             obtain ⟨t399, A770, H⟩ := H
             try dsimp only at H
             have A77 := am A770
             clear A770
             replace H := Option.bind_eq_some_iff.mp H
             obtain ⟨t402, A780, H⟩ := H
             try dsimp only at H
             have A78 := am A780
             clear A780
             replace H := Option.bind_eq_some_iff.mp H
             obtain ⟨⟨t405, t408⟩, A790, H⟩ := H
             try dsimp only at H
             have A79 := am A790
             clear A790
             have HC80 := am H
             clear H
             obtain ⟨Ao81, co81, eo81⟩ := Kd.R_slice HO_12.out
             subst eo81
             go_upto_region 32 with (first | ((with_reducible refine gate_callee (f := 58) rfl ?_); refine gL (some 91) Try.func58 #[.slice Ao81 t375.length co81, .int .i64 1] ?_; (with_reducible refine (laws_markInt64A2S.calls kj50 (fun k_ => some k_ = (.slice Ao81 t375.length co81 : Value).ownBlock) (.slice Ao81 t375.length co81) t375 1 t393 t394 w _ ?side1 ?side2 A70.out).mono ?_); (case side1 => exact be HB); (case side2 => exact Kd.R_tight rfl HO_12.out); rintro e w82 ⟨rfl, hy0, hb, hkp⟩; refine ⟨_, rfl, ?_⟩; replace HO_8 := am (Kd.R_mono (ok' := fun k_ => some k_ ≠ (.slice Ao81 t375.length co81 : Value).ownBlock) (Kd.R_keptB (HO_8.out) hkp (fun k_ hk_ hs_ => (hk_) hs_)) (fun k_ hk_ => hk_.1)); replace BK350 := am (blk_kept (kb BK350) hkp (fun hs_ => (fun e_ => (Kd.R_ne HO_12.out BK350.out (by decide)) e_) hs_)); replace HO_12 := am (Kd.R_reok rfl hy0 (fun k_ e_ => HO_12.out.1 k_ e_)); replace HB := am (hb); (try clear hb); (try clear hkp); (try clear hy0)) | ((with_reducible refine gate_callee (f := 59) rfl ?_); refine goesL_ (some 94) rfl rfl Try.func59 (by kernel_rfl) rfl #[.slice Ao81 t394.length co81, .int .i64 1] rfl (by (try simp only [List.map_toArray, List.map_cons, List.map_nil]); first | done | (rw [show t394.length = t375.length from (Kd.R_reads' HO_12.out).1.symm] <;> rfl) | rfl | (simp only [List.length_drop, List.length_take]; rfl)) ?_; (with_reducible refine (laws_heldInt64A2S.calls kj50 _ _ t394 1 t395 _ ?side1 ?side2 A71.out).mono ?_); (case side1 => repeat (first | exact (Kd.R_reads' HO_12.out).2.2 | (with_reducible refine Kd.C_alloc ?_ _) | (with_reducible refine Kd.C_drewN ?_ _) | (with_reducible refine Kd.C_drew ?_))); (case side2 => rw [show t394.length = t375.length from (Kd.R_reads' HO_12.out).1.symm]; exact (Kd.R_reads' HO_12.out).2.1); rintro e w' ⟨rfl, ⟨nd, rfl⟩⟩; refine ⟨_, rfl, ?_⟩; obtain ⟨hcz83_0, hcz83_1, hwz83, haz83, hyz83, hvz83, hfz83_0, hfz83_1, hfz83_2⟩ := bb26 BK350) | ((with_reducible refine gate_callee (f := 26) rfl ?_); refine gL (some 102) Try.func26 #[.agg (csBay a0_0 a0_1 a0_2)] ?_; (with_reducible refine (laws_toBay.calls a0_0 a0_1 a0_2 t396 t397 t398 _ A76.out).mono ?_); rintro e w84 ⟨rfl, hb⟩; refine ⟨_, rfl, ?_⟩; replace HO_8 := am (Kd.R_below (kr HO_8) hb); replace HO_12 := am (Kd.R_below (kr HO_12) hb); replace BK350 := bB BK350 hb; replace HB := am (below_step (be HB) hb); (try clear hb); (try clear hb2); (try clear hk); (try clear hi)) | ((with_reducible refine gate_callee (f := 33) rfl ?_); refine gL (some 104) Try.func33 #[.slice A1 l1.length c1] ?_; (with_reducible refine (laws_toBoatS.calls kj50 _ _ l1 t399 _ ?side1 ?side2 A77.out).mono ?_); (case side1 => repeat (first | exact (Kd.C_below HR1.out HB.out) | (with_reducible refine Kd.C_alloc ?_ _) | (with_reducible refine Kd.C_drewN ?_ _) | (with_reducible refine Kd.C_drew ?_))); (case side2 => exact HC1.out); rintro e w85 ⟨v400, rfl, ho0, hb⟩; refine ⟨_, rfl, ?_⟩; have HO401 := am (Kd.R_lower ho0 (below_size (be HB))); replace HO_8 := am (Kd.R_below (kr HO_8) hb); replace HO_12 := am (Kd.R_below (kr HO_12) hb); replace BK350 := bB BK350 hb; replace HB := am (below_step (be HB) hb); (try clear hb); (try clear hb2); (try clear hk); (try clear hi); (try clear ho0)) | ((with_reducible refine gate_callee (f := 84) rfl ?_); refine gL (some 106) Try.func84 #[.slice A2 l2.length c2] ?_; (with_reducible refine (laws_toWaterS.calls kj50 _ _ l2 t402 _ ?side1 ?side2 A78.out).mono ?_); (case side1 => repeat (first | exact (Kd.C_below HR2.out HB.out) | (with_reducible refine Kd.C_alloc ?_ _) | (with_reducible refine Kd.C_drewN ?_ _) | (with_reducible refine Kd.C_drew ?_))); (case side2 => exact HC2.out); rintro e w86 ⟨v403, rfl, ho0, hb⟩; refine ⟨_, rfl, ?_⟩; have HO404 := am (Kd.R_lower ho0 (below_size (be HB))); replace HO_8 := am (Kd.R_below (kr HO_8) hb); replace HO_12 := am (Kd.R_below (kr HO_12) hb); replace HO401 := am (Kd.R_below (kr HO401) hb); replace BK350 := bB BK350 hb; replace HB := am (below_step (be HB) hb); (try clear hb); (try clear hb2); (try clear hk); (try clear hi); (try clear ho0); obtain ⟨Ao87, co87, eo87⟩ := Kd.R_slice HO401.out; subst eo87; obtain ⟨Ao88, co88, eo88⟩ := Kd.R_slice HO404.out; subst eo88) | ((with_reducible refine gate_callee (f := 93) rfl ?_); refine gL (some 107) Try.func93 #[.agg (csBay t396 t397 t398), .slice Ao87 t399.length co87, .slice Ao88 t402.length co88] ?_; (with_reducible refine (impl_AllAfloat.calls kj50 t396 t397 t398 _ _ t399 _ _ t402 t405 t408 _ ?side1 ?side2 ?side3 ?side4 A79.out).mono ?_); (case side1 => repeat (first | exact (Kd.R_reads' HO401.out).2.2 | (with_reducible refine Kd.C_alloc ?_ _) | (with_reducible refine Kd.C_drewN ?_ _) | (with_reducible refine Kd.C_drew ?_))); (case side2 => exact (Kd.R_reads' HO401.out).2.1); (case side3 => repeat (first | exact (Kd.R_reads' HO404.out).2.2 | (with_reducible refine Kd.C_alloc ?_ _) | (with_reducible refine Kd.C_drewN ?_ _) | (with_reducible refine Kd.C_drew ?_))); (case side4 => exact (Kd.R_reads' HO404.out).2.1); rintro e w89 ⟨v406, rfl, ho0, hb⟩; refine ⟨_, rfl, ?_⟩; have HO407 := am (Kd.R_lower (Kd.R_new' (Kd.R_new' ho0 (Kd.R_lt (kr HO_8))) (Kd.R_lt (kr HO_12))) (below_size (be HB))); replace HO_8 := am (Kd.R_elder' (kr HO_8) (Kd.R_base ho0) hb); replace HO_12 := am (Kd.R_elder' (kr HO_12) (Kd.R_base ho0) hb); replace HO401 := am (Kd.R_below (kr HO401) hb); replace HO404 := am (Kd.R_below (kr HO404) hb); replace BK350 := bB BK350 hb; replace HB := am (below_step (be HB) hb); (try clear hb); (try clear hb2); (try clear hk); (try clear hi); (try clear ho0)))
             (try simp only [Act.put, List.setIfInBounds_toArray, List.set_cons_zero, List.set_cons_succ])
             go_cut [118] (fun v118 wc => ∃ (kq : Nat) (x118_79 : Bool), v118 = .bool x118_79 ∧ Aside0 (laws_FnExactAllAfloat.j2 kq t394 t393 x118_79 = some r) ∧ Aside0 (kq ≤ kj50) ∧ Aside0 (Kd.R k82 82 wc w.heap.size (fun _ => True) (.slice Ao81 t375.length co81) t394) ∧ Aside0 (wc.heap[gb350]? = some (.cells (csBay a0_0 a0_1 a0_2) 26 (0, 0))) ∧ Aside0 (Below w.heap.size w wc))
             case first =>
              have H := HC80.out
              clear HC80
              replace H := Option.bind_eq_some_iff.mp H
              obtain ⟨t409, A900, H⟩ := H
              try dsimp only at H
              have A90 := am A900
              clear A900
              by_cases c91 : t409 = true
              ·subst c91
               rw [if_pos rfl] at H
               have H' := am H
               clear H
               obtain ⟨Ao92, co92, eo92⟩ := Kd.R_slice HO407.out
               subst eo92
               obtain ⟨Ao93, co93, eo93⟩ := Kd.R_slice HO_8.out
               subst eo93
               go_wp2_with (first | ((with_reducible refine gate_callee (f := 56) rfl ?_); refine gL (some 112) Try.func56 #[.slice Ao92 t405.length co92, .slice Ao93 t362.length co93] ?_; (with_reducible refine (laws_eqInt64A2S.calls kj50 _ _ t405 _ _ t362 true _ ?side1 ?side2 ?side3 ?side4 A90.out).mono ?_); (case side1 => repeat (first | exact (Kd.R_reads' HO407.out).2.2 | (with_reducible refine Kd.C_alloc ?_ _) | (with_reducible refine Kd.C_drewN ?_ _) | (with_reducible refine Kd.C_drew ?_))); (case side2 => exact (Kd.R_reads' HO407.out).2.1); (case side3 => repeat (first | exact (Kd.R_reads' HO_8.out).2.2 | (with_reducible refine Kd.C_alloc ?_ _) | (with_reducible refine Kd.C_drewN ?_ _) | (with_reducible refine Kd.C_drew ?_))); (case side4 => exact (Kd.R_reads' HO_8.out).2.1); rintro e w94 ⟨rfl, hb⟩; refine ⟨_, rfl, ?_⟩; replace HO_8 := am (Kd.R_below (kr HO_8) hb); replace HO_12 := am (Kd.R_below (kr HO_12) hb); replace HO401 := am (Kd.R_below (kr HO401) hb); replace HO404 := am (Kd.R_below (kr HO404) hb); replace HO407 := am (Kd.R_below (kr HO407) hb); replace BK350 := bB BK350 hb; replace HB := am (below_step (be HB) hb); (try clear hb); (try clear hb2); (try clear hk); (try clear hi)))
               go_meet
               case rel => exact ⟨_, ((t408 != t365)), vx, H', ⟨by have := HJ17.out; have := HJ50.out; first | omega | exact Nat.le_refl _⟩, ⟨by (with_reducible repeat (first | apply Kd.R_alloc | apply Kd.R_drewN | apply Kd.R_drew)); exact Kd.R_mono HO_12.out (fun _ hk => trivial)⟩, ⟨kb BK350⟩, ⟨be HB⟩⟩
              ·replace c91 := Bool.eq_false_iff.mpr c91
               subst c91
               have H1 : (laws_FnExactAllAfloat.j2 kj50 t394 t393 true) = some r := by rw [if_neg (show ¬ (false = true) by decide)] at H; exact H
               clear H
               have H := H1
               clear H1
               have H' := am H
               clear H
               obtain ⟨Ao95, co95, eo95⟩ := Kd.R_slice HO407.out
               subst eo95
               obtain ⟨Ao96, co96, eo96⟩ := Kd.R_slice HO_8.out
               subst eo96
               go_wp2_with (first | ((with_reducible refine gate_callee (f := 56) rfl ?_); refine gL (some 112) Try.func56 #[.slice Ao95 t405.length co95, .slice Ao96 t362.length co96] ?_; (with_reducible refine (laws_eqInt64A2S.calls kj50 _ _ t405 _ _ t362 false _ ?side1 ?side2 ?side3 ?side4 A90.out).mono ?_); (case side1 => repeat (first | exact (Kd.R_reads' HO407.out).2.2 | (with_reducible refine Kd.C_alloc ?_ _) | (with_reducible refine Kd.C_drewN ?_ _) | (with_reducible refine Kd.C_drew ?_))); (case side2 => exact (Kd.R_reads' HO407.out).2.1); (case side3 => repeat (first | exact (Kd.R_reads' HO_8.out).2.2 | (with_reducible refine Kd.C_alloc ?_ _) | (with_reducible refine Kd.C_drewN ?_ _) | (with_reducible refine Kd.C_drew ?_))); (case side4 => exact (Kd.R_reads' HO_8.out).2.1); rintro e w97 ⟨rfl, hb⟩; refine ⟨_, rfl, ?_⟩; replace HO_8 := am (Kd.R_below (kr HO_8) hb); replace HO_12 := am (Kd.R_below (kr HO_12) hb); replace HO401 := am (Kd.R_below (kr HO401) hb); replace HO404 := am (Kd.R_below (kr HO404) hb); replace HO407 := am (Kd.R_below (kr HO407) hb); replace BK350 := bB BK350 hb; replace HB := am (below_step (be HB) hb); (try clear hb); (try clear hb2); (try clear hk); (try clear hi)))
               go_meet
               case rel => exact ⟨_, (true), vx, H', ⟨by have := HJ17.out; have := HJ50.out; first | omega | exact Nat.le_refl _⟩, ⟨by (with_reducible repeat (first | apply Kd.R_alloc | apply Kd.R_drewN | apply Kd.R_drew)); exact Kd.R_mono HO_12.out (fun _ hk => trivial)⟩, ⟨kb BK350⟩, ⟨be HB⟩⟩
             case rest =>
              clear HC80
              try clear c1
              try clear c2
              try clear p2
              try clear c3
              try clear c4
              try clear c5
              try clear c5b0
              try clear c6
              try clear c7
              try clear c8
              try clear c8b0
              try clear c9
              try clear c23
              try clear c26
              try clear c31
              try clear c33
              try clear c35
              try clear c42
              try clear c45
              try clear c48
              try clear c56
              try clear c57
              try clear c58
              try clear c59
              try clear c60
              try clear c60b0
              try clear c62
              try clear c69
              try clear c72
              try clear c72b0
              try clear c75
              try clear c75b0
              try clear c75b1
              try clear c82
              try clear c84
              try clear c86
              try clear c91
              try clear c92
              try clear c93
              try clear hcz20_0
              try clear hcz20_1
              try clear hcz29_0
              try clear hcz29_1
              try clear hcz83_0
              try clear hcz83_1
              try clear hfz20_0
              try clear hfz20_1
              try clear hfz20_2
              try clear hfz29_0
              try clear hfz29_1
              try clear hfz29_2
              try clear hfz83_0
              try clear hfz83_1
              try clear hfz83_2
              try clear p2
              obtain ⟨kq, x118_79, rfl, HA, HJ79, HO_12, BK350, HB⟩ := hcut
              have hl12_79 := (Kd.R_reads' HO_12.out).1
              rw [hl12_79] at HO_12
              (try simp only [hl12_79])
              (try simp only [hl12_79] at BK350)
              cases kq with
              | zero => exact absurd HA.out (by simp [laws_FnExactAllAfloat.j2])
              | succ kj79 =>
               have H := HA.out
               clear HA
               simp only [laws_FnExactAllAfloat.j2] at H
               by_cases c98 : x118_79 = true
               ·subst c98
                rw [if_pos rfl] at H
                obtain rfl := Option.some.inj H
                go_wp2
                go_ret
                exact ⟨by first | rfl | (simp [errW_none, errW_some] <;> rfl) | (simp [*, errW_none, errW_some] <;> rfl), be HB⟩
               ·replace c98 := Bool.eq_false_iff.mpr c98
                subst c98
                have H1 : ((laws_heldInt64A2S.f kj79 t394 1).bind fun t410 => (if t410 < 0 then (some false) else (if t410 = t393 then (some true) else (some false)))) = some r := by rw [if_neg (show ¬ (false = true) by decide)] at H; exact H
                clear H
                have H := H1
                clear H1
                replace H := Option.bind_eq_some_iff.mp H
                obtain ⟨t410, A990, H⟩ := H
                try dsimp only at H
                have A99 := am A990
                clear A990
                by_cases c100 : t410 < 0
                ·rw [if_pos c100] at H
                 have c100b0 : decide (t410 < 0) = true := decide_eq_true c100
                 clear c100
                 obtain rfl := Option.some.inj H
                 go_wp2_with (first | ((with_reducible refine gate_callee (f := 59) rfl ?_); refine gL (some 121) Try.func59 #[.slice Ao81 t394.length co81, .int .i64 1] ?_; (with_reducible refine (laws_heldInt64A2S.calls kj79 _ _ t394 1 t410 _ ?side1 ?side2 A99.out).mono ?_); (case side1 => repeat (first | exact (Kd.R_reads' HO_12.out).2.2 | (with_reducible refine Kd.C_alloc ?_ _) | (with_reducible refine Kd.C_drewN ?_ _) | (with_reducible refine Kd.C_drew ?_))); (case side2 => exact (Kd.R_reads' HO_12.out).2.1); rintro e w' ⟨rfl, ⟨nd, rfl⟩⟩; refine ⟨_, rfl, ?_⟩))
                 go_ret
                 exact ⟨by first | rfl | (simp [errW_none, errW_some] <;> rfl) | (simp [*, errW_none, errW_some] <;> rfl), be HB⟩
                ·rw [if_neg c100] at H
                 have c100b0 : decide (t410 < 0) = false := decide_eq_false c100
                 clear c100
                 by_cases c101 : t410 = t393
                 ·rw [if_pos c101] at H
                  have c101b0 : (t410 == t393) = true := beq_iff_eq.mpr c101
                  have c101b1 : (t410 != t393) = false := bne_eq_false_iff_eq.mpr c101
                  clear c101
                  obtain rfl := Option.some.inj H
                  go_wp2_with (first | ((with_reducible refine gate_callee (f := 59) rfl ?_); refine gL (some 121) Try.func59 #[.slice Ao81 t394.length co81, .int .i64 1] ?_; (with_reducible refine (laws_heldInt64A2S.calls kj79 _ _ t394 1 t410 _ ?side1 ?side2 A99.out).mono ?_); (case side1 => repeat (first | exact (Kd.R_reads' HO_12.out).2.2 | (with_reducible refine Kd.C_alloc ?_ _) | (with_reducible refine Kd.C_drewN ?_ _) | (with_reducible refine Kd.C_drew ?_))); (case side2 => exact (Kd.R_reads' HO_12.out).2.1); rintro e w' ⟨rfl, ⟨nd, rfl⟩⟩; refine ⟨_, rfl, ?_⟩))
                  go_ret
                  exact ⟨by first | rfl | (simp [errW_none, errW_some] <;> rfl) | (simp [*, errW_none, errW_some] <;> rfl), be HB⟩
                 ·rw [if_neg c101] at H
                  have c101b0 : (t410 == t393) = false := beq_eq_false_iff_ne.mpr c101
                  have c101b1 : (t410 != t393) = true := bne_iff_ne.mpr c101
                  obtain rfl := Option.some.inj H
                  go_wp2_with (first | ((with_reducible refine gate_callee (f := 59) rfl ?_); refine gL (some 121) Try.func59 #[.slice Ao81 t394.length co81, .int .i64 1] ?_; (with_reducible refine (laws_heldInt64A2S.calls kj79 _ _ t394 1 t410 _ ?side1 ?side2 A99.out).mono ?_); (case side1 => repeat (first | exact (Kd.R_reads' HO_12.out).2.2 | (with_reducible refine Kd.C_alloc ?_ _) | (with_reducible refine Kd.C_drewN ?_ _) | (with_reducible refine Kd.C_drew ?_))); (case side2 => exact (Kd.R_reads' HO_12.out).2.1); rintro e w' ⟨rfl, ⟨nd, rfl⟩⟩; refine ⟨_, rfl, ?_⟩))
                  go_ret
                  exact ⟨by first | rfl | (simp [errW_none, errW_some] <;> rfl) | (simp [*, errW_none, errW_some] <;> rfl), be HB⟩
            ·rw [if_neg c75] at H
             have c75b0 : (t395 == t393) = false := beq_eq_false_iff_ne.mpr c75
             have c75b1 : (t395 != t393) = true := bne_iff_ne.mpr c75
             obtain rfl := Option.some.inj H
             obtain ⟨Ao102, co102, eo102⟩ := Kd.R_slice HO_12.out
             subst eo102
             go_wp2_with (first | ((with_reducible refine gate_callee (f := 58) rfl ?_); refine gL (some 91) Try.func58 #[.slice Ao102 t375.length co102, .int .i64 1] ?_; (with_reducible refine (laws_markInt64A2S.calls kj50 (fun k_ => some k_ = (.slice Ao102 t375.length co102 : Value).ownBlock) (.slice Ao102 t375.length co102) t375 1 t393 t394 w _ ?side1 ?side2 A70.out).mono ?_); (case side1 => exact be HB); (case side2 => exact Kd.R_tight rfl HO_12.out); rintro e w103 ⟨rfl, hy0, hb, hkp⟩; refine ⟨_, rfl, ?_⟩; replace HO_8 := am (Kd.R_mono (ok' := fun k_ => some k_ ≠ (.slice Ao102 t375.length co102 : Value).ownBlock) (Kd.R_keptB (HO_8.out) hkp (fun k_ hk_ hs_ => (hk_) hs_)) (fun k_ hk_ => hk_.1)); replace BK350 := am (blk_kept (kb BK350) hkp (fun hs_ => (fun e_ => (Kd.R_ne HO_12.out BK350.out (by decide)) e_) hs_)); replace HO_12 := am (Kd.R_reok rfl hy0 (fun k_ e_ => HO_12.out.1 k_ e_)); replace HB := am (hb); (try clear hb); (try clear hkp); (try clear hy0)) | ((with_reducible refine gate_callee (f := 59) rfl ?_); refine goesL_ (some 94) rfl rfl Try.func59 (by kernel_rfl) rfl #[.slice Ao102 t394.length co102, .int .i64 1] rfl (by (try simp only [List.map_toArray, List.map_cons, List.map_nil]); first | done | (rw [show t394.length = t375.length from (Kd.R_reads' HO_12.out).1.symm] <;> rfl) | rfl | (simp only [List.length_drop, List.length_take]; rfl)) ?_; (with_reducible refine (laws_heldInt64A2S.calls kj50 _ _ t394 1 t395 _ ?side1 ?side2 A71.out).mono ?_); (case side1 => repeat (first | exact (Kd.R_reads' HO_12.out).2.2 | (with_reducible refine Kd.C_alloc ?_ _) | (with_reducible refine Kd.C_drewN ?_ _) | (with_reducible refine Kd.C_drew ?_))); (case side2 => rw [show t394.length = t375.length from (Kd.R_reads' HO_12.out).1.symm]; exact (Kd.R_reads' HO_12.out).2.1); rintro e w' ⟨rfl, ⟨nd, rfl⟩⟩; refine ⟨_, rfl, ?_⟩))
             go_ret
             exact ⟨by first | rfl | (simp [errW_none, errW_some] <;> rfl) | (simp [*, errW_none, errW_some] <;> rfl), be HB⟩
       ·replace c48 := Bool.eq_false_iff.mpr c48
        subst c48
        have H1 : (some false) = some r := by rw [if_neg (show ¬ (false = true) by decide)] at H; exact H
        clear H
        have H := H1
        clear H1
        obtain rfl := Option.some.inj H
        go_wp2_with (first | ((with_reducible refine gate_callee (f := 33) rfl ?_); refine gL (some 62) Try.func33 #[.slice A1 l1.length c1] ?_; (with_reducible refine (laws_toBoatS.calls kj17 _ _ l1 t380 _ ?side1 ?side2 A43.out).mono ?_); (case side1 => repeat (first | exact (Kd.C_below HR1.out HB.out) | (with_reducible refine Kd.C_alloc ?_ _) | (with_reducible refine Kd.C_drewN ?_ _) | (with_reducible refine Kd.C_drew ?_))); (case side2 => exact HC1.out); rintro e w104 ⟨v381, rfl, ho0, hb⟩; refine ⟨_, rfl, ?_⟩; have HO382 := am (Kd.R_lower (Kd.R_new' ho0 (Kd.R_lt (kr HO_10))) (below_size (be HB))); replace HO_8 := am (Kd.R_below (kr HO_8) hb); replace HO_10 := am (Kd.R_elder' (kr HO_10) (Kd.R_base ho0) hb); replace HO_11 := am (Kd.R_below (kr HO_11) hb); replace HO_12 := am (Kd.R_below (kr HO_12) hb); replace BK350 := bB BK350 hb; replace HB := am (below_step (be HB) hb); (try clear hb); (try clear hb2); (try clear hk); (try clear hi); (try clear ho0); obtain ⟨Ao105, co105, eo105⟩ := Kd.R_slice HO382.out; subst eo105) | ((with_reducible refine gate_callee (f := 35) rfl ?_); refine gL (some 63) Try.func35 #[.slice Ao31 t366.length co31, .slice Ao105 t380.length co105] ?_; (with_reducible refine (laws_eqBoatS.calls kj17 _ _ t366 _ _ t380 true _ ?side1 ?side2 ?side3 ?side4 A44.out).mono ?_); (case side1 => repeat (first | exact (Kd.R_reads' HO_10.out).2.2 | (with_reducible refine Kd.C_alloc ?_ _) | (with_reducible refine Kd.C_drewN ?_ _) | (with_reducible refine Kd.C_drew ?_))); (case side2 => exact (Kd.R_reads' HO_10.out).2.1); (case side3 => repeat (first | exact (Kd.R_reads' HO382.out).2.2 | (with_reducible refine Kd.C_alloc ?_ _) | (with_reducible refine Kd.C_drewN ?_ _) | (with_reducible refine Kd.C_drew ?_))); (case side4 => exact (Kd.R_reads' HO382.out).2.1); rintro e w106 ⟨rfl, hb⟩; refine ⟨_, rfl, ?_⟩; replace HO_8 := am (Kd.R_below (kr HO_8) hb); replace HO_10 := am (Kd.R_below (kr HO_10) hb); replace HO_11 := am (Kd.R_below (kr HO_11) hb); replace HO_12 := am (Kd.R_below (kr HO_12) hb); replace HO382 := am (Kd.R_below (kr HO382) hb); replace BK350 := bB BK350 hb; replace HB := am (below_step (be HB) hb); (try clear hb); (try clear hb2); (try clear hk); (try clear hi)) | ((with_reducible refine gate_callee (f := 84) rfl ?_); refine gL (some 67) Try.func84 #[.slice A2 l2.length c2] ?_; (with_reducible refine (laws_toWaterS.calls kj17 _ _ l2 t384 _ ?side1 ?side2 A46.out).mono ?_); (case side1 => repeat (first | exact (Kd.C_below HR2.out HB.out) | (with_reducible refine Kd.C_alloc ?_ _) | (with_reducible refine Kd.C_drewN ?_ _) | (with_reducible refine Kd.C_drew ?_))); (case side2 => exact HC2.out); rintro e w107 ⟨v385, rfl, ho0, hb⟩; refine ⟨_, rfl, ?_⟩; have HO386 := am (Kd.R_lower (Kd.R_new' ho0 (Kd.R_lt (kr HO_11))) (below_size (be HB))); replace HO_8 := am (Kd.R_below (kr HO_8) hb); replace HO_10 := am (Kd.R_below (kr HO_10) hb); replace HO_11 := am (Kd.R_elder' (kr HO_11) (Kd.R_base ho0) hb); replace HO_12 := am (Kd.R_below (kr HO_12) hb); replace HO382 := am (Kd.R_below (kr HO382) hb); replace BK350 := bB BK350 hb; replace HB := am (below_step (be HB) hb); (try clear hb); (try clear hb2); (try clear hk); (try clear hi); (try clear ho0); obtain ⟨Ao108, co108, eo108⟩ := Kd.R_slice HO386.out; subst eo108) | ((with_reducible refine gate_callee (f := 86) rfl ?_); refine gL (some 68) Try.func86 #[.slice Ao32 t369.length co32, .slice Ao108 t384.length co108] ?_; (with_reducible refine (laws_eqWaterS.calls kj17 _ _ t369 _ _ t384 false _ ?side1 ?side2 ?side3 ?side4 A47.out).mono ?_); (case side1 => repeat (first | exact (Kd.R_reads' HO_11.out).2.2 | (with_reducible refine Kd.C_alloc ?_ _) | (with_reducible refine Kd.C_drewN ?_ _) | (with_reducible refine Kd.C_drew ?_))); (case side2 => exact (Kd.R_reads' HO_11.out).2.1); (case side3 => repeat (first | exact (Kd.R_reads' HO386.out).2.2 | (with_reducible refine Kd.C_alloc ?_ _) | (with_reducible refine Kd.C_drewN ?_ _) | (with_reducible refine Kd.C_drew ?_))); (case side4 => exact (Kd.R_reads' HO386.out).2.1); rintro e w109 ⟨rfl, hb⟩; refine ⟨_, rfl, ?_⟩; replace HO_8 := am (Kd.R_below (kr HO_8) hb); replace HO_10 := am (Kd.R_below (kr HO_10) hb); replace HO_11 := am (Kd.R_below (kr HO_11) hb); replace HO_12 := am (Kd.R_below (kr HO_12) hb); replace HO382 := am (Kd.R_below (kr HO382) hb); replace HO386 := am (Kd.R_below (kr HO386) hb); replace BK350 := bB BK350 hb; replace HB := am (below_step (be HB) hb); (try clear hb); (try clear hb2); (try clear hk); (try clear hi)))
        go_ret
        exact ⟨by first | rfl | (simp [errW_none, errW_some] <;> rfl) | (simp [*, errW_none, errW_some] <;> rfl), be HB⟩
      ·replace c45 := Bool.eq_false_iff.mpr c45
       subst c45
       have H1 : (some false) = some r := by rw [if_neg (show ¬ (false = true) by decide)] at H; exact H
       clear H
       have H := H1
       clear H1
       obtain rfl := Option.some.inj H
       go_wp2_with (first | ((with_reducible refine gate_callee (f := 33) rfl ?_); refine gL (some 62) Try.func33 #[.slice A1 l1.length c1] ?_; (with_reducible refine (laws_toBoatS.calls kj17 _ _ l1 t380 _ ?side1 ?side2 A43.out).mono ?_); (case side1 => repeat (first | exact (Kd.C_below HR1.out HB.out) | (with_reducible refine Kd.C_alloc ?_ _) | (with_reducible refine Kd.C_drewN ?_ _) | (with_reducible refine Kd.C_drew ?_))); (case side2 => exact HC1.out); rintro e w110 ⟨v381, rfl, ho0, hb⟩; refine ⟨_, rfl, ?_⟩; have HO382 := am (Kd.R_lower (Kd.R_new' ho0 (Kd.R_lt (kr HO_10))) (below_size (be HB))); replace HO_8 := am (Kd.R_below (kr HO_8) hb); replace HO_10 := am (Kd.R_elder' (kr HO_10) (Kd.R_base ho0) hb); replace HO_11 := am (Kd.R_below (kr HO_11) hb); replace HO_12 := am (Kd.R_below (kr HO_12) hb); replace BK350 := bB BK350 hb; replace HB := am (below_step (be HB) hb); (try clear hb); (try clear hb2); (try clear hk); (try clear hi); (try clear ho0); obtain ⟨Ao111, co111, eo111⟩ := Kd.R_slice HO382.out; subst eo111) | ((with_reducible refine gate_callee (f := 35) rfl ?_); refine gL (some 63) Try.func35 #[.slice Ao31 t366.length co31, .slice Ao111 t380.length co111] ?_; (with_reducible refine (laws_eqBoatS.calls kj17 _ _ t366 _ _ t380 false _ ?side1 ?side2 ?side3 ?side4 A44.out).mono ?_); (case side1 => repeat (first | exact (Kd.R_reads' HO_10.out).2.2 | (with_reducible refine Kd.C_alloc ?_ _) | (with_reducible refine Kd.C_drewN ?_ _) | (with_reducible refine Kd.C_drew ?_))); (case side2 => exact (Kd.R_reads' HO_10.out).2.1); (case side3 => repeat (first | exact (Kd.R_reads' HO382.out).2.2 | (with_reducible refine Kd.C_alloc ?_ _) | (with_reducible refine Kd.C_drewN ?_ _) | (with_reducible refine Kd.C_drew ?_))); (case side4 => exact (Kd.R_reads' HO382.out).2.1); rintro e w112 ⟨rfl, hb⟩; refine ⟨_, rfl, ?_⟩; replace HO_8 := am (Kd.R_below (kr HO_8) hb); replace HO_10 := am (Kd.R_below (kr HO_10) hb); replace HO_11 := am (Kd.R_below (kr HO_11) hb); replace HO_12 := am (Kd.R_below (kr HO_12) hb); replace HO382 := am (Kd.R_below (kr HO382) hb); replace BK350 := bB BK350 hb; replace HB := am (below_step (be HB) hb); (try clear hb); (try clear hb2); (try clear hk); (try clear hi)))
       go_ret
       exact ⟨by first | rfl | (simp [errW_none, errW_some] <;> rfl) | (simp [*, errW_none, errW_some] <;> rfl), be HB⟩

end Go.Proofs.Ytcollbifdfhfoaa.PFnExactAllAfloat
