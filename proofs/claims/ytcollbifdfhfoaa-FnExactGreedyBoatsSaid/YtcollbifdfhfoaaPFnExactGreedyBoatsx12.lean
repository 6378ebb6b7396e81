-- Written by a program out of this seat's translation (functions, and that the code comes to them).
import Derived.Test.YtcollbifdfhfoaaPFnExactGreedyBoatsx0
import Derived.Test.YtcollbifdfhfoaaPFnExactGreedyBoatsx2
import Derived.Test.YtcollbifdfhfoaaPFnExactGreedyBoatsx3
import Derived.Test.YtcollbifdfhfoaaPFnExactGreedyBoatsx7
import Derived.Test.YtcollbifdfhfoaaPFnExactGreedyBoatsx11
namespace Go.Proofs.Ytcollbifdfhfoaa.PFnExactGreedyBoats
open Go.RowKit Go.Proofs.YtcollbifdfhfoaaW.PrintWords Go.Proofs.YtcollbifdfhfoaaW.PrintLast Go.Proofs.YtcollbifdfhfoaaW.PrintMore
attribute [local go_sem] max2_int min2_int max_two min_two max_three min_three max_four min_four   -- for this text's walks alone
open Go.Proofs.Ytcollbifdfhfoaa.Bay Go.Proofs.Ytcollbifdfhfoaa.Short
attribute [local go_sem ↓] lv26_eq lv28_eq
attribute [local go_sem] lvv_set lvv_drewN lvv_drew lv26_run BayAt26_set BayAt26_drewN BayAt26_drew lv28_run BayAt28_set BayAt28_drewN BayAt28_drew
set_option linter.unusedVariables false
set_option linter.unusedSimpArgs false

/-! ### laws_FnExactGreedyBoats: function 16 -/
mutual
def laws_FnExactGreedyBoats.j0 : Nat → List (S34) → List Int → Int → List (S38) → List Int → Int → Bool → Int → Int → (Nat → Int) → Option (Bool)
 | 0, _, _, _, _, _, _, _, _, _, _ => none
 | k + 1, x1, x6, x7, x8, x9, x10, x46, x375000, x375001, x375002 => if x46 = true then (some false) else ((laws_toBoatS.f k x1).bind fun t397 => ((laws_eqBoatS.f k x8 t397).bind fun t400 => (if t400 = true then ((laws_markBoatS.f k x8 1).bind fun bt401 => (if bt401.1 < 0 then (laws_FnExactGreedyBoats.j1 k x1 x6 x7 x9 true x375000 x375001 x375002) else ((laws_eqInt64S.f k x9 x6).bind fun t403 => (if t403 = true then (laws_FnExactGreedyBoats.j1 k x1 x6 x7 x9 (x10 != x7) x375000 x375001 x375002) else (laws_FnExactGreedyBoats.j1 k x1 x6 x7 x9 true x375000 x375001 x375002))))) else (some false))))
def laws_FnExactGreedyBoats.j1 : Nat → List (S34) → List Int → Int → List Int → Bool → Int → Int → (Nat → Int) → Option (Bool)
 | 0, _, _, _, _, _, _, _, _ => none
 | k + 1, x1, x6, x7, x9, x67, x375000, x375001, x375002 => if x67 = true then (some false) else ((laws_markInt64S.f k x9 1).bind fun bt404 => ((laws_heldInt64S.f k bt404.2 1).bind fun t406 => (if t406 < 0 then (some false) else (if t406 = bt404.1 then ((laws_toBay.f x375000 x375001 x375002).bind fun bt407 => ((laws_toBoatS.f k x1).bind fun t410 => ((impl_GreedyBoats.f k bt407.1 bt407.2.1 bt407.2.2 t410).bind fun bt413 => ((laws_eqInt64S.f k bt413.1 x6).bind fun t417 => (if t417 = true then (laws_FnExactGreedyBoats.j2 k bt404.2 bt404.1 (bt413.2 != x7)) else (laws_FnExactGreedyBoats.j2 k bt404.2 bt404.1 true)))))) else (some false)))))
def laws_FnExactGreedyBoats.j2 : Nat → List Int → Int → Bool → Option (Bool)
 | 0, _, _, _ => none
 | k + 1, x9, x12, x95 => if x95 = true then (some false) else ((laws_heldInt64S.f k x9 1).bind fun t418 => (if t418 < 0 then (some false) else (if t418 = x12 then (some true) else (some false))))
end
def laws_FnExactGreedyBoats.f (k : Nat) (a0_0 : Int) (a0_1 : Int) (a0_2 : (Nat → Int)) (l1 : List (S34)) : Option (Bool) := (laws_szBoatS.f l1 1048576).bind fun t375 => (if t375 < 0 then (some true) else ((laws_toBay.f a0_0 a0_1 a0_2).bind fun bt376 => ((laws_toBoatS.f k l1).bind fun t379 => ((spec_GreedyBoats.f k bt376.1 bt376.2.1 bt376.2.2 t379).bind fun bt382 => ((laws_toBoatS.f k l1).bind fun t386 => ((laws_toBay.f a0_0 a0_1 a0_2).bind fun bt389 => ((impl_GreedyBoats.f k bt389.1 bt389.2.1 bt389.2.2 t386).bind fun bt392 => ((laws_eqInt64S.f k bt392.1 bt382.1).bind fun t396 => (if t396 = true then (laws_FnExactGreedyBoats.j0 k l1 bt382.1 bt382.2 t386 bt392.1 bt392.2 (bt392.2 != bt382.2) a0_0 a0_1 a0_2) else (laws_FnExactGreedyBoats.j0 k l1 bt382.1 bt382.2 t386 bt392.1 bt392.2 true a0_0 a0_1 a0_2))))))))))
set_option maxHeartbeats 8000000 in
set_option maxRecDepth 100000 in
theorem laws_FnExactGreedyBoats.calls (k : Nat) (a0_0 : Int) (a0_1 : Int) (a0_2 : (Nat → Int)) (A1 : Option Addr) (c1 : Nat) (l1 : List (S34)) (r : Bool) (w : World) (hr1 : Kd.C k34 w A1 l1.length l1) (hc1 : l1.length ≤ c1) (h : laws_FnExactGreedyBoats.f k a0_0 a0_1 a0_2 l1 = some r) :
  Calls Try.prog 16 #[.agg (csBay a0_0 a0_1 a0_2), .slice A1 l1.length c1] w fun e w' => e = .returned (.bool r) ∧ Below w.heap.size w w' := by
 have hu26 := Try.underlying26
 have HR1 := am hr1
 have HC1 := am hc1
 clear hr1 hc1
 have HB := am (Below.refl w.heap.size w)
 have H : ((laws_szBoatS.f l1 1048576).bind fun t375 => (if t375 < 0 then (some true) else ((laws_toBay.f a0_0 a0_1 a0_2).bind fun bt376 => ((laws_toBoatS.f k l1).bind fun t379 => ((spec_GreedyBoats.f k bt376.1 bt376.2.1 bt376.2.2 t379).bind fun bt382 => ((laws_toBoatS.f k l1).bind fun t386 => ((laws_toBay.f a0_0 a0_1 a0_2).bind fun bt389 => ((impl_GreedyBoats.f k bt389.1 bt389.2.1 bt389.2.2 t386).bind fun bt392 => ((laws_eqInt64S.f k bt392.1 bt382.1).bind fun t396 => (if t396 = true then (laws_FnExactGreedyBoats.j0 k l1 bt382.1 bt382.2 t386 bt392.1 bt392.2 (bt392.2 != bt382.2) a0_0 a0_1 a0_2) else (laws_FnExactGreedyBoats.j0 k l1 bt382.1 bt382.2 t386 bt392.1 bt392.2 true a0_0 a0_1 a0_2))))))))))) = some r := h
 clear h
 replace H := Option.bind_eq_some_iff.mp H
 obtain ⟨t375, A30, H⟩ := H
 try dsimp only at H
 have A3 := am A30
 clear A30
 by_cases c4 : t375 < 0
 ·rw [if_pos c4] at H
  have c4b0 : decide (t375 < 0) = true := decide_eq_true c4
  clear c4
  obtain rfl := Option.some.inj H
  go_enter Try.func16, Try.ntmps16
  go_wp2_with (first | ((with_reducible refine gate_dst (N := 2) rfl ?_); refine bxe (N := 2) (cs := (csBay a0_0 a0_1 a0_2)) (t := 26) ?_; intro gb374 hg w5 hbox hb; have BK374 := am (hbox); have GW374 := am (gN hg (below_size (be HB))); have GE374 := am (gN hg (below_size (be HB))); replace HB := am (below_step (be HB) hb); clear hb hbox hg) | ((with_reducible refine gate_callee (f := 31) rfl ?_); refine gL (some 18) Try.func31 #[.slice A1 l1.length c1, .int .i64 1048576] ?_; (with_reducible refine (laws_szBoatS.calls _ _ l1 1048576 t375 _ ?side1 ?side2 A3.out).mono ?_); (case side1 => repeat (first | exact (Kd.C_below HR1.out HB.out) | (with_reducible refine Kd.C_alloc ?_ _) | (with_reducible refine Kd.C_drewN ?_ _) | (with_reducible refine Kd.C_drew ?_))); (case side2 => exact HC1.out); rintro e w' ⟨rfl, ⟨nd, rfl⟩⟩; refine ⟨_, rfl, ?_⟩))
  go_ret
  exact ⟨by first | rfl | (simp [errW_none, errW_some] <;> rfl) | (simp [*, errW_none, errW_some] <;> rfl), be HB⟩
 ·rw [if_neg c4] at H
  have c4b0 : decide (t375 < 0) = false := decide_eq_false c4
  clear c4
  replace H := Option.bind_eq_some_iff.mp H
  obtain ⟨⟨t376, t377, t378⟩, A60, H⟩ := H
  try dsimp only at H
  have A6 := am A60
  clear A60
  replace H := Option.bind_eq_some_iff.mp H
  obtain ⟨t379, A70, H⟩ := H
  try dsimp only at H
  have A7 := am A70
  clear A70
  replace H := Option.bind_eq_some_iff.mp H
  obtain ⟨⟨t382, t385⟩, A80, H⟩ := H
  try dsimp only at H
  have A8 := am A80
  clear A80
  replace H := Option.bind_eq_some_iff.mp H
  obtain ⟨t386, A90, H⟩ := H
  try dsimp only at H
  have A9 := am A90
  clear A90
  replace H := Option.bind_eq_some_iff.mp H
  obtain ⟨⟨t389, t390, t391⟩, A100, H⟩ := H
  try dsimp only at H
  have A10 := am A100
  clear A100
  replace H := Option.bind_eq_some_iff.mp H
  obtain ⟨⟨t392, t395⟩, A110, H⟩ := H
  try dsimp only at H
  have A11 := am A110
  clear A110
  have HC12 := am H
  clear H
  go_enter Try.func16, Try.ntmps16
  go_upto_region 8 with (first | ((with_reducible refine gate_dst (N := 2) rfl ?_); refine bxe (N := 2) (cs := (csBay a0_0 a0_1 a0_2)) (t := 26) ?_; intro gb374 hg w13 hbox hb; have BK374 := am (hbox); have GW374 := am (gN hg (below_size (be HB))); have GE374 := am (gN hg (below_size (be HB))); replace HB := am (below_step (be HB) hb); clear hb hbox hg) | ((with_reducible refine gate_callee (f := 31) rfl ?_); refine gL (some 18) Try.func31 #[.slice A1 l1.length c1, .int .i64 1048576] ?_; (with_reducible refine (laws_szBoatS.calls _ _ l1 1048576 t375 _ ?side1 ?side2 A3.out).mono ?_); (case side1 => repeat (first | exact (Kd.C_below HR1.out HB.out) | (with_reducible refine Kd.C_alloc ?_ _) | (with_reducible refine Kd.C_drewN ?_ _) | (with_reducible refine Kd.C_drew ?_))); (case side2 => exact HC1.out); rintro e w' ⟨rfl, ⟨nd, rfl⟩⟩; refine ⟨_, rfl, ?_⟩; obtain ⟨hcz14_0, hcz14_1, hwz14, haz14, hyz14, hvz14, hfz14_0, hfz14_1, hfz14_2⟩ := bb26 BK374) | ((with_reducible refine gate_callee (f := 26) rfl ?_); refine gL (some 23) Try.func26 #[.agg (csBay a0_0 a0_1 a0_2)] ?_; (with_reducible refine (laws_toBay.calls a0_0 a0_1 a0_2 t376 t377 t378 _ A6.out).mono ?_); rintro e w15 ⟨rfl, hb⟩; refine ⟨_, rfl, ?_⟩; replace BK374 := bB BK374 hb; replace HB := am (below_step (be HB) hb); (try clear hb); (try clear hb2); (try clear hk); (try clear hi)) | ((with_reducible refine gate_callee (f := 33) rfl ?_); refine gL (some 25) Try.func33 #[.slice A1 l1.length c1] ?_; (with_reducible refine (laws_toBoatS.calls k _ _ l1 t379 _ ?side1 ?side2 A7.out).mono ?_); (case side1 => repeat (first | exact (Kd.C_below HR1.out HB.out) | (with_reducible refine Kd.C_alloc ?_ _) | (with_reducible refine Kd.C_drewN ?_ _) | (with_reducible refine Kd.C_drew ?_))); (case side2 => exact HC1.out); rintro e w16 ⟨v380, rfl, ho0, hb⟩; refine ⟨_, rfl, ?_⟩; have HO381 := am (Kd.R_lower ho0 (below_size (be HB))); replace BK374 := bB BK374 hb; replace HB := am (below_step (be HB) hb); (try clear hb); (try clear hb2); (try clear hk); (try clear hi); (try clear ho0); obtain ⟨Ao17, co17, eo17⟩ := Kd.R_slice HO381.out; subst eo17) | ((with_reducible refine gate_callee (f := 64) rfl ?_); refine gL (some 26) Try.func64 #[.agg (csBay t376 t377 t378), .slice Ao17 t379.length co17] ?_; (with_reducible refine (spec_GreedyBoats.calls k t376 t377 t378 _ _ t379 t382 t385 _ ?side1 ?side2 A8.out).mono ?_); (case side1 => repeat (first | exact (Kd.R_reads' HO381.out).2.2 | (with_reducible refine Kd.C_alloc ?_ _) | (with_reducible refine Kd.C_drewN ?_ _) | (with_reducible refine Kd.C_drew ?_))); (case side2 => exact (Kd.R_reads' HO381.out).2.1); rintro e w18 ⟨v383, rfl, ho0, hb⟩; refine ⟨_, rfl, ?_⟩; have HO384 := am (Kd.R_lower ho0 (below_size (be HB))); replace HO381 := am (Kd.R_below (kr HO381) hb); replace BK374 := bB BK374 hb; replace HB := am (below_step (be HB) hb); (try clear hb); (try clear hb2); (try clear hk); (try clear hi); (try clear ho0)) | ((with_reducible refine gate_callee (f := 33) rfl ?_); refine gL (some 30) Try.func33 #[.slice A1 l1.length c1] ?_; (with_reducible refine (laws_toBoatS.calls k _ _ l1 t386 _ ?side1 ?side2 A9.out).mono ?_); (case side1 => repeat (first | exact (Kd.C_below HR1.out HB.out) | (with_reducible refine Kd.C_alloc ?_ _) | (with_reducible refine Kd.C_drewN ?_ _) | (with_reducible refine Kd.C_drew ?_))); (case side2 => exact HC1.out); rintro e w19 ⟨v387, rfl, ho0, hb⟩; refine ⟨_, rfl, ?_⟩; have HO388 := am (Kd.R_lower (Kd.R_new' ho0 (Kd.R_lt (kr HO381))) (below_size (be HB))); replace HO381 := am (Kd.R_elder' (kr HO381) (Kd.R_base ho0) hb); replace HO384 := am (Kd.R_below (kr HO384) hb); replace BK374 := bB BK374 hb; replace HB := am (below_step (be HB) hb); (try clear hb); (try clear hb2); (try clear hk); (try clear hi); (try clear ho0); obtain ⟨hcz20_0, hcz20_1, hwz20, haz20, hyz20, hvz20, hfz20_0, hfz20_1, hfz20_2⟩ := bb26 BK374) | ((with_reducible refine gate_callee (f := 26) rfl ?_); refine gL (some 33) Try.func26 #[.agg (csBay a0_0 a0_1 a0_2)] ?_; (with_reducible refine (laws_toBay.calls a0_0 a0_1 a0_2 t389 t390 t391 _ A10.out).mono ?_); rintro e w21 ⟨rfl, hb⟩; refine ⟨_, rfl, ?_⟩; replace HO381 := am (Kd.R_below (kr HO381) hb); replace HO384 := am (Kd.R_below (kr HO384) hb); replace HO388 := am (Kd.R_below (kr HO388) hb); replace BK374 := bB BK374 hb; replace HB := am (below_step (be HB) hb); (try clear hb); (try clear hb2); (try clear hk); (try clear hi); obtain ⟨Ao22, co22, eo22⟩ := Kd.R_slice HO388.out; subst eo22) | ((with_reducible refine gate_callee (f := 65) rfl ?_); refine gL (some 35) Try.func65 #[.agg (csBay t389 t390 t391), .slice Ao22 t386.length co22] ?_; (with_reducible refine (impl_GreedyBoats.calls k t389 t390 t391 _ _ t386 t392 t395 _ ?side1 ?side2 A11.out).mono ?_); (case side1 => repeat (first | exact (Kd.R_reads' HO388.out).2.2 | (with_reducible refine Kd.C_alloc ?_ _) | (with_reducible refine Kd.C_drewN ?_ _) | (with_reducible refine Kd.C_drew ?_))); (case side2 => exact (Kd.R_reads' HO388.out).2.1); rintro e w23 ⟨v393, rfl, ho0, hb⟩; refine ⟨_, rfl, ?_⟩; have HO394 := am (Kd.R_lower (Kd.R_new' ho0 (Kd.R_lt (kr HO384))) (below_size (be HB))); replace HO381 := am (Kd.R_below (kr HO381) hb); replace HO384 := am (Kd.R_elder' (kr HO384) (Kd.R_base ho0) hb); replace HO388 := am (Kd.R_below (kr HO388) hb); replace BK374 := bB BK374 hb; replace HB := am (below_step (be HB) hb); (try clear hb); (try clear hb2); (try clear hk); (try clear hi); (try clear ho0)))
  (try simp only [Act.put, List.setIfInBounds_toArray, List.set_cons_zero, List.set_cons_succ])
  go_cut [46] (fun v46 wc => ∃ (kq : Nat) (x46_11 : Bool), v46 = .bool x46_11 ∧ Aside0 (laws_FnExactGreedyBoats.j0 kq l1 t382 t385 t386 t392 t395 x46_11 a0_0 a0_1 a0_2 = some r) ∧ Aside0 (kq ≤ k) ∧ Aside0 (Kd.R (Kd.int .i64) 2 wc w.heap.size (fun k_ => some k_ ≠ (v393 : Value).ownBlock) v383 t382) ∧ Aside0 (Kd.R k38 38 wc w.heap.size (fun _ => True) (.slice Ao22 t386.length co22) t386) ∧ Aside0 (Kd.R (Kd.int .i64) 2 wc w.heap.size (fun k_ => some k_ ≠ (v383 : Value).ownBlock) v393 t392) ∧ Aside0 (wc.heap[gb374]? = some (.cells (csBay a0_0 a0_1 a0_2) 26 (0, 0))) ∧ Aside0 (Below w.heap.size w wc))
  case first =>
   have H := HC12.out
   clear HC12
   replace H := Option.bind_eq_some_iff.mp H
   obtain ⟨t396, A240, H⟩ := H
   try dsimp only at H
   have A24 := am A240
   clear A240
   by_cases c25 : t396 = true
   ·subst c25
    rw [if_pos rfl] at H
    have H' := am H
    clear H
    obtain ⟨Ao26, co26, eo26⟩ := Kd.R_slice HO394.out
    subst eo26
    obtain ⟨Ao27, co27, eo27⟩ := Kd.R_slice HO384.out
    subst eo27
    go_wp2_with (first | ((with_reducible refine gate_callee (f := 66) rfl ?_); refine gL (some 40) Try.func66 #[.slice Ao26 t392.length co26, .slice Ao27 t382.length co27] ?_; (with_reducible refine (laws_eqInt64S.calls k _ _ t392 _ _ t382 true _ ?side1 ?side2 ?side3 ?side4 A24.out).mono ?_); (case side1 => repeat (first | exact (Kd.R_reads' HO394.out).2.2 | (with_reducible refine Kd.C_alloc ?_ _) | (with_reducible refine Kd.C_drewN ?_ _) | (with_reducible refine Kd.C_drew ?_))); (case side2 => exact (Kd.R_reads' HO394.out).2.1); (case side3 => repeat (first | exact (Kd.R_reads' HO384.out).2.2 | (with_reducible refine Kd.C_alloc ?_ _) | (with_reducible refine Kd.C_drewN ?_ _) | (with_reducible refine Kd.C_drew ?_))); (case side4 => exact (Kd.R_reads' HO384.out).2.1); rintro e w' ⟨rfl, ⟨nd, rfl⟩⟩; refine ⟨_, rfl, ?_⟩))
    go_meet
    case rel => exact ⟨_, ((t395 != t385)), vv, H', ⟨by first | omega | exact Nat.le_refl _⟩, ⟨by (with_reducible repeat (first | apply Kd.R_alloc | apply Kd.R_drewN | apply Kd.R_drew)); exact Kd.R_mono HO384.out (fun _ hk => hk.2)⟩, ⟨by (with_reducible repeat (first | apply Kd.R_alloc | apply Kd.R_drewN | apply Kd.R_drew)); exact Kd.R_mono HO388.out (fun _ hk => trivial)⟩, ⟨by (with_reducible repeat (first | apply Kd.R_alloc | apply Kd.R_drewN | apply Kd.R_drew)); exact Kd.R_mono HO394.out (fun _ hk => hk.2)⟩, ⟨kb BK374⟩, ⟨be HB⟩⟩
   ·replace c25 := Bool.eq_false_iff.mpr c25
    subst c25
    have H1 : (laws_FnExactGreedyBoats.j0 k l1 t382 t385 t386 t392 t395 true a0_0 a0_1 a0_2) = some r := by rw [if_neg (show ¬ (false = true) by decide)] at H; exact H
    clear H
    have H := H1
    clear H1
    have H' := am H
    clear H
    obtain ⟨Ao28, co28, eo28⟩ := Kd.R_slice HO394.out
    subst eo28
    obtain ⟨Ao29, co29, eo29⟩ := Kd.R_slice HO384.out
    subst eo29
    go_wp2_with (first | ((with_reducible refine gate_callee (f := 66) rfl ?_); refine gL (some 40) Try.func66 #[.slice Ao28 t392.length co28, .slice Ao29 t382.length co29] ?_; (with_reducible refine (laws_eqInt64S.calls k _ _ t392 _ _ t382 false _ ?side1 ?side2 ?side3 ?side4 A24.out).mono ?_); (case side1 => repeat (first | exact (Kd.R_reads' HO394.out).2.2 | (with_reducible refine Kd.C_alloc ?_ _) | (with_reducible refine Kd.C_drewN ?_ _) | (with_reducible refine Kd.C_drew ?_))); (case side2 => exact (Kd.R_reads' HO394.out).2.1); (case side3 => repeat (first | exact (Kd.R_reads' HO384.out).2.2 | (with_reducible refine Kd.C_alloc ?_ _) | (with_reducible refine Kd.C_drewN ?_ _) | (with_reducible refine Kd.C_drew ?_))); (case side4 => exact (Kd.R_reads' HO384.out).2.1); rintro e w' ⟨rfl, ⟨nd, rfl⟩⟩; refine ⟨_, rfl, ?_⟩))
    go_meet
    case rel => exact ⟨_, (true), vv, H', ⟨by first | omega | exact Nat.le_refl _⟩, ⟨by (with_reducible repeat (first | apply Kd.R_alloc | apply Kd.R_drewN | apply Kd.R_drew)); exact Kd.R_mono HO384.out (fun _ hk => hk.2)⟩, ⟨by (with_reducible repeat (first | apply Kd.R_alloc | apply Kd.R_drewN | apply Kd.R_drew)); exact Kd.R_mono HO388.out (fun _ hk => trivial)⟩, ⟨by (with_reducible repeat (first | apply Kd.R_alloc | apply Kd.R_drewN | apply Kd.R_drew)); exact Kd.R_mono HO394.out (fun _ hk => hk.2)⟩, ⟨kb BK374⟩, ⟨be HB⟩⟩
  case rest =>
   clear HC12
   try clear c1
   try clear c2
   try clear p2
   try clear c3
   try clear c4
   try clear c4b0
   try clear c6
   try clear c16
   try clear c25
   try clear c26
   try clear hcz14_0
   try clear hcz14_1
   try clear hcz20_0
   try clear hcz20_1
   try clear hfz14_0
   try clear hfz14_1
   try clear hfz14_2
   try clear hfz20_0
   try clear hfz20_1
   try clear hfz20_2
   obtain ⟨kq, x46_11, rfl, HA, HJ11, HO_6, HO_8, HO_9, BK374, HB⟩ := hcut
   cases kq with
   | zero => exact absurd HA.out (by simp [laws_FnExactGreedyBoats.j0])
   | succ kj11 =>
    have H := HA.out
    clear HA
    simp only [laws_FnExactGreedyBoats.j0] at H
    by_cases c30 : x46_11 = true
    ·subst c30
     rw [if_pos rfl] at H
     obtain rfl := Option.some.inj H
     go_wp2
     go_ret
     exact ⟨by first | rfl | (simp [errW_none, errW_some] <;> rfl) | (simp [*, errW_none, errW_some] <;> rfl), be HB⟩
    ·replace c30 := Bool.eq_false_iff.mpr c30
     subst c30
     have H1 : ((laws_toBoatS.f kj11 l1).bind fun t397 => ((laws_eqBoatS.f kj11 t386 t397).bind fun t400 => (if t400 = true then ((laws_markBoatS.f kj11 t386 1).bind fun bt401 => (if bt401.1 < 0 then (laws_FnExactGreedyBoats.j1 kj11 l1 t382 t385 t392 true a0_0 a0_1 a0_2) else ((laws_eqInt64S.f kj11 t392 t382).bind fun t403 => (if t403 = true then (laws_FnExactGreedyBoats.j1 kj11 l1 t382 t385 t392 (t395 != t385) a0_0 a0_1 a0_2) else (laws_FnExactGreedyBoats.j1 kj11 l1 t382 t385 t392 true a0_0 a0_1 a0_2))))) else (some false)))) = some r := by rw [if_neg (show ¬ (false = true) by decide)] at H; exact H
     clear H
     have H := H1
     clear H1
     replace H := Option.bind_eq_some_iff.mp H
     obtain ⟨t397, A310, H⟩ := H
     try dsimp only at H
     have A31 := am A310
     clear A310
     replace H := Option.bind_eq_some_iff.mp H
     obtain ⟨t400, A320, H⟩ := H
     try dsimp only at H
     have A32 := am A320
     clear A320
     by_cases c33 : t400 = true
     ·subst c33
      rw [if_pos rfl] at H
      replace H := Option.bind_eq_some_iff.mp H
      obtain ⟨⟨t401, t402⟩, A340, H⟩ := H
      try dsimp only at H
      have A34 := am A340
      clear A340
      have HC35 := am H
      clear H
      go_upto_region 14 with (first | ((with_reducible refine gate_callee (f := 33) rfl ?_); refine gL (some 49) Try.func33 #[.slice A1 l1.length c1] ?_; (with_reducible refine (laws_toBoatS.calls kj11 _ _ l1 t397 _ ?side1 ?side2 A31.out).mono ?_); (case side1 => repeat (first | exact (Kd.C_below HR1.out HB.out) | (with_reducible refine Kd.C_alloc ?_ _) | (with_reducible refine Kd.C_drewN ?_ _) | (with_reducible refine Kd.C_drew ?_))); (case side2 => exact HC1.out); rintro e w36 ⟨v398, rfl, ho0, hb⟩; refine ⟨_, rfl, ?_⟩; have HO399 := am (Kd.R_lower (Kd.R_new' ho0 (Kd.R_lt (kr HO_8))) (below_size (be HB))); replace HO_6 := am (Kd.R_below (kr HO_6) hb); replace HO_8 := am (Kd.R_elder' (kr HO_8) (Kd.R_base ho0) hb); replace HO_9 := am (Kd.R_below (kr HO_9) hb); replace BK374 := bB BK374 hb; replace HB := am (below_step (be HB) hb); (try clear hb); (try clear hb2); (try clear hk); (try clear hi); (try clear ho0); obtain ⟨Ao37, co37, eo37⟩ := Kd.R_slice HO399.out; subst eo37) | ((with_reducible refine gate_callee (f := 35) rfl ?_); refine gL (some 50) Try.func35 #[.slice Ao22 t386.length co22, .slice Ao37 t397.length co37] ?_; (with_reducible refine (laws_eqBoatS.calls kj11 _ _ t386 _ _ t397 true _ ?side1 ?side2 ?side3 ?side4 A32.out).mono ?_); (case side1 => repeat (first | exact (Kd.R_reads' HO_8.out).2.2 | (with_reducible refine Kd.C_alloc ?_ _) | (with_reducible refine Kd.C_drewN ?_ _) | (with_reducible refine Kd.C_drew ?_))); (case side2 => exact (Kd.R_reads' HO_8.out).2.1); (case side3 => repeat (first | exact (Kd.R_reads' HO399.out).2.2 | (with_reducible refine Kd.C_alloc ?_ _) | (with_reducible refine Kd.C_drewN ?_ _) | (with_reducible refine Kd.C_drew ?_))); (case side4 => exact (Kd.R_reads' HO399.out).2.1); rintro e w38 ⟨rfl, hb⟩; refine ⟨_, rfl, ?_⟩; replace HO_6 := am (Kd.R_below (kr HO_6) hb); replace HO_8 := am (Kd.R_below (kr HO_8) hb); replace HO_9 := am (Kd.R_below (kr HO_9) hb); replace HO399 := am (Kd.R_below (kr HO399) hb); replace BK374 := bB BK374 hb; replace HB := am (below_step (be HB) hb); (try clear hb); (try clear hb2); (try clear hk); (try clear hi)) | ((with_reducible refine gate_callee (f := 57) rfl ?_); refine gL (some 54) Try.func57 #[.slice Ao22 t386.length co22, .int .i64 1] ?_; (with_reducible refine (laws_markBoatS.calls kj11 (fun k_ => some k_ = (.slice Ao22 t386.length co22 : Value).ownBlock) (.slice Ao22 t386.length co22) t386 1 t401 t402 w _ ?side1 ?side2 A34.out).mono ?_); (case side1 => exact be HB); (case side2 => exact Kd.R_tight rfl HO_8.out); rintro e w39 ⟨rfl, hy0, hb, hkp⟩; refine ⟨_, rfl, ?_⟩; replace HO_6 := am (Kd.R_mono (ok' := fun k_ => some k_ ≠ (v393 : Value).ownBlock) (Kd.R_keptB ((Kd.R_apart' HO_6.out (Kd.R_typed HO_8.out) (by decide))) hkp (fun k_ hk_ hs_ => (hk_.2) hs_)) (fun k_ hk_ => hk_.1.1)); replace HO_9 := am (Kd.R_mono (ok' := fun k_ => some k_ ≠ (v383 : Value).ownBlock) (Kd.R_keptB ((Kd.R_apart' HO_9.out (Kd.R_typed HO_8.out) (by decide))) hkp (fun k_ hk_ hs_ => (hk_.2) hs_)) (fun k_ hk_ => hk_.1.1)); replace BK374 := am (blk_kept (kb BK374) hkp (fun hs_ => (fun e_ => (Kd.R_ne HO_8.out BK374.out (by decide)) e_) hs_)); replace HO_8 := am (Kd.R_reok rfl hy0 (fun k_ e_ => HO_8.out.1 k_ e_)); replace HO399 := am (Kd.R_mono (ok' := fun k_ => some k_ ≠ (.slice Ao22 t386.length co22 : Value).ownBlock) (Kd.R_keptB (HO399.out) hkp (fun k_ hk_ hs_ => (hk_.2) hs_)) (fun k_ hk_ => hk_.1.2)); replace HB := am (hb); (try clear hb); (try clear hkp); (try clear hy0)))
      (try simp only [Act.put, List.setIfInBounds_toArray, List.set_cons_zero, List.set_cons_succ])
      go_cut [67] (fun v67 wc => ∃ (kq : Nat) (x67_34 : Bool), v67 = .bool x67_34 ∧ Aside0 (laws_FnExactGreedyBoats.j1 kq l1 t382 t385 t392 x67_34 a0_0 a0_1 a0_2 = some r) ∧ Aside0 (kq ≤ kj11) ∧ Aside0 (Kd.R (Kd.int .i64) 2 wc w.heap.size (fun k_ => some k_ ≠ (v393 : Value).ownBlock) v383 t382) ∧ Aside0 (Kd.R (Kd.int .i64) 2 wc w.heap.size (fun k_ => some k_ ≠ (v383 : Value).ownBlock) v393 t392) ∧ Aside0 (wc.heap[gb374]? = some (.cells (csBay a0_0 a0_1 a0_2) 26 (0, 0))) ∧ Aside0 (Below w.heap.size w wc))
      case first =>
       have H := HC35.out
       clear HC35
       by_cases c40 : t401 < 0
       ·rw [if_pos c40] at H
        have c40b0 : decide (t401 < 0) = true := decide_eq_true c40
        clear c40
        (first | rw [c40b0] | (simp only [i64_w, i32_w]; rw [c40b0]) | skip)
        have H' := am H
        clear H
        go_wp2
        go_meet
        case rel => exact ⟨_, (true), vv, H', ⟨by have := HJ11.out; first | omega | exact Nat.le_refl _⟩, ⟨kr HO_6⟩, ⟨kr HO_9⟩, ⟨kb BK374⟩, ⟨be HB⟩⟩
       ·rw [if_neg c40] at H
        have c40b0 : decide (t401 < 0) = false := decide_eq_false c40
        clear c40
        (first | rw [c40b0] | (simp only [i64_w, i32_w]; rw [c40b0]) | skip)
        replace H := Option.bind_eq_some_iff.mp H
        obtain ⟨t403, A410, H⟩ := H
        try dsimp only at H
        have A41 := am A410
        clear A410
        by_cases c42 : t403 = true
        ·subst c42
         rw [if_pos rfl] at H
         have H' := am H
         clear H
         obtain ⟨Ao43, co43, eo43⟩ := Kd.R_slice HO_9.out
         subst eo43
         obtain ⟨Ao44, co44, eo44⟩ := Kd.R_slice HO_6.out
         subst eo44
         go_wp2_with (first | (go_at_call 66; (with_reducible refine (laws_eqInt64S.calls kj11 _ _ t392 _ _ t382 true _ ?side1 ?side2 ?side3 ?side4 A41.out).mono ?_); (case side1 => repeat (first | exact (Kd.R_reads' HO_9.out).2.2 | (with_reducible refine Kd.C_alloc ?_ _) | (with_reducible refine Kd.C_drewN ?_ _) | (with_reducible refine Kd.C_drew ?_))); (case side2 => exact (Kd.R_reads' HO_9.out).2.1); (case side3 => repeat (first | exact (Kd.R_reads' HO_6.out).2.2 | (with_reducible refine Kd.C_alloc ?_ _) | (with_reducible refine Kd.C_drewN ?_ _) | (with_reducible refine Kd.C_drew ?_))); (case side4 => exact (Kd.R_reads' HO_6.out).2.1); rintro e w' ⟨rfl, ⟨nd, rfl⟩⟩))
         go_meet
         case rel => exact ⟨_, ((t395 != t385)), vv, H', ⟨by have := HJ11.out; first | omega | exact Nat.le_refl _⟩, ⟨kr HO_6⟩, ⟨kr HO_9⟩, ⟨kb BK374⟩, ⟨be HB⟩⟩
        ·replace c42 := Bool.eq_false_iff.mpr c42
         subst c42
         have H1 : (laws_FnExactGreedyBoats.j1 kj11 l1 t382 t385 t392 true a0_0 a0_1 a0_2) = some r := by rw [if_neg (show ¬ (false = true) by decide)] at H; exact H
         clear H
         have H := H1
         clear H1
         have H' := am H
         clear H
         obtain ⟨Ao45, co45, eo45⟩ := Kd.R_slice HO_9.out
         subst eo45
         obtain ⟨Ao46, co46, eo46⟩ := Kd.R_slice HO_6.out
         subst eo46
         go_wp2_with (first | (go_at_call 66; (with_reducible refine (laws_eqInt64S.calls kj11 _ _ t392 _ _ t382 false _ ?side1 ?side2 ?side3 ?side4 A41.out).mono ?_); (case side1 => repeat (first | exact (Kd.R_reads' HO_9.out).2.2 | (with_reducible refine Kd.C_alloc ?_ _) | (with_reducible refine Kd.C_drewN ?_ _) | (with_reducible refine Kd.C_drew ?_))); (case side2 => exact (Kd.R_reads' HO_9.out).2.1); (case side3 => repeat (first | exact (Kd.R_reads' HO_6.out).2.2 | (with_reducible refine Kd.C_alloc ?_ _) | (with_reducible refine Kd.C_drewN ?_ _) | (with_reducible refine Kd.C_drew ?_))); (case side4 => exact (Kd.R_reads' HO_6.out).2.1); rintro e w' ⟨rfl, ⟨nd, rfl⟩⟩))
         go_meet
         case rel => exact ⟨_, (true), vv, H', ⟨by have := HJ11.out; first | omega | exact Nat.le_refl _⟩, ⟨kr HO_6⟩, ⟨kr HO_9⟩, ⟨kb BK374⟩, ⟨be HB⟩⟩
      case rest =>
       clear HC35
       try clear c1
       try clear c2
       try clear p2
       try clear c3
       try clear c4
       try clear c4b0
       try clear c5
       try clear c6
       try clear c16
       try clear c25
       try clear c26
       try clear c30
       try clear c31
       try clear c33
       try clear c35
       try clear c40
       try clear c40b0
       try clear c42
       try clear hcz14_0
       try clear hcz14_1
       try clear hcz20_0
       try clear hcz20_1
       try clear hfz14_0
       try clear hfz14_1
       try clear hfz14_2
       try clear hfz20_0
       try clear hfz20_1
       try clear hfz20_2
       try clear p2
       obtain ⟨kq, x67_34, rfl, HA, HJ34, HO_6, HO_9, BK374, HB⟩ := hcut
       cases kq with
       | zero => exact absurd HA.out (by simp [laws_FnExactGreedyBoats.j1])
       | succ kj34 =>
        have H := HA.out
        clear HA
        simp only [laws_FnExactGreedyBoats.j1] at H
        by_cases c47 : x67_34 = true
        ·subst c47
         rw [if_pos rfl] at H
         obtain rfl := Option.some.inj H
         go_wp2
         go_ret
         exact ⟨by first | rfl | (simp [errW_none, errW_some] <;> rfl) | (simp [*, errW_none, errW_some] <;> rfl), be HB⟩
        ·replace c47 := Bool.eq_false_iff.mpr c47
         subst c47
         have H1 : ((laws_markInt64S.f kj34 t392 1).bind fun bt404 => ((laws_heldInt64S.f kj34 bt404.2 1).bind fun t406 => (if t406 < 0 then (some false) else (if t406 = bt404.1 then ((laws_toBay.f a0_0 a0_1 a0_2).bind fun bt407 => ((laws_toBoatS.f kj34 l1).bind fun t410 => ((impl_GreedyBoats.f kj34 bt407.1 bt407.2.1 bt407.2.2 t410).bind fun bt413 => ((laws_eqInt64S.f kj34 bt413.1 t382).bind fun t417 => (if t417 = true then (laws_FnExactGreedyBoats.j2 kj34 bt404.2 bt404.1 (bt413.2 != t385)) else (laws_FnExactGreedyBoats.j2 kj34 bt404.2 bt404.1 true)))))) else (some false))))) = some r := by rw [if_neg (show ¬ (false = true) by decide)] at H; exact H
         clear H
         have H := H1
         clear H1
         replace H := Option.bind_eq_some_iff.mp H
         obtain ⟨⟨t404, t405⟩, A480, H⟩ := H
         try dsimp only at H
         have A48 := am A480
         clear A480
         replace H := Option.bind_eq_some_iff.mp H
         obtain ⟨t406, A490, H⟩ := H
         try dsimp only at H
         have A49 := am A490
         clear A490
         by_cases c50 : t406 < 0
         ·rw [if_pos c50] at H
          have c50b0 : decide (t406 < 0) = true := decide_eq_true c50
          clear c50
          obtain rfl := Option.some.inj H
          obtain ⟨Ao51, co51, eo51⟩ := Kd.R_slice HO_9.out
          subst eo51
          go_wp2_with (first | ((with_reducible refine gate_callee (f := 67) rfl ?_); refine gL (some 70) Try.func67 #[.slice Ao51 t392.length co51, .int .i64 1] ?_; (with_reducible refine (laws_markInt64S.calls kj34 (fun k_ => some k_ = (.slice Ao51 t392.length co51 : Value).ownBlock) (.slice Ao51 t392.length co51) t392 1 t404 t405 w _ ?side1 ?side2 A48.out).mono ?_); (case side1 => exact be HB); (case side2 => exact Kd.R_tight rfl HO_9.out); rintro e w52 ⟨rfl, hy0, hb, hkp⟩; refine ⟨_, rfl, ?_⟩; replace HO_6 := am (Kd.R_mono (ok' := fun k_ => some k_ ≠ (.slice Ao51 t392.length co51 : Value).ownBlock) (Kd.R_keptB (HO_6.out) hkp (fun k_ hk_ hs_ => (hk_) hs_)) (fun k_ hk_ => hk_.1)); replace BK374 := am (blk_kept (kb BK374) hkp (fun hs_ => (fun e_ => (Kd.R_ne HO_9.out BK374.out (by decide)) e_) hs_)); replace HO_9 := am (Kd.R_reok rfl hy0 (fun k_ e_ => HO_9.out.1 k_ e_)); replace HB := am (hb); (try clear hb); (try clear hkp); (try clear hy0)) | ((with_reducible refine gate_callee (f := 68) rfl ?_); refine goesL_ (some 73) rfl rfl Try.func68 (by kernel_rfl) rfl #[.slice Ao51 t405.length co51, .int .i64 1] rfl (by (try simp only [List.map_toArray, List.map_cons, List.map_nil]); first | done | (rw [show t405.length = t392.length from (Kd.R_reads' HO_9.out).1.symm] <;> rfl) | rfl | (simp only [List.length_drop, List.length_take]; rfl)) ?_; (with_reducible refine (laws_heldInt64S.calls kj34 _ _ t405 1 t406 _ ?side1 ?side2 A49.out).mono ?_); (case side1 => repeat (first | exact (Kd.R_reads' HO_9.out).2.2 | (with_reducible refine Kd.C_alloc ?_ _) | (with_reducible refine Kd.C_drewN ?_ _) | (with_reducible refine Kd.C_drew ?_))); (case side2 => rw [show t405.length = t392.length from (Kd.R_reads' HO_9.out).1.symm]; exact (Kd.R_reads' HO_9.out).2.1); rintro e w' ⟨rfl, ⟨nd, rfl⟩⟩; refine ⟨_, rfl, ?_⟩))
          go_ret
          exact ⟨by first | rfl | (simp [errW_none, errW_some] <;> rfl) | (simp [*, errW_none, errW_some] <;> rfl), be HB⟩
         ·rw [if_neg c50] at H
          have c50b0 : decide (t406 < 0) = false := decide_eq_false c50
          clear c50
          by_cases c53 : t406 = t404
          ·rw [if_pos c53] at H
           have c53b0 : (t406 == t404) = true := beq_iff_eq.mpr c53
           have c53b1 : (t406 != t404) = false := bne_eq_false_iff_eq.mpr c53
           clear c53
           replace H := Option.bind_eq_some_iff.mp H
           obtain ⟨⟨t407, t408, t409⟩, A540, H⟩ := H
           try dsimp only at H
           have A54 := am A540
           clear A540
           replace H := Option.bind_eq_some_iff.mp H
           obtain ⟨t410, A550, H⟩ := H
           try dsimp only at H
           have A55 := am A550
           clear A550
           replace H := Option.bind_eq_some_iff.mp H
           obtain ⟨⟨t413, t416⟩, A560, H⟩ := H
           try dsimp only at H
           have A56 := am A560
           clear A560
           have HC57 := am H
           clear H
           obtain ⟨Ao58, co58, eo58⟩ := Kd.R_slice HO_9.out
           subst eo58
           go_upto_region 25 with (first | ((with_reducible refine gate_callee (f := 67) rfl ?_); refine gL (some 70) Try.func67 #[.slice Ao58 t392.length co58, .int .i64 1] ?_; (with_reducible refine (laws_markInt64S.calls kj34 (fun k_ => some k_ = (.slice Ao58 t392.length co58 : Value).ownBlock) (.slice Ao58 t392.length co58) t392 1 t404 t405 w _ ?side1 ?side2 A48.out).mono ?_); (case side1 => exact be HB); (case side2 => exact Kd.R_tight rfl HO_9.out); rintro e w59 ⟨rfl, hy0, hb, hkp⟩; refine ⟨_, rfl, ?_⟩; replace HO_6 := am (Kd.R_mono (ok' := fun k_ => some k_ ≠ (.slice Ao58 t392.length co58 : Value).ownBlock) (Kd.R_keptB (HO_6.out) hkp (fun k_ hk_ hs_ => (hk_) hs_)) (fun k_ hk_ => hk_.1)); replace BK374 := am (blk_kept (kb BK374) hkp (fun hs_ => (fun e_ => (Kd.R_ne HO_9.out BK374.out (by decide)) e_) hs_)); replace HO_9 := am (Kd.R_reok rfl hy0 (fun k_ e_ => HO_9.out.1 k_ e_)); replace HB := am (hb); (try clear hb); (try clear hkp); (try clear hy0)) | ((with_reducible refine gate_callee (f := 68) rfl ?_); refine goesL_ (some 73) rfl rfl Try.func68 (by kernel_rfl) rfl #[.slice Ao58 t405.length co58, .int .i64 1] rfl (by (try simp only [List.map_toArray, List.map_cons, List.map_nil]); first | done | (rw [show t405.length = t392.length from (Kd.R_reads' HO_9.out).1.symm] <;> rfl) | rfl | (simp only [List.length_drop, List.length_take]; rfl)) ?_; (with_reducible refine (laws_heldInt64S.calls kj34 _ _ t405 1 t406 _ ?side1 ?side2 A49.out).mono ?_); (case side1 => repeat (first | exact (Kd.R_reads' HO_9.out).2.2 | (with_reducible refine Kd.C_alloc ?_ _) | (with_reducible refine Kd.C_drewN ?_ _) | (with_reducible refine Kd.C_drew ?_))); (case side2 => rw [show t405.length = t392.length from (Kd.R_reads' HO_9.out).1.symm]; exact (Kd.R_reads' HO_9.out).2.1); rintro e w' ⟨rfl, ⟨nd, rfl⟩⟩; refine ⟨_, rfl, ?_⟩; obtain ⟨hcz60_0, hcz60_1, hwz60, haz60, hyz60, hvz60, hfz60_0, hfz60_1, hfz60_2⟩ := bb26 BK374) | ((with_reducible refine gate_callee (f := 26) rfl ?_); refine gL (some 81) Try.func26 #[.agg (csBay a0_0 a0_1 a0_2)] ?_; (with_reducible refine (laws_toBay.calls a0_0 a0_1 a0_2 t407 t408 t409 _ A54.out).mono ?_); rintro e w61 ⟨rfl, hb⟩; refine ⟨_, rfl, ?_⟩; replace HO_6 := am (Kd.R_below (kr HO_6) hb); replace HO_9 := am (Kd.R_below (kr HO_9) hb); replace BK374 := bB BK374 hb; replace HB := am (below_step (be HB) hb); (try clear hb); (try clear hb2); (try clear hk); (try clear hi)) | ((with_reducible refine gate_callee (f := 33) rfl ?_); refine gL (some 83) Try.func33 #[.slice A1 l1.length c1] ?_; (with_reducible refine (laws_toBoatS.calls kj34 _ _ l1 t410 _ ?side1 ?side2 A55.out).mono ?_); (case side1 => repeat (first | exact (Kd.C_below HR1.out HB.out) | (with_reducible refine Kd.C_alloc ?_ _) | (with_reducible refine Kd.C_drewN ?_ _) | (with_reducible refine Kd.C_drew ?_))); (case side2 => exact HC1.out); rintro e w62 ⟨v411, rfl, ho0, hb⟩; refine ⟨_, rfl, ?_⟩; have HO412 := am (Kd.R_lower ho0 (below_size (be HB))); replace HO_6 := am (Kd.R_below (kr HO_6) hb); replace HO_9 := am (Kd.R_below (kr HO_9) hb); replace BK374 := bB BK374 hb; replace HB := am (below_step (be HB) hb); (try clear hb); (try clear hb2); (try clear hk); (try clear hi); (try clear ho0); obtain ⟨Ao63, co63, eo63⟩ := Kd.R_slice HO412.out; subst eo63) | ((with_reducible refine gate_callee (f := 65) rfl ?_); refine gL (some 84) Try.func65 #[.agg (csBay t407 t408 t409), .slice Ao63 t410.length co63] ?_; (with_reducible refine (impl_GreedyBoats.calls kj34 t407 t408 t409 _ _ t410 t413 t416 _ ?side1 ?side2 A56.out).mono ?_); (case side1 => repeat (first | exact (Kd.R_reads' HO412.out).2.2 | (with_reducible refine Kd.C_alloc ?_ _) | (with_reducible refine Kd.C_drewN ?_ _) | (with_reducible refine Kd.C_drew ?_))); (case side2 => exact (Kd.R_reads' HO412.out).2.1); rintro e w64 ⟨v414, rfl, ho0, hb⟩; refine ⟨_, rfl, ?_⟩; have HO415 := am (Kd.R_lower (Kd.R_new' (Kd.R_new' ho0 (Kd.R_lt (kr HO_6))) (Kd.R_lt (kr HO_9))) (below_size (be HB))); replace HO_6 := am (Kd.R_elder' (kr HO_6) (Kd.R_base ho0) hb); replace HO_9 := am (Kd.R_elder' (kr HO_9) (Kd.R_base ho0) hb); replace HO412 := am (Kd.R_below (kr HO412) hb); replace BK374 := bB BK374 hb; replace HB := am (below_step (be HB) hb); (try clear hb); (try clear hb2); (try clear hk); (try clear hi); (try clear ho0)))
           (try simp only [Act.put, List.setIfInBounds_toArray, List.set_cons_zero, List.set_cons_succ])
           go_cut [95] (fun v95 wc => ∃ (kq : Nat) (x95_56 : Bool), v95 = .bool x95_56 ∧ Aside0 (laws_FnExactGreedyBoats.j2 kq t405 t404 x95_56 = some r) ∧ Aside0 (kq ≤ kj34) ∧ Aside0 (Kd.R (Kd.int .i64) 2 wc w.heap.size (fun _ => True) (.slice Ao58 t392.length co58) t405) ∧ Aside0 (wc.heap[gb374]? = some (.cells (csBay a0_0 a0_1 a0_2) 26 (0, 0))) ∧ Aside0 (Below w.heap.size w wc))
           case first =>
            have H := HC57.out
            clear HC57
            replace H := Option.bind_eq_some_iff.mp H
            obtain ⟨t417, A650, H⟩ := H
            try dsimp only at H
            have A65 := am A650
            clear A650
            by_cases c66 : t417 = true
            ·subst c66
             rw [if_pos rfl] at H
             have H' := am H
             clear H
             obtain ⟨Ao67, co67, eo67⟩ := Kd.R_slice HO415.out
             subst eo67
             obtain ⟨Ao68, co68, eo68⟩ := Kd.R_slice HO_6.out
             subst eo68
             go_wp2_with (first | ((with_reducible refine gate_callee (f := 66) rfl ?_); refine gL (some 89) Try.func66 #[.slice Ao67 t413.length co67, .slice Ao68 t382.length co68] ?_; (with_reducible refine (laws_eqInt64S.calls kj34 _ _ t413 _ _ t382 true _ ?side1 ?side2 ?side3 ?side4 A65.out).mono ?_); (case side1 => repeat (first | exact (Kd.R_reads' HO415.out).2.2 | (with_reducible refine Kd.C_alloc ?_ _) | (with_reducible refine Kd.C_drewN ?_ _) | (with_reducible refine Kd.C_drew ?_))); (case side2 => exact (Kd.R_reads' HO415.out).2.1); (case side3 => repeat (first | exact (Kd.R_reads' HO_6.out).2.2 | (with_reducible refine Kd.C_alloc ?_ _) | (with_reducible refine Kd.C_drewN ?_ _) | (with_reducible refine Kd.C_drew ?_))); (case side4 => exact (Kd.R_reads' HO_6.out).2.1); rintro e w' ⟨rfl, ⟨nd, rfl⟩⟩; refine ⟨_, rfl, ?_⟩))
             go_meet
             case rel => exact ⟨_, ((t416 != t385)), vv, H', ⟨by have := HJ11.out; have := HJ34.out; first | omega | exact Nat.le_refl _⟩, ⟨by (with_reducible repeat (first | apply Kd.R_alloc | apply Kd.R_drewN | apply Kd.R_drew)); exact Kd.R_mono HO_9.out (fun _ hk => trivial)⟩, ⟨kb BK374⟩, ⟨be HB⟩⟩
            ·replace c66 := Bool.eq_false_iff.mpr c66
             subst c66
             have H1 : (laws_FnExactGreedyBoats.j2 kj34 t405 t404 true) = some r := by rw [if_neg (show ¬ (false = true) by decide)] at H; exact H
             clear H
             have H := H1
             clear H1
             have H' := am H
             clear H
             obtain ⟨Ao69, co69, eo69⟩ := Kd.R_slice HO415.out
             subst eo69
             obtain ⟨Ao70, co70, eo70⟩ := Kd.R_slice HO_6.out
             subst eo70
             go_wp2_with (first | ((with_reducible refine gate_callee (f := 66) rfl ?_); refine gL (some 89) Try.func66 #[.slice Ao69 t413.length co69, .slice Ao70 t382.length co70] ?_; (with_reducible refine (laws_eqInt64S.calls kj34 _ _ t413 _ _ t382 false _ ?side1 ?side2 ?side3 ?side4 A65.out).mono ?_); (case side1 => repeat (first | exact (Kd.R_reads' HO415.out).2.2 | (with_reducible refine Kd.C_alloc ?_ _) | (with_reducible refine Kd.C_drewN ?_ _) | (with_reducible refine Kd.C_drew ?_))); (case side2 => exact (Kd.R_reads' HO415.out).2.1); (case side3 => repeat (first | exact (Kd.R_reads' HO_6.out).2.2 | (with_reducible refine Kd.C_alloc ?_ _) | (with_reducible refine Kd.C_drewN ?_ _) | (with_reducible refine Kd.C_drew ?_))); (case side4 => exact (Kd.R_reads' HO_6.out).2.1); rintro e w' ⟨rfl, ⟨nd, rfl⟩⟩; refine ⟨_, rfl, ?_⟩))
             go_meet
             case rel => exact ⟨_, (true), vv, H', ⟨by have := HJ11.out; have := HJ34.out; first | omega | exact Nat.le_refl _⟩, ⟨by (with_reducible repeat (first | apply Kd.R_alloc | apply Kd.R_drewN | apply Kd.R_drew)); exact Kd.R_mono HO_9.out (fun _ hk => trivial)⟩, ⟨kb BK374⟩, ⟨be HB⟩⟩
           case rest =>
            clear HC57
            try clear c1
            try clear c2
            try clear p2
            try clear c3
            try clear c4
            try clear c4b0
            try clear c5
            try clear c6
            try clear c16
            try clear c25
            try clear c26
            try clear c30
            try clear c31
            try clear c33
            try clear c35
            try clear c40
            try clear c40b0
            try clear c42
            try clear c47
            try clear c50
            try clear c50b0
            try clear c53
            try clear c53b0
            try clear c53b1
            try clear c57
            try clear c64
            try clear c65
            try clear c66
            try clear c67
            try clear c68
            try clear hcz14_0
            try clear hcz14_1
            try clear hcz20_0
            try clear hcz20_1
            try clear hcz60_0
            try clear hcz60_1
            try clear hfz14_0
            try clear hfz14_1
            try clear hfz14_2
            try clear hfz20_0
            try clear hfz20_1
            try clear hfz20_2
            try clear hfz60_0
            try clear hfz60_1
            try clear hfz60_2
            try clear p2
            obtain ⟨kq, x95_56, rfl, HA, HJ56, HO_9, BK374, HB⟩ := hcut
            have hl9_56 := (Kd.R_reads' HO_9.out).1
            rw [hl9_56] at HO_9
            (try simp only [hl9_56])
            (try simp only [hl9_56] at BK374)
            cases kq with
            | zero => exact absurd HA.out (by simp [laws_FnExactGreedyBoats.j2])
            | succ kj56 =>
             have H := HA.out
             clear HA
             simp only [laws_FnExactGreedyBoats.j2] at H
             by_cases c71 : x95_56 = true
             ·subst c71
              rw [if_pos rfl] at H
              obtain rfl := Option.some.inj H
              go_wp2
              go_ret
              exact ⟨by first | rfl | (simp [errW_none, errW_some] <;> rfl) | (simp [*, errW_none, errW_some] <;> rfl), be HB⟩
             ·replace c71 := Bool.eq_false_iff.mpr c71
              subst c71
              have H1 : ((laws_heldInt64S.f kj56 t405 1).bind fun t418 => (if t418 < 0 then (some false) else (if t418 = t404 then (some true) else (some false)))) = some r := by rw [if_neg (show ¬ (false = true) by decide)] at H; exact H
              clear H
              have H := H1
              clear H1
              replace H := Option.bind_eq_some_iff.mp H
              obtain ⟨t418, A720, H⟩ := H
              try dsimp only at H
              have A72 := am A720
              clear A720
              by_cases c73 : t418 < 0
              ·rw [if_pos c73] at H
               have c73b0 : decide (t418 < 0) = true := decide_eq_true c73
               clear c73
               obtain rfl := Option.some.inj H
               go_wp2_with (first | ((with_reducible refine gate_callee (f := 68) rfl ?_); refine gL (some 98) Try.func68 #[.slice Ao58 t405.length co58, .int .i64 1] ?_; (with_reducible refine (laws_heldInt64S.calls kj56 _ _ t405 1 t418 _ ?side1 ?side2 A72.out).mono ?_); (case side1 => repeat (first | exact (Kd.R_reads' HO_9.out).2.2 | (with_reducible refine Kd.C_alloc ?_ _) | (with_reducible refine Kd.C_drewN ?_ _) | (with_reducible refine Kd.C_drew ?_))); (case side2 => exact (Kd.R_reads' HO_9.out).2.1); rintro e w' ⟨rfl, ⟨nd, rfl⟩⟩; refine ⟨_, rfl, ?_⟩))
               go_ret
               exact ⟨by first | rfl | (simp [errW_none, errW_some] <;> rfl) | (simp [*, errW_none, errW_some] <;> rfl), be HB⟩
              ·rw [if_neg c73] at H
               have c73b0 : decide (t418 < 0) = false := decide_eq_false c73
               clear c73
               by_cases c74 : t418 = t404
               ·rw [if_pos c74] at H
                have c74b0 : (t418 == t404) = true := beq_iff_eq.mpr c74
                have c74b1 : (t418 != t404) = false := bne_eq_false_iff_eq.mpr c74
                clear c74
                obtain rfl := Option.some.inj H
                go_wp2_with (first | ((with_reducible refine gate_callee (f := 68) rfl ?_); refine gL (some 98) Try.func68 #[.slice Ao58 t405.length co58, .int .i64 1] ?_; (with_reducible refine (laws_heldInt64S.calls kj56 _ _ t405 1 t418 _ ?side1 ?side2 A72.out).mono ?_); (case side1 => repeat (first | exact (Kd.R_reads' HO_9.out).2.2 | (with_reducible refine Kd.C_alloc ?_ _) | (with_reducible refine Kd.C_drewN ?_ _) | (with_reducible refine Kd.C_drew ?_))); (case side2 => exact (Kd.R_reads' HO_9.out).2.1); rintro e w' ⟨rfl, ⟨nd, rfl⟩⟩; refine ⟨_, rfl, ?_⟩))
                go_ret
                exact ⟨by first | rfl | (simp [errW_none, errW_some] <;> rfl) | (simp [*, errW_none, errW_some] <;> rfl), be HB⟩
               ·rw [if_neg c74] at H
                have c74b0 : (t418 == t404) = false := beq_eq_false_iff_ne.mpr c74
                have c74b1 : (t418 != t404) = true := bne_iff_ne.mpr c74
                obtain rfl := Option.some.inj H
                go_wp2_with (first | ((with_reducible refine gate_callee (f := 68) rfl ?_); refine gL (some 98) Try.func68 #[.slice Ao58 t405.length co58, .int .i64 1] ?_; (with_reducible refine (laws_heldInt64S.calls kj56 _ _ t405 1 t418 _ ?side1 ?side2 A72.out).mono ?_); (case side1 => repeat (first | exact (Kd.R_reads' HO_9.out).2.2 | (with_reducible refine Kd.C_alloc ?_ _) | (with_reducible refine Kd.C_drewN ?_ _) | (with_reducible refine Kd.C_drew ?_))); (case side2 => exact (Kd.R_reads' HO_9.out).2.1); rintro e w' ⟨rfl, ⟨nd, rfl⟩⟩; refine ⟨_, rfl, ?_⟩))
                go_ret
                exact ⟨by first | rfl | (simp [errW_none, errW_some] <;> rfl) | (simp [*, errW_none, errW_some] <;> rfl), be HB⟩
          ·rw [if_neg c53] at H
           have c53b0 : (t406 == t404) = false := beq_eq_false_iff_ne.mpr c53
           have c53b1 : (t406 != t404) = true := bne_iff_ne.mpr c53
           obtain rfl := Option.some.inj H
           obtain ⟨Ao75, co75, eo75⟩ := Kd.R_slice HO_9.out
           subst eo75
           go_wp2_with (first | ((with_reducible refine gate_callee (f := 67) rfl ?_); refine gL (some 70) Try.func67 #[.slice Ao75 t392.length co75, .int .i64 1] ?_; (with_reducible refine (laws_markInt64S.calls kj34 (fun k_ => some k_ = (.slice Ao75 t392.length co75 : Value).ownBlock) (.slice Ao75 t392.length co75) t392 1 t404 t405 w _ ?side1 ?side2 A48.out).mono ?_); (case side1 => exact be HB); (case side2 => exact Kd.R_tight rfl HO_9.out); rintro e w76 ⟨rfl, hy0, hb, hkp⟩; refine ⟨_, rfl, ?_⟩; replace HO_6 := am (Kd.R_mono (ok' := fun k_ => some k_ ≠ (.slice Ao75 t392.length co75 : Value).ownBlock) (Kd.R_keptB (HO_6.out) hkp (fun k_ hk_ hs_ => (hk_) hs_)) (fun k_ hk_ => hk_.1)); replace BK374 := am (blk_kept (kb BK374) hkp (fun hs_ => (fun e_ => (Kd.R_ne HO_9.out BK374.out (by decide)) e_) hs_)); replace HO_9 := am (Kd.R_reok rfl hy0 (fun k_ e_ => HO_9.out.1 k_ e_)); replace HB := am (hb); (try clear hb); (try clear hkp); (try clear hy0)) | ((with_reducible refine gate_callee (f := 68) rfl ?_); refine goesL_ (some 73) rfl rfl Try.func68 (by kernel_rfl) rfl #[.slice Ao75 t405.length co75, .int .i64 1] rfl (by (try simp only [List.map_toArray, List.map_cons, List.map_nil]); first | done | (rw [show t405.length = t392.length from (Kd.R_reads' HO_9.out).1.symm] <;> rfl) | rfl | (simp only [List.length_drop, List.length_take]; rfl)) ?_; (with_reducible refine (laws_heldInt64S.calls kj34 _ _ t405 1 t406 _ ?side1 ?side2 A49.out).mono ?_); (case side1 => repeat (first | exact (Kd.R_reads' HO_9.out).2.2 | (with_reducible refine Kd.C_alloc ?_ _) | (with_reducible refine Kd.C_drewN ?_ _) | (with_reducible refine Kd.C_drew ?_))); (case side2 => rw [show t405.length = t392.length from (Kd.R_reads' HO_9.out).1.symm]; exact (Kd.R_reads' HO_9.out).2.1); rintro e w' ⟨rfl, ⟨nd, rfl⟩⟩; refine ⟨_, rfl, ?_⟩))
           go_ret
           exact ⟨by first | rfl | (simp [errW_none, errW_some] <;> rfl) | (simp [*, errW_none, errW_some] <;> rfl), be HB⟩
     ·replace c33 := Bool.eq_false_iff.mpr c33
      subst c33
      have H1 : (some false) = some r := by rw [if_neg (show ¬ (false = true) by decide)] at H; exact H
      clear H
      have H := H1
      clear H1
      obtain rfl := Option.some.inj H
      go_wp2_with (first | ((with_reducible refine gate_callee (f := 33) rfl ?_); refine gL (some 49) Try.func33 #[.slice A1 l1.length c1] ?_; (with_reducible refine (laws_toBoatS.calls kj11 _ _ l1 t397 _ ?side1 ?side2 A31.out).mono ?_); (case side1 => repeat (first | exact (Kd.C_below HR1.out HB.out) | (with_reducible refine Kd.C_alloc ?_ _) | (with_reducible refine Kd.C_drewN ?_ _) | (with_reducible refine Kd.C_drew ?_))); (case side2 => exact HC1.out); rintro e w77 ⟨v398, rfl, ho0, hb⟩; refine ⟨_, rfl, ?_⟩; have HO399 := am (Kd.R_lower (Kd.R_new' ho0 (Kd.R_lt (kr HO_8))) (below_size (be HB))); replace HO_6 := am (Kd.R_below (kr HO_6) hb); replace HO_8 := am (Kd.R_elder' (kr HO_8) (Kd.R_base ho0) hb); replace HO_9 := am (Kd.R_below (kr HO_9) hb); replace BK374 := bB BK374 hb; replace HB := am (below_step (be HB) hb); (try clear hb); (try clear hb2); (try clear hk); (try clear hi); (try clear ho0); obtain ⟨Ao78, co78, eo78⟩ := Kd.R_slice HO399.out; subst eo78) | ((with_reducible refine gate_callee (f := 35) rfl ?_); refine gL (some 50) Try.func35 #[.slice Ao22 t386.length co22, .slice Ao78 t397.length co78] ?_; (with_reducible refine (laws_eqBoatS.calls kj11 _ _ t386 _ _ t397 false _ ?side1 ?side2 ?side3 ?side4 A32.out).mono ?_); (case side1 => repeat (first | exact (Kd.R_reads' HO_8.out).2.2 | (with_reducible refine Kd.C_alloc ?_ _) | (with_reducible refine Kd.C_drewN ?_ _) | (with_reducible refine Kd.C_drew ?_))); (case side2 => exact (Kd.R_reads' HO_8.out).2.1); (case side3 => repeat (first | exact (Kd.R_reads' HO399.out).2.2 | (with_reducible refine Kd.C_alloc ?_ _) | (with_reducible refine Kd.C_drewN ?_ _) | (with_reducible refine Kd.C_drew ?_))); (case side4 => exact (Kd.R_reads' HO399.out).2.1); rintro e w79 ⟨rfl, hb⟩; refine ⟨_, rfl, ?_⟩; replace HO_6 := am (Kd.R_below (kr HO_6) hb); replace HO_8 := am (Kd.R_below (kr HO_8) hb); replace HO_9 := am (Kd.R_below (kr HO_9) hb); replace HO399 := am (Kd.R_below (kr HO399) hb); replace BK374 := bB BK374 hb; replace HB := am (below_step (be HB) hb); (try clear hb); (try clear hb2); (try clear hk); (try clear hi)))
      go_ret
      exact ⟨by first | rfl | (simp [errW_none, errW_some] <;> rfl) | (simp [*, errW_none, errW_some] <;> rfl), be HB⟩

end Go.Proofs.Ytcollbifdfhfoaa.PFnExactGreedyBoats
