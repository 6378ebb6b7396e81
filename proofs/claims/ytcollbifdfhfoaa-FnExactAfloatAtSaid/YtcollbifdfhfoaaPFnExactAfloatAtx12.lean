-- Written by a program out of this seat's translation (functions, and that the code comes to them).
import Derived.Test.YtcollbifdfhfoaaPFnExactAfloatAtx0
import Derived.Test.YtcollbifdfhfoaaPFnExactAfloatAtx7
import Derived.Test.YtcollbifdfhfoaaPFnExactAfloatAtx9
import Derived.Test.YtcollbifdfhfoaaPFnExactAfloatAtx10
import Derived.Test.YtcollbifdfhfoaaPFnExactAfloatAtx11
namespace Go.Proofs.Ytcollbifdfhfoaa.PFnExactAfloatAt
open Go.RowKit Go.Proofs.YtcollbifdfhfoaaW.PrintWords Go.Proofs.YtcollbifdfhfoaaW.PrintLast Go.Proofs.YtcollbifdfhfoaaW.PrintMore
attribute [local go_sem] max2_int min2_int max_two min_two max_three min_three max_four min_four   -- for this text's walks alone
open Go.Proofs.Ytcollbifdfhfoaa.Bay Go.Proofs.Ytcollbifdfhfoaa.Short
attribute [local go_sem ↓] lv26_eq lv28_eq
attribute [local go_sem] lvv_set lvv_drewN lvv_drew lv26_run BayAt26_set BayAt26_drewN BayAt26_drew lv28_run BayAt28_set BayAt28_drewN BayAt28_drew
set_option linter.unusedVariables false
set_option linter.unusedSimpArgs false

/-! ### impl_floatCode: function 155 -/
def impl_floatCode.j0 : Nat → List (S103) → List Int → Int → Bool → Option (Int)
 | 0, _, _, _, _ => none
 | k + 1, x2, x3, x9, x13 => if x13 = true then (some 1) else (if x9 = 0 then ((impl_tidesCode.f k x2 x3 ([] : List Int)).bind fun t319 => (some t319)) else (some x9))
def impl_floatCode.f (k : Nat) (a0_0 : Int) (a0_1 : Int) (a0_2 : (Nat → Int)) (l1 : List (S38)) (l2 : List (S103)) (l3 : List Int) : Option (Int) := (impl_boatsCode.f k a0_0 a0_1 a0_2 l1).bind fun t317 => (if t317 = 1 then (impl_floatCode.j0 k l2 l3 t317 true) else ((impl_ValidTides.f k l2).bind fun t318 => (impl_floatCode.j0 k l2 l3 t317 (!t318))))
set_option maxHeartbeats 8000000 in
set_option maxRecDepth 100000 in
theorem impl_floatCode.calls (k : Nat) (a0_0 : Int) (a0_1 : Int) (a0_2 : (Nat → Int)) (A1 : Option Addr) (c1 : Nat) (l1 : List (S38)) (A2 : Option Addr) (c2 : Nat) (l2 : List (S103)) (A3 : Option Addr) (c3 : Nat) (l3 : List Int) (r : Int) (w : World) (hr1 : Kd.C k38 w A1 l1.length l1) (hc1 : l1.length ≤ c1) (hr2 : Kd.C k103 w A2 l2.length l2) (hc2 : l2.length ≤ c2) (hr3 : Kd.C (Kd.int .i64) w A3 l3.length l3) (hc3 : l3.length ≤ c3) (h : impl_floatCode.f k a0_0 a0_1 a0_2 l1 l2 l3 = some r) :
  Calls Try.prog 155 #[.agg (csBay a0_0 a0_1 a0_2), .slice A1 l1.length c1, .slice A2 l2.length c2, .slice A3 l3.length c3] w fun e w' => e = .returned (.int .i64 r) ∧ Below w.heap.size w w' := by
 have hu28 := Try.underlying28
 have HR1 := am hr1
 have HC1 := am hc1
 clear hr1 hc1
 have HR2 := am hr2
 have HC2 := am hc2
 clear hr2 hc2
 have HR3 := am hr3
 have HC3 := am hc3
 clear hr3 hc3
 have HB := am (Below.refl w.heap.size w)
 have H : ((impl_boatsCode.f k a0_0 a0_1 a0_2 l1).bind fun t317 => (if t317 = 1 then (impl_floatCode.j0 k l2 l3 t317 true) else ((impl_ValidTides.f k l2).bind fun t318 => (impl_floatCode.j0 k l2 l3 t317 (!t318))))) = some r := h
 clear h
 replace H := Option.bind_eq_some_iff.mp H
 obtain ⟨t317, A50, H⟩ := H
 try dsimp only at H
 have A5 := am A50
 clear A50
 have HC6 := am H
 clear H
 go_enter Try.func155, Try.ntmps155
 go_upto_region 2 with (first | ((with_reducible refine gate_dst (N := 4) rfl ?_); refine bxe (N := 4) (cs := (csBay a0_0 a0_1 a0_2)) (t := 28) ?_; intro gb316 hg w7 hbox hb; have BK316 := am (hbox); have GW316 := am (gN hg (below_size (be HB))); have GE316 := am (gN hg (below_size (be HB))); replace HB := am (below_step (be HB) hb); clear hb hbox hg; obtain ⟨hcz8_0, hcz8_1, hwz8, haz8, hyz8, hvz8, hfz8_0, hfz8_1, hfz8_2⟩ := bb28 BK316) | ((with_reducible refine gate_callee (f := 125) rfl ?_); refine gL (some 12) Try.func125 #[.agg (csBay a0_0 a0_1 a0_2), .slice A1 l1.length c1] ?_; (with_reducible refine (impl_boatsCode.calls k a0_0 a0_1 a0_2 _ _ l1 t317 _ ?side1 ?side2 A5.out).mono ?_); (case side1 => repeat (first | exact (Kd.C_below HR1.out HB.out) | (with_reducible refine Kd.C_alloc ?_ _) | (with_reducible refine Kd.C_drewN ?_ _) | (with_reducible refine Kd.C_drew ?_))); (case side2 => exact HC1.out); rintro e w9 ⟨rfl, hb⟩; refine ⟨_, rfl, ?_⟩; replace BK316 := bB BK316 hb; replace HB := am (below_step (be HB) hb); (try clear hb); (try clear hb2); (try clear hk); (try clear hi)))
 (try simp only [Act.put, List.setIfInBounds_toArray, List.set_cons_zero, List.set_cons_succ])
 go_cut [13] (fun v13 wc => ∃ (kq : Nat) (x13_5 : Bool), v13 = .bool x13_5 ∧ Aside0 (impl_floatCode.j0 kq l2 l3 t317 x13_5 = some r) ∧ Aside0 (kq ≤ k) ∧ Aside0 (wc.heap[gb316]? = some (.cells (csBay a0_0 a0_1 a0_2) 28 (0, 0))) ∧ Aside0 (Below w.heap.size w wc))
 case first =>
  have H := HC6.out
  clear HC6
  by_cases c10 : t317 = 1
  ·rw [if_pos c10] at H
   have c10b0 : (t317 == 1) = true := beq_iff_eq.mpr c10
   have c10b1 : (t317 != 1) = false := bne_eq_false_iff_eq.mpr c10
   clear c10
   (first | rw [c10b0] | (simp only [i64_w, i32_w]; rw [c10b0]) | skip)
   have H' := am H
   clear H
   go_wp2
   go_meet
   case rel => exact ⟨_, (true), vv, H', ⟨by first | omega | exact Nat.le_refl _⟩, ⟨kb BK316⟩, ⟨be HB⟩⟩
  ·rw [if_neg c10] at H
   have c10b0 : (t317 == 1) = false := beq_eq_false_iff_ne.mpr c10
   have c10b1 : (t317 != 1) = true := bne_iff_ne.mpr c10
   (first | rw [c10b0] | (simp only [i64_w, i32_w]; rw [c10b0]) | skip)
   replace H := Option.bind_eq_some_iff.mp H
   obtain ⟨t318, A110, H⟩ := H
   try dsimp only at H
   have A11 := am A110
   clear A110
   have H' := am H
   clear H
   go_wp2_with (first | (go_at_call 148; (with_reducible refine (impl_ValidTides.calls k _ _ l2 t318 _ ?side1 ?side2 A11.out).mono ?_); (case side1 => repeat (first | exact (Kd.C_below HR2.out HB.out) | (with_reducible refine Kd.C_alloc ?_ _) | (with_reducible refine Kd.C_drewN ?_ _) | (with_reducible refine Kd.C_drew ?_))); (case side2 => exact HC2.out); rintro e w12 ⟨rfl, hb⟩; replace BK316 := bB BK316 hb; replace HB := am (below_step (be HB) hb); (try clear hb); (try clear hb2); (try clear hk); (try clear hi)))
   go_meet
   case rel => exact ⟨_, (!t318), vv, H', ⟨by first | omega | exact Nat.le_refl _⟩, ⟨kb BK316⟩, ⟨be HB⟩⟩
 case rest =>
  clear HC6
  try clear c1
  try clear c2
  try clear p2
  try clear c3
  try clear c10
  try clear c10b0
  try clear c10b1
  try clear c12
  try clear hcz8_0
  try clear hcz8_1
  try clear hfz8_0
  try clear hfz8_1
  try clear hfz8_2
  obtain ⟨kq, x13_5, rfl, HA, HJ5, BK316, HB⟩ := hcut
  cases kq with
  | zero => exact absurd HA.out (by simp [impl_floatCode.j0])
  | succ kj5 =>
   have H := HA.out
   clear HA
   simp only [impl_floatCode.j0] at H
   by_cases c13 : x13_5 = true
   ·subst c13
    rw [if_pos rfl] at H
    obtain rfl := Option.some.inj H
    go_wp2
    go_ret
    exact ⟨by first | rfl | (simp [errW_none, errW_some] <;> rfl) | (simp [*, errW_none, errW_some] <;> rfl), be HB⟩
   ·replace c13 := Bool.eq_false_iff.mpr c13
    subst c13
    have H1 : (if t317 = 0 then ((impl_tidesCode.f kj5 l2 l3 ([] : List Int)).bind fun t319 => (some t319)) else (some t317)) = some r := by rw [if_neg (show ¬ (false = true) by decide)] at H; exact H
    clear H
    have H := H1
    clear H1
    by_cases c14 : t317 = 0
    ·rw [if_pos c14] at H
     have c14b0 : (t317 == 0) = true := beq_iff_eq.mpr c14
     have c14b1 : (t317 != 0) = false := bne_eq_false_iff_eq.mpr c14
     clear c14
     replace H := Option.bind_eq_some_iff.mp H
     obtain ⟨t319, A150, H⟩ := H
     try dsimp only at H
     have A15 := am A150
     clear A150
     obtain rfl := Option.some.inj H
     go_wp2_with (first | ((with_reducible refine gate_callee (f := 154) rfl ?_); refine gL (some 27) Try.func154 #[.slice A2 l2.length c2, .slice A3 l3.length c3, .slice none 0 0] ?_; (refine (impl_tidesCode.calls kj5 _ _ l2 _ _ l3 _ _ ([] : List Int) t319 _ ?side1 ?side2 ?side3 ?side4 ?side5 ?side6 A15.out).mono ?_); (case side1 => repeat (first | exact (Kd.C_below HR2.out HB.out) | (with_reducible refine Kd.C_alloc ?_ _) | (with_reducible refine Kd.C_drewN ?_ _) | (with_reducible refine Kd.C_drew ?_))); (case side2 => exact HC2.out); (case side3 => repeat (first | exact (Kd.C_below HR3.out HB.out) | (with_reducible refine Kd.C_alloc ?_ _) | (with_reducible refine Kd.C_drewN ?_ _) | (with_reducible refine Kd.C_drew ?_))); (case side4 => exact HC3.out); (case side5 => exact Kd.C_nil _ _); (case side6 => exact Nat.le_refl _); rintro e w16 ⟨rfl, hb⟩; refine ⟨_, rfl, ?_⟩; replace BK316 := bB BK316 hb; replace HB := am (below_step (be HB) hb); (try clear hb); (try clear hb2); (try clear hk); (try clear hi)))
     go_ret
     exact ⟨by first | rfl | (simp [errW_none, errW_some] <;> rfl) | (simp [*, errW_none, errW_some] <;> rfl), be HB⟩
    ·rw [if_neg c14] at H
     have c14b0 : (t317 == 0) = false := beq_eq_false_iff_ne.mpr c14
     have c14b1 : (t317 != 0) = true := bne_iff_ne.mpr c14
     obtain rfl := Option.some.inj H
     go_wp2
     go_ret
     exact ⟨by first | rfl | (simp [errW_none, errW_some] <;> rfl) | (simp [*, errW_none, errW_some] <;> rfl), be HB⟩

/-! ### impl_AfloatAt: function 90 -/
def impl_AfloatAt.l0 : Nat → List (S103) → Int → List Int → List (S38) → Int → Int → Int → Int → (Nat → Int) → Option (List Int × Int)
 | 0, _, _, _, _, _, _, _, _, _ => none
 | k + 1, x2, x3, x11, x24, x25, x26, x321000, x321001, x321002 => if x26 < x25 then (if 0 ≤ x26 then (if x26 < (x24.length : Int) then ((impl_height.f k x2 x3).bind fun t330 => ((impl_afloat.f x321000 x321001 x321002 ((rd_T38 x24 x26).f0.f0) ((rd_T38 x24 x26).f0.f1) ((rd_T38 x24 x26).f1) ((rd_T38 x24 x26).f2) ((rd_T38 x24 x26).f3) ((rd_T38 x24 x26).f4) t330).bind fun t331 => (if t331 = true then (if x11.length < 17592186044416 then (impl_AfloatAt.l0 k x2 x3 (x11 ++ [x26]) x24 x25 (wrap64 (x26 + 1)) x321000 x321001 x321002) else (none)) else (impl_AfloatAt.l0 k x2 x3 x11 x24 x25 (wrap64 (x26 + 1)) x321000 x321001 x321002)))) else (none)) else (none)) else (some (x11, 0))
def impl_AfloatAt.f (k : Nat) (a0_0 : Int) (a0_1 : Int) (a0_2 : (Nat → Int)) (l1 : List (S38)) (l2 : List (S103)) (a3 : Int) : Option (List Int × Int) := (impl_floatCode.f k a0_0 a0_1 a0_2 l1 l2 (([a3] : List Int))).bind fun t324 => (if t324 = 0 then (impl_AfloatAt.l0 k l2 a3 (([] : List Int)) l1 (l1.length : Int) 0 a0_0 a0_1 a0_2) else (some (([] : List Int), t324)))
set_option maxHeartbeats 8000000 in
set_option maxRecDepth 100000 in
theorem impl_AfloatAt.calls (k : Nat) (a0_0 : Int) (a0_1 : Int) (a0_2 : (Nat → Int)) (A1 : Option Addr) (c1 : Nat) (l1 : List (S38)) (A2 : Option Addr) (c2 : Nat) (l2 : List (S103)) (a3 : Int) (r1 : List Int) (r2 : Int) (w : World) (hr1 : Kd.C k38 w A1 l1.length l1) (hc1 : l1.length ≤ c1) (hr2 : Kd.C k103 w A2 l2.length l2) (hc2 : l2.length ≤ c2) (h : impl_AfloatAt.f k a0_0 a0_1 a0_2 l1 l2 a3 = some (r1, r2)) :
  Calls Try.prog 90 #[.agg (csBay a0_0 a0_1 a0_2), .slice A1 l1.length c1, .slice A2 l2.length c2, .int .i64 a3] w fun e w' => ∃ v0_ : Value, e = .returned (.tuple #[v0_, .int .i64 r2]) ∧ Kd.R (Kd.int .i64) 2 w' w.heap.size (fun _ => True) v0_ r1 ∧ Below w.heap.size w w' := by
 have hu28 := Try.underlying28
 have hu38 := Try.underlying38
 have HR1 := am hr1
 have HC1 := am hc1
 clear hr1 hc1
 have HR2 := am hr2
 have HC2 := am hc2
 clear hr2 hc2
 have HB := am (Below.refl w.heap.size w)
 have H : ((impl_floatCode.f k a0_0 a0_1 a0_2 l1 l2 (([a3] : List Int))).bind fun t324 => (if t324 = 0 then (impl_AfloatAt.l0 k l2 a3 (([] : List Int)) l1 (l1.length : Int) 0 a0_0 a0_1 a0_2) else (some (([] : List Int), t324)))) = some (r1, r2) := h
 clear h
 obtain ⟨y321, hy321⟩ : ∃ y_ : List Int, y_ = (([a3] : List Int)) := ⟨_, rfl⟩
 replace H : ((impl_floatCode.f k a0_0 a0_1 a0_2 l1 l2 y321).bind fun t324 => (if t324 = 0 then (impl_AfloatAt.l0 k l2 a3 (([] : List Int)) l1 (l1.length : Int) 0 a0_0 a0_1 a0_2) else (some (([] : List Int), t324)))) = some (r1, r2) := by first | (rw [hy321]; with_reducible exact H) | (have H2_ := (Option.bind_some _ _).symm.trans H; rw [hy321]; with_reducible exact H2_) | (have H2_ := (Option.bind_some _ _).symm.trans H; with_reducible exact H2_) | with_reducible exact H | (rw [hy321]; exact H) | exact H
 have Ny321 := am hy321
 clear hy321
 replace H := Option.bind_eq_some_iff.mp H
 obtain ⟨t324, A50, H⟩ := H
 try dsimp only at H
 have A5 := am A50
 clear A50
 by_cases c6 : t324 = 0
 ·rw [if_pos c6] at H
  have c6b0 : (t324 == 0) = true := beq_iff_eq.mpr c6
  have c6b1 : (t324 != 0) = false := bne_eq_false_iff_eq.mpr c6
  clear c6
  obtain ⟨y325, hy325⟩ : ∃ y_ : List Int, y_ = (([] : List Int)) := ⟨_, rfl⟩
  replace H : (impl_AfloatAt.l0 k l2 a3 y325 l1 (l1.length : Int) 0 a0_0 a0_1 a0_2) = some (r1, r2) := by first | (rw [hy325]; with_reducible exact H) | (have H2_ := (Option.bind_some _ _).symm.trans H; rw [hy325]; with_reducible exact H2_) | (have H2_ := (Option.bind_some _ _).symm.trans H; with_reducible exact H2_) | with_reducible exact H | (rw [hy325]; exact H) | exact H
  have Ny325 := am hy325
  clear hy325
  have H' := am H
  clear H
  go_enter Try.func90, Try.ntmps90
  go_wp2_with (first | ((with_reducible refine gate_dst (N := 4) rfl ?_); refine bxe (N := 4) (cs := (csBay a0_0 a0_1 a0_2)) (t := 28) ?_; intro gb320 hg w7 hbox hb; have BK320 := am (hbox); have GW320 := am (gN hg (below_size (be HB))); have GE320 := am (gN hg (below_size (be HB))); replace HB := am (below_step (be HB) hb); clear hb hbox hg; obtain ⟨hcz8_0, hcz8_1, hwz8, haz8, hyz8, hvz8, hfz8_0, hfz8_1, hfz8_2⟩ := bb28 BK320) | ((with_reducible refine gate_dst (N := 18) rfl ?_); refine Kd.R_lit (Kd.int .i64) _ 2 ?hg (N := 18) ?hd (xs := ([a3] : List Int)) (inner := [.int .i64 a3]) (ok := fun _ => True) (okp := fun _ => True) ?hr ?hp (fun _ hk => hk) trivial (Below.refl _ _) (Nat.le_refl _) (by simp) ?_; (case hd => rfl); (case hg => rfl); (case hr => first | (go_simp; done) | (go_simp; rfl)); (case hp => exact (Reps.one (show Kd.M (Kd.int .i64) _ _ _ a3 [.int .i64 a3] from rfl) (Reps.none _ _))); intro v322 w9 ho10 hb hg_ hnew_; clear hg_ hnew_; (first | rw [← Ny321.out] at ho10 | (simp only [Int.reduceToNat] at ho10; rw [← Ny321.out] at ho10)); have HO323 := am (Kd.R_lower ho10 (below_size (be HB))); replace BK320 := bB BK320 hb; replace HB := am (below_step (be HB) hb); clear hb ho10; obtain ⟨Ao11, co11, eo11⟩ := Kd.R_slice HO323.out; subst eo11) | ((with_reducible refine gate_callee (f := 155) rfl ?_); refine gL (some 19) Try.func155 #[.agg (csBay a0_0 a0_1 a0_2), .slice A1 l1.length c1, .slice A2 l2.length c2, .slice Ao11 y321.length co11] ?_; (with_reducible refine (impl_floatCode.calls k a0_0 a0_1 a0_2 _ _ l1 _ _ l2 _ _ y321 t324 _ ?side1 ?side2 ?side3 ?side4 ?side5 ?side6 A5.out).mono ?_); (case side1 => repeat (first | exact (Kd.C_below HR1.out HB.out) | (with_reducible refine Kd.C_alloc ?_ _) | (with_reducible refine Kd.C_drewN ?_ _) | (with_reducible refine Kd.C_drew ?_))); (case side2 => exact HC1.out); (case side3 => repeat (first | exact (Kd.C_below HR2.out HB.out) | (with_reducible refine Kd.C_alloc ?_ _) | (with_reducible refine Kd.C_drewN ?_ _) | (with_reducible refine Kd.C_drew ?_))); (case side4 => exact HC2.out); (case side5 => repeat (first | exact (Kd.R_reads' HO323.out).2.2 | (with_reducible refine Kd.C_alloc ?_ _) | (with_reducible refine Kd.C_drewN ?_ _) | (with_reducible refine Kd.C_drew ?_))); (case side6 => exact (Kd.R_reads' HO323.out).2.1); rintro e w12 ⟨rfl, hb⟩; refine ⟨_, rfl, ?_⟩; replace HO323 := am (Kd.R_below (kr HO323) hb); replace BK320 := bB BK320 hb; replace HB := am (below_step (be HB) hb); (try clear hb); (try clear hb2); (try clear hk); (try clear hi)) | ((with_reducible refine gate_dst (N := 23) rfl ?_); refine Kd.R_lit (Kd.int .i64) _ 2 ?hg (N := 23) ?hd (xs := ([] : List Int)) (inner := []) (ok := fun _ => True) (okp := fun _ => True) ?hr ?hp (fun _ hk => hk) trivial (Below.refl _ _) (Nat.le_refl _) (by simp) ?_; (case hd => rfl); (case hg => rfl); (case hr => first | (go_simp; done) | (go_simp; rfl)); (case hp => exact (Reps.none _ _)); intro v326 w13 ho14 hb hg_ hnew_; clear hg_ hnew_; (first | rw [← Ny325.out] at ho14 | (simp only [Int.reduceToNat] at ho14; rw [← Ny325.out] at ho14)); have HO327 := am (Kd.R_lower (Kd.R_new' ho14 (Kd.R_lt (kr HO323))) (below_size (be HB))); replace HO323 := am (Kd.R_elder' (kr HO323) (Kd.R_base ho14) hb); replace BK320 := bB BK320 hb; replace HB := am (below_step (be HB) hb); clear hb ho14))
  go_loopg [11, 26] k (fun kq v11 v26 w' => ∃ (x11_1 : List Int) (x26_1 : Int), v26 = .int .i64 x26_1 ∧ Aside0 (impl_AfloatAt.l0 kq l2 a3 x11_1 l1 (l1.length : Int) x26_1 a0_0 a0_1 a0_2 = some (r1, r2)) ∧ Aside0 (kq ≤ k) ∧ Aside0 (Kd.R (Kd.int .i64) 2 w' w.heap.size (fun _ => True) v11 x11_1) ∧ Aside0 (w'.heap[gb320]? = some (.cells (csBay a0_0 a0_1 a0_2) 28 (0, 0))) ∧ Aside0 (Below w.heap.size w w'))
  case atStart => exact ⟨(y325), (0), vv, H', ⟨Nat.le_refl _⟩, ⟨by (with_reducible repeat (first | apply Kd.R_alloc | apply Kd.R_drewN | apply Kd.R_drew)); exact Kd.R_mono HO327.out (fun _ hk => trivial)⟩, ⟨kb BK320⟩, ⟨be HB⟩⟩
  case round =>
   clear H'
   try clear c1
   try clear c2
   try clear p2
   try clear c6
   try clear c6b0
   try clear c6b1
   try clear c9
   try clear hcz8_0
   try clear hcz8_1
   try clear hfz8_0
   try clear hfz8_1
   try clear hfz8_2
   obtain ⟨x11_1, x26_1, rfl, HA, HK1, HO_11, BK320, HB⟩ := hrel
   cases gk with
   | zero => exact absurd HA.out (by simp [impl_AfloatAt.l0])
   | succ k1 =>
    have H := HA.out
    clear HA
    simp only [impl_AfloatAt.l0] at H
    by_cases c15 : x26_1 < (l1.length : Int)
    ·rw [if_pos c15] at H
     have c15b0 : decide (x26_1 < (l1.length : Int)) = true := decide_eq_true c15
     clear c15
     by_cases c16 : 0 ≤ x26_1
     ·rw [if_pos c16] at H
      have c16b0 : decide (0 ≤ x26_1) = true := decide_eq_true c16
      have c16b1 : 0 ≤ x26_1 := c16
      clear c16
      by_cases c17 : x26_1 < (l1.length : Int)
      ·rw [if_pos c17] at H
       have c17b0 : decide (x26_1 < (l1.length : Int)) = true := decide_eq_true c17
       clear c17
       replace H := Option.bind_eq_some_iff.mp H
       obtain ⟨t330, A180, H⟩ := H
       try dsimp only at H
       have A18 := am A180
       clear A180
       replace H := Option.bind_eq_some_iff.mp H
       obtain ⟨t331, A190, H⟩ := H
       try dsimp only at H
       have A19 := am A190
       clear A190
       by_cases c20 : t331 = true
       ·subst c20
        rw [if_pos rfl] at H
        by_cases c21 : x11_1.length < 17592186044416
        ·rw [if_pos c21] at H
         have LMc21 := am c21
         clear c21
         obtain ⟨y332, hy332⟩ : ∃ y_ : List Int, y_ = (x11_1 ++ [x26_1]) := ⟨_, rfl⟩
         replace H : (impl_AfloatAt.l0 k1 l2 a3 y332 l1 (l1.length : Int) (wrap64 (x26_1 + 1)) a0_0 a0_1 a0_2) = some (r1, r2) := by first | (rw [hy332]; with_reducible exact H) | (have H2_ := (Option.bind_some _ _).symm.trans H; rw [hy332]; with_reducible exact H2_) | (have H2_ := (Option.bind_some _ _).symm.trans H; with_reducible exact H2_) | with_reducible exact H | (rw [hy332]; exact H) | exact H
         have Ny332 := am hy332
         clear hy332
         have H' := am H
         clear H
         have p328 : 0 ≤ (x26_1 : Int) := of_decide_eq_true (by first | (with_reducible assumption) | assumption)
         have q328 : x26_1 < (l1.length : Int) := of_decide_eq_true (by first | (with_reducible assumption) | assumption)
         obtain ⟨ad328, e328, hx328_0, hx328_1, hx328_2, hx328_3, hx328_4, hx328_5⟩ := at_T38 HR1.out x26_1 p328 q328
         cases e328
         replace hx328_0 := (HB.out.cell (World.block_lt_of_cell? w _ hx328_0)).trans hx328_0
         replace hx328_1 := (HB.out.cell (World.block_lt_of_cell? w _ hx328_1)).trans hx328_1
         replace hx328_2 := (HB.out.cell (World.block_lt_of_cell? w _ hx328_2)).trans hx328_2
         replace hx328_3 := (HB.out.cell (World.block_lt_of_cell? w _ hx328_3)).trans hx328_3
         replace hx328_4 := (HB.out.cell (World.block_lt_of_cell? w _ hx328_4)).trans hx328_4
         replace hx328_5 := (HB.out.cell (World.block_lt_of_cell? w _ hx328_5)).trans hx328_5
         replace p328 := eq_true p328
         replace q328 := eq_true q328
         try go_wp2_with (first | ((with_reducible refine gate_dst (N := 13) rfl ?_); refine bxe (N := 13) (cs := #[.int .i8 0, .int .i8 0, .int .i8 0, .int .i8 0, .int .i8 0, .int .i8 0]) (t := 38) ?_; intro gb329 hg w22 hbox hb; have BK329 := am (hbox); have GW329 := am (gN hg (below_size (be HB))); have GE329 := am (gN hg (below_size (be HB))); have NB320_329 := nL BK320 hg; have NB329_320 := nR BK320 hg; replace HO_11 := am (Kd.R_below (kr HO_11) hb); replace BK320 := bB BK320 hb; replace HB := am (below_step (be HB) hb); clear hb hbox hg; have hnb23 := NB329_320.out; have hnc23 := NB320_329.out; obtain ⟨hcz24_0, hcz24_1, hcz24_2, hcz24_3, hcz24_4, hcz24_5, hfz24_0, hfz24_1, hfz24_2, hfz24_3, hfz24_4, hfz24_5⟩ := bx6 BK329))
         have n0_ : Aside0 (Kd.R (Kd.int .i64) 2 ((((((w22.setCell ⟨gb329, 0, none⟩ (.int .i8 ((rd_T38 l1 x26_1).f0.f0))).setCell ⟨gb329, 1, none⟩ (.int .i8 ((rd_T38 l1 x26_1).f0.f1))).setCell ⟨gb329, 2, none⟩ (.int .i8 ((rd_T38 l1 x26_1).f1))).setCell ⟨gb329, 3, none⟩ (.int .i8 ((rd_T38 l1 x26_1).f2))).setCell ⟨gb329, 4, none⟩ (.int .i8 ((rd_T38 l1 x26_1).f3))).setCell ⟨gb329, 5, none⟩ (.int .i8 ((rd_T38 l1 x26_1).f4))) w.heap.size (fun _ => True) u11 x11_1) := ⟨by (with_reducible repeat (first | apply Kd.R_alloc | apply Kd.R_drewN | apply Kd.R_drew)); exact Kd.R_mono (Kd.R_far (p := ⟨gb329, 5, none⟩) (Kd.R_far (p := ⟨gb329, 4, none⟩) (Kd.R_far (p := ⟨gb329, 3, none⟩) (Kd.R_far (p := ⟨gb329, 2, none⟩) (Kd.R_far (p := ⟨gb329, 1, none⟩) (Kd.R_far (p := ⟨gb329, 0, none⟩) (Kd.R_types HO_11.out BK329.out (by decide)) (fun _ hk => hk.2) (.int .i8 ((rd_T38 l1 x26_1).f0.f0))) (fun _ hk => hk.2) (.int .i8 ((rd_T38 l1 x26_1).f0.f1))) (fun _ hk => hk.2) (.int .i8 ((rd_T38 l1 x26_1).f1))) (fun _ hk => hk.2) (.int .i8 ((rd_T38 l1 x26_1).f2))) (fun _ hk => hk.2) (.int .i8 ((rd_T38 l1 x26_1).f3))) (fun _ hk => hk.2) (.int .i8 ((rd_T38 l1 x26_1).f4))) (fun _ hk => trivial)⟩
         have n1_ : Aside0 (((((((w22.setCell ⟨gb329, 0, none⟩ (.int .i8 ((rd_T38 l1 x26_1).f0.f0))).setCell ⟨gb329, 1, none⟩ (.int .i8 ((rd_T38 l1 x26_1).f0.f1))).setCell ⟨gb329, 2, none⟩ (.int .i8 ((rd_T38 l1 x26_1).f1))).setCell ⟨gb329, 3, none⟩ (.int .i8 ((rd_T38 l1 x26_1).f2))).setCell ⟨gb329, 4, none⟩ (.int .i8 ((rd_T38 l1 x26_1).f3))).setCell ⟨gb329, 5, none⟩ (.int .i8 ((rd_T38 l1 x26_1).f4))).heap[gb320]? = some (.cells (csBay a0_0 a0_1 a0_2) 28 (0, 0))) := ⟨by (with_reducible repeat (first | refine blk_drewN ?_ _ | refine blk_drew ?_ | refine blk_alloc ?_ _)); refine blk_far ?_ NB320_329.out _; (with_reducible repeat (first | refine blk_drewN ?_ _ | refine blk_drew ?_ | refine blk_alloc ?_ _)); refine blk_far ?_ NB320_329.out _; (with_reducible repeat (first | refine blk_drewN ?_ _ | refine blk_drew ?_ | refine blk_alloc ?_ _)); refine blk_far ?_ NB320_329.out _; (with_reducible repeat (first | refine blk_drewN ?_ _ | refine blk_drew ?_ | refine blk_alloc ?_ _)); refine blk_far ?_ NB320_329.out _; (with_reducible repeat (first | refine blk_drewN ?_ _ | refine blk_drew ?_ | refine blk_alloc ?_ _)); refine blk_far ?_ NB320_329.out _; (with_reducible repeat (first | refine blk_drewN ?_ _ | refine blk_drew ?_ | refine blk_alloc ?_ _)); refine blk_far ?_ NB320_329.out _; exact kb BK320⟩
         have n2_ : Aside0 (((((((w22.setCell ⟨gb329, 0, none⟩ (.int .i8 ((rd_T38 l1 x26_1).f0.f0))).setCell ⟨gb329, 1, none⟩ (.int .i8 ((rd_T38 l1 x26_1).f0.f1))).setCell ⟨gb329, 2, none⟩ (.int .i8 ((rd_T38 l1 x26_1).f1))).setCell ⟨gb329, 3, none⟩ (.int .i8 ((rd_T38 l1 x26_1).f2))).setCell ⟨gb329, 4, none⟩ (.int .i8 ((rd_T38 l1 x26_1).f3))).setCell ⟨gb329, 5, none⟩ (.int .i8 ((rd_T38 l1 x26_1).f4))).heap[gb329]? = some (.cells #[.int .i8 ((rd_T38 l1 x26_1).f0.f0), .int .i8 ((rd_T38 l1 x26_1).f0.f1), .int .i8 ((rd_T38 l1 x26_1).f1), .int .i8 ((rd_T38 l1 x26_1).f2), .int .i8 ((rd_T38 l1 x26_1).f3), .int .i8 ((rd_T38 l1 x26_1).f4)] 38 (0, 0))) := ⟨by (with_reducible repeat (first | refine blk_drewN ?_ _ | refine blk_drew ?_ | refine blk_alloc ?_ _)); refine blk_put (cs := #[.int .i8 ((rd_T38 l1 x26_1).f0.f0), .int .i8 ((rd_T38 l1 x26_1).f0.f1), .int .i8 ((rd_T38 l1 x26_1).f1), .int .i8 ((rd_T38 l1 x26_1).f2), .int .i8 ((rd_T38 l1 x26_1).f3), .int .i8 0]) ?_ 5 _ rfl; (with_reducible repeat (first | refine blk_drewN ?_ _ | refine blk_drew ?_ | refine blk_alloc ?_ _)); refine blk_put (cs := #[.int .i8 ((rd_T38 l1 x26_1).f0.f0), .int .i8 ((rd_T38 l1 x26_1).f0.f1), .int .i8 ((rd_T38 l1 x26_1).f1), .int .i8 ((rd_T38 l1 x26_1).f2), .int .i8 0, .int .i8 0]) ?_ 4 _ rfl; (with_reducible repeat (first | refine blk_drewN ?_ _ | refine blk_drew ?_ | refine blk_alloc ?_ _)); refine blk_put (cs := #[.int .i8 ((rd_T38 l1 x26_1).f0.f0), .int .i8 ((rd_T38 l1 x26_1).f0.f1), .int .i8 ((rd_T38 l1 x26_1).f1), .int .i8 0, .int .i8 0, .int .i8 0]) ?_ 3 _ rfl; (with_reducible repeat (first | refine blk_drewN ?_ _ | refine blk_drew ?_ | refine blk_alloc ?_ _)); refine blk_put (cs := #[.int .i8 ((rd_T38 l1 x26_1).f0.f0), .int .i8 ((rd_T38 l1 x26_1).f0.f1), .int .i8 0, .int .i8 0, .int .i8 0, .int .i8 0]) ?_ 2 _ rfl; (with_reducible repeat (first | refine blk_drewN ?_ _ | refine blk_drew ?_ | refine blk_alloc ?_ _)); refine blk_put (cs := #[.int .i8 ((rd_T38 l1 x26_1).f0.f0), .int .i8 0, .int .i8 0, .int .i8 0, .int .i8 0, .int .i8 0]) ?_ 1 _ rfl; (with_reducible repeat (first | refine blk_drewN ?_ _ | refine blk_drew ?_ | refine blk_alloc ?_ _)); refine blk_put (cs := #[.int .i8 0, .int .i8 0, .int .i8 0, .int .i8 0, .int .i8 0, .int .i8 0]) ?_ 0 _ rfl; exact kb BK329⟩
         have n3_ : Aside0 (Below w.heap.size w ((((((w22.setCell ⟨gb329, 0, none⟩ (.int .i8 ((rd_T38 l1 x26_1).f0.f0))).setCell ⟨gb329, 1, none⟩ (.int .i8 ((rd_T38 l1 x26_1).f0.f1))).setCell ⟨gb329, 2, none⟩ (.int .i8 ((rd_T38 l1 x26_1).f1))).setCell ⟨gb329, 3, none⟩ (.int .i8 ((rd_T38 l1 x26_1).f2))).setCell ⟨gb329, 4, none⟩ (.int .i8 ((rd_T38 l1 x26_1).f3))).setCell ⟨gb329, 5, none⟩ (.int .i8 ((rd_T38 l1 x26_1).f4)))) := ⟨be HB⟩
         (try clear HO_11)
         (try clear BK320)
         (try clear BK329)
         (try clear HB)
         generalize ((((((w22.setCell ⟨gb329, 0, none⟩ (.int .i8 ((rd_T38 l1 x26_1).f0.f0))).setCell ⟨gb329, 1, none⟩ (.int .i8 ((rd_T38 l1 x26_1).f0.f1))).setCell ⟨gb329, 2, none⟩ (.int .i8 ((rd_T38 l1 x26_1).f1))).setCell ⟨gb329, 3, none⟩ (.int .i8 ((rd_T38 l1 x26_1).f2))).setCell ⟨gb329, 4, none⟩ (.int .i8 ((rd_T38 l1 x26_1).f3))).setCell ⟨gb329, 5, none⟩ (.int .i8 ((rd_T38 l1 x26_1).f4))) = w25 at n0_ n1_ n2_ n3_ ⊢
         have HO_11 := n0_
         have BK320 := n1_
         have BK329 := n2_
         have HB := n3_
         clear n0_ n1_ n2_ n3_
         have n0_ := am (Kd.R_drew HO_11.out)
         have n1_ := am (blk_drew BK320.out)
         have n2_ := am (blk_drew BK329.out)
         have n3_ := am (below_drew1 HB.out)
         clear HO_11
         clear BK320
         clear BK329
         clear HB
         have HO_11 := n0_
         have BK320 := n1_
         have BK329 := n2_
         have HB := n3_
         clear n0_ n1_ n2_ n3_
         refine start_ (n := 6) (S := fun w' => w'.cell? ⟨gb320, 0, none⟩ = some (.int .i8 a0_0) ∧ w'.cell? ⟨gb320, 1, none⟩ = some (.int .i8 a0_1) ∧ atCells w' gb320 a0_2 ∧ BayAt28 w' gb320 ∧ lvv w' gb320 = .agg (csBay a0_0 a0_1 a0_2) ∧ w'.cell? ⟨gb329, 0, none⟩ = some (.int .i8 ((rd_T38 l1 x26_1).f0.f0)) ∧ w'.cell? ⟨gb329, 1, none⟩ = some (.int .i8 ((rd_T38 l1 x26_1).f0.f1)) ∧ w'.cell? ⟨gb329, 2, none⟩ = some (.int .i8 ((rd_T38 l1 x26_1).f1)) ∧ w'.cell? ⟨gb329, 3, none⟩ = some (.int .i8 ((rd_T38 l1 x26_1).f2)) ∧ w'.cell? ⟨gb329, 4, none⟩ = some (.int .i8 ((rd_T38 l1 x26_1).f3)) ∧ w'.cell? ⟨gb329, 5, none⟩ = some (.int .i8 ((rd_T38 l1 x26_1).f4))) (ds := []) #[false, false, false, false, false, false] (by kernel_rfl) rfl rfl ⟨(blk_cell BK320.out 0).trans rfl, (blk_cell BK320.out 1).trans rfl, at_cells BK320.out, BayAt28_of BK320.out, lvv_of BK320.out, (blk_cell BK329.out 0).trans rfl, (blk_cell BK329.out 1).trans rfl, (blk_cell BK329.out 2).trans rfl, (blk_cell BK329.out 3).trans rfl, (blk_cell BK329.out 4).trans rfl, (blk_cell BK329.out 5).trans rfl⟩ (fun hHeld => ?_)
         generalize w25.drew = w26 at HO_11 BK320 BK329 HB hHeld ⊢
         refine pure_ (i := 2) (N := some 33) (v := ?_) (a' := ?_) #[false, false, true, false, false, false] rfl rfl (by kernel_rfl) (fun _ _ _ h => h) (Or.inl ⟨by rfl, ?_⟩) ?_ ?_
         rotate_left
         ·intro w'
          go_simp
          with_reducible rfl
         rotate_left
         ·simp only [Act.put, List.setIfInBounds_toArray, List.set_cons_zero, List.set_cons_succ, i64_w, i32_w]
          rfl
         refine pure_ (i := 3) (N := some 34) (v := ?_) (a' := ?_) #[false, false, true, true, false, false] rfl rfl (by kernel_rfl) (fun _ _ _ h => h) (Or.inl ⟨by rfl, ?_⟩) ?_ ?_
         rotate_left
         ·intro w'
          go_simp
          with_reducible rfl
         rotate_left
         ·simp only [Act.put, List.setIfInBounds_toArray, List.set_cons_zero, List.set_cons_succ, i64_w, i32_w]
          rfl
         refine take_ (i := 0) (N := some 31) (v := ?_) (a' := ?_) #[true, false, true, true, false, false] rfl rfl (by kernel_rfl) (fun _ _ _ h => h) (Or.inl ⟨by rfl, ?_⟩) hHeld ?_ ?_
         rotate_left
         ·rintro w' ⟨s0, s1, s2, s3, s4, s5, s6, s7, s8, s9, s10⟩
          go_simp
          with_reducible rfl
         rotate_left
         ·simp only [Act.put, List.setIfInBounds_toArray, List.set_cons_zero, List.set_cons_succ, i64_w, i32_w]
          rfl
         refine take_ (i := 1) (N := some 32) (v := ?_) (a' := ?_) #[true, true, true, true, false, false] rfl rfl (by kernel_rfl) (fun _ _ _ h => h) (Or.inl ⟨by rfl, ?_⟩) hHeld ?_ ?_
         rotate_left
         ·rintro w' ⟨s0, s1, s2, s3, s4, s5, s6, s7, s8, s9, s10⟩
          go_simp
          with_reducible rfl
         rotate_left
         ·simp only [Act.put, List.setIfInBounds_toArray, List.set_cons_zero, List.set_cons_succ, i64_w, i32_w]
          rfl
         refine one_ (i := 4) (N := some 35) #[true, true, true, true, true, false] rfl rfl (by kernel_rfl) (by decide) (fun K hK => ?_)
         refine goes_ Try.func151 (by kernel_rfl) rfl #[.slice A2 l2.length c2, .int .i64 a3] (by rfl) rfl rfl (by (try simp only [List.map_toArray, List.map_cons, List.map_nil]); first | done | rfl | (simp only [List.length_drop, List.length_take]; rfl)) ?_
         with_reducible refine (impl_height.calls k1 _ _ l2 a3 t330 _ ?side1 ?side2 A18.out).mono ?_
         (case side1 => repeat (first | exact (Kd.C_below HR2.out HB.out) | (with_reducible refine Kd.C_alloc ?_ _) | (with_reducible refine Kd.C_drewN ?_ _) | (with_reducible refine Kd.C_drew ?_)))
         (case side2 => exact HC2.out)
         rintro e w27 ⟨rfl, hb⟩
         refine ⟨_, rfl, ?_⟩
         have n0_ := am (Kd.R_below (kr HO_11) hb)
         have n1_ := bB BK320 hb
         have n2_ := bB BK329 hb
         have n3_ := am (below_step (be HB) hb)
         clear HO_11
         clear BK320
         clear BK329
         clear HB
         have HO_11 := n0_
         have BK320 := n1_
         have BK329 := n2_
         have HB := n3_
         clear n0_ n1_ n2_ n3_
         (try clear hb)
         (try clear hb2)
         (try clear hk)
         (try clear hi)
         refine hK.out _ _ ⟨(blk_cell BK320.out 0).trans rfl, (blk_cell BK320.out 1).trans rfl, at_cells BK320.out, BayAt28_of BK320.out, lvv_of BK320.out, (blk_cell BK329.out 0).trans rfl, (blk_cell BK329.out 1).trans rfl, (blk_cell BK329.out 2).trans rfl, (blk_cell BK329.out 3).trans rfl, (blk_cell BK329.out 4).trans rfl, (blk_cell BK329.out 5).trans rfl⟩ (fun hHeld => ?_)
         clear hK K
         refine norm_ (a' := ?_) ?_ ?_
         rotate_left
         ·show Act.put _ (some 35) _ = _
          simp only [Act.put, List.setIfInBounds_toArray, List.set_cons_zero, List.set_cons_succ, i64_w, i32_w]
          rfl
         refine one_ (i := 5) (N := some 36) #[true, true, true, true, true, true] rfl rfl (by kernel_rfl) (by decide) (fun K hK => ?_)
         refine goes_ Try.func150 (by kernel_rfl) rfl #[.agg (csBay a0_0 a0_1 a0_2), .agg #[.int .i8 ((rd_T38 l1 x26_1).f0.f0), .int .i8 ((rd_T38 l1 x26_1).f0.f1), .int .i8 ((rd_T38 l1 x26_1).f1), .int .i8 ((rd_T38 l1 x26_1).f2), .int .i8 ((rd_T38 l1 x26_1).f3), .int .i8 ((rd_T38 l1 x26_1).f4)], .int .i64 t330] (by rfl) rfl rfl (by (try simp only [List.map_toArray, List.map_cons, List.map_nil]); first | done | rfl | (simp only [List.length_drop, List.length_take]; rfl)) ?_
         with_reducible refine (impl_afloat.calls a0_0 a0_1 a0_2 ((rd_T38 l1 x26_1).f0.f0) ((rd_T38 l1 x26_1).f0.f1) ((rd_T38 l1 x26_1).f1) ((rd_T38 l1 x26_1).f2) ((rd_T38 l1 x26_1).f3) ((rd_T38 l1 x26_1).f4) t330 true _ A19.out).mono ?_
         rintro e w28 ⟨rfl, hb⟩
         refine ⟨_, rfl, ?_⟩
         have n0_ := am (Kd.R_below (kr HO_11) hb)
         have n1_ := bB BK320 hb
         have n2_ := bB BK329 hb
         have n3_ := am (below_step (be HB) hb)
         clear HO_11
         clear BK320
         clear BK329
         clear HB
         have HO_11 := n0_
         have BK320 := n1_
         have BK329 := n2_
         have HB := n3_
         clear n0_ n1_ n2_ n3_
         (try clear hb)
         (try clear hb2)
         (try clear hk)
         (try clear hi)
         refine hK.out _ _ ⟨(blk_cell BK320.out 0).trans rfl, (blk_cell BK320.out 1).trans rfl, at_cells BK320.out, BayAt28_of BK320.out, lvv_of BK320.out, (blk_cell BK329.out 0).trans rfl, (blk_cell BK329.out 1).trans rfl, (blk_cell BK329.out 2).trans rfl, (blk_cell BK329.out 3).trans rfl, (blk_cell BK329.out 4).trans rfl, (blk_cell BK329.out 5).trans rfl⟩ (fun hHeld => ?_)
         clear hK K
         refine norm_ (a' := ?_) ?_ ?_
         rotate_left
         ·show Act.put _ (some 36) _ = _
          simp only [Act.put, List.setIfInBounds_toArray, List.set_cons_zero, List.set_cons_succ, i64_w, i32_w]
          rfl
         refine done_ (by kernel_rfl) ?_
         try go_wp2_with (first | ((with_reducible refine gate_builtin (b := .append) (xs := #[.tmp 37, .tmp 39]) rfl ?_); at_builtin; refine Kd.R_append (Kd.int .i64) (w0 := w) w.heap.size rfl (.tmp 37) (.tmp 39) 71 2 (.int .i64 0) 8 rfl Try.underlying71 info2 rfl (by decide) (by omega) u11 x11_1 x26_1 [.int .i64 x26_1] (fun _ => True) (fun _ => False) rfl rfl ?aP (fun _ hk => hk.elim) ?aF ?aO ?aB ?aS ?aL ?_; (case aP => exact rfl); (case aB => exact (be HB)); (case aF => exact (fun _ _ => trivial)); (case aO => exact (kr HO_11)); (case aS => exact (below_size (be HB))); (case aL => have := LMc21.out; omega); intro v333 w29 ho hb hg hat; rw [← Ny332.out] at ho; have HO334 := am (ho); replace BK320 := am (blk_grown (g := gb320) (o := .cells (csBay a0_0 a0_1 a0_2) 28 (0, 0)) (kb BK320) hg (Kd.R_ne HO_11.out BK320.out (by decide))); replace BK329 := am (blk_grown (g := gb329) (o := .cells #[.int .i8 ((rd_T38 l1 x26_1).f0.f0), .int .i8 ((rd_T38 l1 x26_1).f0.f1), .int .i8 ((rd_T38 l1 x26_1).f1), .int .i8 ((rd_T38 l1 x26_1).f2), .int .i8 ((rd_T38 l1 x26_1).f3), .int .i8 ((rd_T38 l1 x26_1).f4)] 38 (0, 0)) (kb BK329) hg (Kd.R_ne HO_11.out BK329.out (by decide))); replace HB := am (hb); clear HO_11; clear ho hb hg hat))
         go_roundg k1
         case measure => have := HK1.out; omega
         case rel => exact ⟨(y332), (wrap64 (x26_1 + 1)), vv, H', ⟨by have := HK1.out; omega⟩, ⟨kr HO334⟩, ⟨kb BK320⟩, ⟨be HB⟩⟩
        ·rw [if_neg c21] at H
         exact absurd H (by simp)
       ·replace c20 := Bool.eq_false_iff.mpr c20
        subst c20
        have H1 : (impl_AfloatAt.l0 k1 l2 a3 x11_1 l1 (l1.length : Int) (wrap64 (x26_1 + 1)) a0_0 a0_1 a0_2) = some (r1, r2) := by rw [if_neg (show ¬ (false = true) by decide)] at H; exact H
        clear H
        have H := H1
        clear H1
        have H' := am H
        clear H
        have p328 : 0 ≤ (x26_1 : Int) := of_decide_eq_true (by first | (with_reducible assumption) | assumption)
        have q328 : x26_1 < (l1.length : Int) := of_decide_eq_true (by first | (with_reducible assumption) | assumption)
        obtain ⟨ad328, e328, hx328_0, hx328_1, hx328_2, hx328_3, hx328_4, hx328_5⟩ := at_T38 HR1.out x26_1 p328 q328
        cases e328
        replace hx328_0 := (HB.out.cell (World.block_lt_of_cell? w _ hx328_0)).trans hx328_0
        replace hx328_1 := (HB.out.cell (World.block_lt_of_cell? w _ hx328_1)).trans hx328_1
        replace hx328_2 := (HB.out.cell (World.block_lt_of_cell? w _ hx328_2)).trans hx328_2
        replace hx328_3 := (HB.out.cell (World.block_lt_of_cell? w _ hx328_3)).trans hx328_3
        replace hx328_4 := (HB.out.cell (World.block_lt_of_cell? w _ hx328_4)).trans hx328_4
        replace hx328_5 := (HB.out.cell (World.block_lt_of_cell? w _ hx328_5)).trans hx328_5
        replace p328 := eq_true p328
        replace q328 := eq_true q328
        try go_wp2_with (first | ((with_reducible refine gate_dst (N := 13) rfl ?_); refine bxe (N := 13) (cs := #[.int .i8 0, .int .i8 0, .int .i8 0, .int .i8 0, .int .i8 0, .int .i8 0]) (t := 38) ?_; intro gb329 hg w30 hbox hb; have BK329 := am (hbox); have GW329 := am (gN hg (below_size (be HB))); have GE329 := am (gN hg (below_size (be HB))); have NB320_329 := nL BK320 hg; have NB329_320 := nR BK320 hg; replace HO_11 := am (Kd.R_below (kr HO_11) hb); replace BK320 := bB BK320 hb; replace HB := am (below_step (be HB) hb); clear hb hbox hg; have hnb31 := NB329_320.out; have hnc31 := NB320_329.out; obtain ⟨hcz32_0, hcz32_1, hcz32_2, hcz32_3, hcz32_4, hcz32_5, hfz32_0, hfz32_1, hfz32_2, hfz32_3, hfz32_4, hfz32_5⟩ := bx6 BK329))
        have n0_ : Aside0 (Kd.R (Kd.int .i64) 2 ((((((w30.setCell ⟨gb329, 0, none⟩ (.int .i8 ((rd_T38 l1 x26_1).f0.f0))).setCell ⟨gb329, 1, none⟩ (.int .i8 ((rd_T38 l1 x26_1).f0.f1))).setCell ⟨gb329, 2, none⟩ (.int .i8 ((rd_T38 l1 x26_1).f1))).setCell ⟨gb329, 3, none⟩ (.int .i8 ((rd_T38 l1 x26_1).f2))).setCell ⟨gb329, 4, none⟩ (.int .i8 ((rd_T38 l1 x26_1).f3))).setCell ⟨gb329, 5, none⟩ (.int .i8 ((rd_T38 l1 x26_1).f4))) w.heap.size (fun _ => True) u11 x11_1) := ⟨by (with_reducible repeat (first | apply Kd.R_alloc | apply Kd.R_drewN | apply Kd.R_drew)); exact Kd.R_mono (Kd.R_far (p := ⟨gb329, 5, none⟩) (Kd.R_far (p := ⟨gb329, 4, none⟩) (Kd.R_far (p := ⟨gb329, 3, none⟩) (Kd.R_far (p := ⟨gb329, 2, none⟩) (Kd.R_far (p := ⟨gb329, 1, none⟩) (Kd.R_far (p := ⟨gb329, 0, none⟩) (Kd.R_types HO_11.out BK329.out (by decide)) (fun _ hk => hk.2) (.int .i8 ((rd_T38 l1 x26_1).f0.f0))) (fun _ hk => hk.2) (.int .i8 ((rd_T38 l1 x26_1).f0.f1))) (fun _ hk => hk.2) (.int .i8 ((rd_T38 l1 x26_1).f1))) (fun _ hk => hk.2) (.int .i8 ((rd_T38 l1 x26_1).f2))) (fun _ hk => hk.2) (.int .i8 ((rd_T38 l1 x26_1).f3))) (fun _ hk => hk.2) (.int .i8 ((rd_T38 l1 x26_1).f4))) (fun _ hk => trivial)⟩
        have n1_ : Aside0 (((((((w30.setCell ⟨gb329, 0, none⟩ (.int .i8 ((rd_T38 l1 x26_1).f0.f0))).setCell ⟨gb329, 1, none⟩ (.int .i8 ((rd_T38 l1 x26_1).f0.f1))).setCell ⟨gb329, 2, none⟩ (.int .i8 ((rd_T38 l1 x26_1).f1))).setCell ⟨gb329, 3, none⟩ (.int .i8 ((rd_T38 l1 x26_1).f2))).setCell ⟨gb329, 4, none⟩ (.int .i8 ((rd_T38 l1 x26_1).f3))).setCell ⟨gb329, 5, none⟩ (.int .i8 ((rd_T38 l1 x26_1).f4))).heap[gb320]? = some (.cells (csBay a0_0 a0_1 a0_2) 28 (0, 0))) := ⟨by (with_reducible repeat (first | refine blk_drewN ?_ _ | refine blk_drew ?_ | refine blk_alloc ?_ _)); refine blk_far ?_ NB320_329.out _; (with_reducible repeat (first | refine blk_drewN ?_ _ | refine blk_drew ?_ | refine blk_alloc ?_ _)); refine blk_far ?_ NB320_329.out _; (with_reducible repeat (first | refine blk_drewN ?_ _ | refine blk_drew ?_ | refine blk_alloc ?_ _)); refine blk_far ?_ NB320_329.out _; (with_reducible repeat (first | refine blk_drewN ?_ _ | refine blk_drew ?_ | refine blk_alloc ?_ _)); refine blk_far ?_ NB320_329.out _; (with_reducible repeat (first | refine blk_drewN ?_ _ | refine blk_drew ?_ | refine blk_alloc ?_ _)); refine blk_far ?_ NB320_329.out _; (with_reducible repeat (first | refine blk_drewN ?_ _ | refine blk_drew ?_ | refine blk_alloc ?_ _)); refine blk_far ?_ NB320_329.out _; exact kb BK320⟩
        have n2_ : Aside0 (((((((w30.setCell ⟨gb329, 0, none⟩ (.int .i8 ((rd_T38 l1 x26_1).f0.f0))).setCell ⟨gb329, 1, none⟩ (.int .i8 ((rd_T38 l1 x26_1).f0.f1))).setCell ⟨gb329, 2, none⟩ (.int .i8 ((rd_T38 l1 x26_1).f1))).setCell ⟨gb329, 3, none⟩ (.int .i8 ((rd_T38 l1 x26_1).f2))).setCell ⟨gb329, 4, none⟩ (.int .i8 ((rd_T38 l1 x26_1).f3))).setCell ⟨gb329, 5, none⟩ (.int .i8 ((rd_T38 l1 x26_1).f4))).heap[gb329]? = some (.cells #[.int .i8 ((rd_T38 l1 x26_1).f0.f0), .int .i8 ((rd_T38 l1 x26_1).f0.f1), .int .i8 ((rd_T38 l1 x26_1).f1), .int .i8 ((rd_T38 l1 x26_1).f2), .int .i8 ((rd_T38 l1 x26_1).f3), .int .i8 ((rd_T38 l1 x26_1).f4)] 38 (0, 0))) := ⟨by (with_reducible repeat (first | refine blk_drewN ?_ _ | refine blk_drew ?_ | refine blk_alloc ?_ _)); refine blk_put (cs := #[.int .i8 ((rd_T38 l1 x26_1).f0.f0), .int .i8 ((rd_T38 l1 x26_1).f0.f1), .int .i8 ((rd_T38 l1 x26_1).f1), .int .i8 ((rd_T38 l1 x26_1).f2), .int .i8 ((rd_T38 l1 x26_1).f3), .int .i8 0]) ?_ 5 _ rfl; (with_reducible repeat (first | refine blk_drewN ?_ _ | refine blk_drew ?_ | refine blk_alloc ?_ _)); refine blk_put (cs := #[.int .i8 ((rd_T38 l1 x26_1).f0.f0), .int .i8 ((rd_T38 l1 x26_1).f0.f1), .int .i8 ((rd_T38 l1 x26_1).f1), .int .i8 ((rd_T38 l1 x26_1).f2), .int .i8 0, .int .i8 0]) ?_ 4 _ rfl; (with_reducible repeat (first | refine blk_drewN ?_ _ | refine blk_drew ?_ | refine blk_alloc ?_ _)); refine blk_put (cs := #[.int .i8 ((rd_T38 l1 x26_1).f0.f0), .int .i8 ((rd_T38 l1 x26_1).f0.f1), .int .i8 ((rd_T38 l1 x26_1).f1), .int .i8 0, .int .i8 0, .int .i8 0]) ?_ 3 _ rfl; (with_reducible repeat (first | refine blk_drewN ?_ _ | refine blk_drew ?_ | refine blk_alloc ?_ _)); refine blk_put (cs := #[.int .i8 ((rd_T38 l1 x26_1).f0.f0), .int .i8 ((rd_T38 l1 x26_1).f0.f1), .int .i8 0, .int .i8 0, .int .i8 0, .int .i8 0]) ?_ 2 _ rfl; (with_reducible repeat (first | refine blk_drewN ?_ _ | refine blk_drew ?_ | refine blk_alloc ?_ _)); refine blk_put (cs := #[.int .i8 ((rd_T38 l1 x26_1).f0.f0), .int .i8 0, .int .i8 0, .int .i8 0, .int .i8 0, .int .i8 0]) ?_ 1 _ rfl; (with_reducible repeat (first | refine blk_drewN ?_ _ | refine blk_drew ?_ | refine blk_alloc ?_ _)); refine blk_put (cs := #[.int .i8 0, .int .i8 0, .int .i8 0, .int .i8 0, .int .i8 0, .int .i8 0]) ?_ 0 _ rfl; exact kb BK329⟩
        have n3_ : Aside0 (Below w.heap.size w ((((((w30.setCell ⟨gb329, 0, none⟩ (.int .i8 ((rd_T38 l1 x26_1).f0.f0))).setCell ⟨gb329, 1, none⟩ (.int .i8 ((rd_T38 l1 x26_1).f0.f1))).setCell ⟨gb329, 2, none⟩ (.int .i8 ((rd_T38 l1 x26_1).f1))).setCell ⟨gb329, 3, none⟩ (.int .i8 ((rd_T38 l1 x26_1).f2))).setCell ⟨gb329, 4, none⟩ (.int .i8 ((rd_T38 l1 x26_1).f3))).setCell ⟨gb329, 5, none⟩ (.int .i8 ((rd_T38 l1 x26_1).f4)))) := ⟨be HB⟩
        (try clear HO_11)
        (try clear BK320)
        (try clear BK329)
        (try clear HB)
        generalize ((((((w30.setCell ⟨gb329, 0, none⟩ (.int .i8 ((rd_T38 l1 x26_1).f0.f0))).setCell ⟨gb329, 1, none⟩ (.int .i8 ((rd_T38 l1 x26_1).f0.f1))).setCell ⟨gb329, 2, none⟩ (.int .i8 ((rd_T38 l1 x26_1).f1))).setCell ⟨gb329, 3, none⟩ (.int .i8 ((rd_T38 l1 x26_1).f2))).setCell ⟨gb329, 4, none⟩ (.int .i8 ((rd_T38 l1 x26_1).f3))).setCell ⟨gb329, 5, none⟩ (.int .i8 ((rd_T38 l1 x26_1).f4))) = w33 at n0_ n1_ n2_ n3_ ⊢
        have HO_11 := n0_
        have BK320 := n1_
        have BK329 := n2_
        have HB := n3_
        clear n0_ n1_ n2_ n3_
        have n0_ := am (Kd.R_drew HO_11.out)
        have n1_ := am (blk_drew BK320.out)
        have n2_ := am (blk_drew BK329.out)
        have n3_ := am (below_drew1 HB.out)
        clear HO_11
        clear BK320
        clear BK329
        clear HB
        have HO_11 := n0_
        have BK320 := n1_
        have BK329 := n2_
        have HB := n3_
        clear n0_ n1_ n2_ n3_
        refine start_ (n := 6) (S := fun w' => w'.cell? ⟨gb320, 0, none⟩ = some (.int .i8 a0_0) ∧ w'.cell? ⟨gb320, 1, none⟩ = some (.int .i8 a0_1) ∧ atCells w' gb320 a0_2 ∧ BayAt28 w' gb320 ∧ lvv w' gb320 = .agg (csBay a0_0 a0_1 a0_2) ∧ w'.cell? ⟨gb329, 0, none⟩ = some (.int .i8 ((rd_T38 l1 x26_1).f0.f0)) ∧ w'.cell? ⟨gb329, 1, none⟩ = some (.int .i8 ((rd_T38 l1 x26_1).f0.f1)) ∧ w'.cell? ⟨gb329, 2, none⟩ = some (.int .i8 ((rd_T38 l1 x26_1).f1)) ∧ w'.cell? ⟨gb329, 3, none⟩ = some (.int .i8 ((rd_T38 l1 x26_1).f2)) ∧ w'.cell? ⟨gb329, 4, none⟩ = some (.int .i8 ((rd_T38 l1 x26_1).f3)) ∧ w'.cell? ⟨gb329, 5, none⟩ = some (.int .i8 ((rd_T38 l1 x26_1).f4))) (ds := []) #[false, false, false, false, false, false] (by kernel_rfl) rfl rfl ⟨(blk_cell BK320.out 0).trans rfl, (blk_cell BK320.out 1).trans rfl, at_cells BK320.out, BayAt28_of BK320.out, lvv_of BK320.out, (blk_cell BK329.out 0).trans rfl, (blk_cell BK329.out 1).trans rfl, (blk_cell BK329.out 2).trans rfl, (blk_cell BK329.out 3).trans rfl, (blk_cell BK329.out 4).trans rfl, (blk_cell BK329.out 5).trans rfl⟩ (fun hHeld => ?_)
        generalize w33.drew = w34 at HO_11 BK320 BK329 HB hHeld ⊢
        refine pure_ (i := 2) (N := some 33) (v := ?_) (a' := ?_) #[false, false, true, false, false, false] rfl rfl (by kernel_rfl) (fun _ _ _ h => h) (Or.inl ⟨by rfl, ?_⟩) ?_ ?_
        rotate_left
        ·intro w'
         go_simp
         with_reducible rfl
        rotate_left
        ·simp only [Act.put, List.setIfInBounds_toArray, List.set_cons_zero, List.set_cons_succ, i64_w, i32_w]
         rfl
        refine pure_ (i := 3) (N := some 34) (v := ?_) (a' := ?_) #[false, false, true, true, false, false] rfl rfl (by kernel_rfl) (fun _ _ _ h => h) (Or.inl ⟨by rfl, ?_⟩) ?_ ?_
        rotate_left
        ·intro w'
         go_simp
         with_reducible rfl
        rotate_left
        ·simp only [Act.put, List.setIfInBounds_toArray, List.set_cons_zero, List.set_cons_succ, i64_w, i32_w]
         rfl
        refine take_ (i := 0) (N := some 31) (v := ?_) (a' := ?_) #[true, false, true, true, false, false] rfl rfl (by kernel_rfl) (fun _ _ _ h => h) (Or.inl ⟨by rfl, ?_⟩) hHeld ?_ ?_
        rotate_left
        ·rintro w' ⟨s0, s1, s2, s3, s4, s5, s6, s7, s8, s9, s10⟩
         go_simp
         with_reducible rfl
        rotate_left
        ·simp only [Act.put, List.setIfInBounds_toArray, List.set_cons_zero, List.set_cons_succ, i64_w, i32_w]
         rfl
        refine take_ (i := 1) (N := some 32) (v := ?_) (a' := ?_) #[true, true, true, true, false, false] rfl rfl (by kernel_rfl) (fun _ _ _ h => h) (Or.inl ⟨by rfl, ?_⟩) hHeld ?_ ?_
        rotate_left
        ·rintro w' ⟨s0, s1, s2, s3, s4, s5, s6, s7, s8, s9, s10⟩
         go_simp
         with_reducible rfl
        rotate_left
        ·simp only [Act.put, List.setIfInBounds_toArray, List.set_cons_zero, List.set_cons_succ, i64_w, i32_w]
         rfl
        refine one_ (i := 4) (N := some 35) #[true, true, true, true, true, false] rfl rfl (by kernel_rfl) (by decide) (fun K hK => ?_)
        refine goes_ Try.func151 (by kernel_rfl) rfl #[.slice A2 l2.length c2, .int .i64 a3] (by rfl) rfl rfl (by (try simp only [List.map_toArray, List.map_cons, List.map_nil]); first | done | rfl | (simp only [List.length_drop, List.length_take]; rfl)) ?_
        with_reducible refine (impl_height.calls k1 _ _ l2 a3 t330 _ ?side1 ?side2 A18.out).mono ?_
        (case side1 => repeat (first | exact (Kd.C_below HR2.out HB.out) | (with_reducible refine Kd.C_alloc ?_ _) | (with_reducible refine Kd.C_drewN ?_ _) | (with_reducible refine Kd.C_drew ?_)))
        (case side2 => exact HC2.out)
        rintro e w35 ⟨rfl, hb⟩
        refine ⟨_, rfl, ?_⟩
        have n0_ := am (Kd.R_below (kr HO_11) hb)
        have n1_ := bB BK320 hb
        have n2_ := bB BK329 hb
        have n3_ := am (below_step (be HB) hb)
        clear HO_11
        clear BK320
        clear BK329
        clear HB
        have HO_11 := n0_
        have BK320 := n1_
        have BK329 := n2_
        have HB := n3_
        clear n0_ n1_ n2_ n3_
        (try clear hb)
        (try clear hb2)
        (try clear hk)
        (try clear hi)
        refine hK.out _ _ ⟨(blk_cell BK320.out 0).trans rfl, (blk_cell BK320.out 1).trans rfl, at_cells BK320.out, BayAt28_of BK320.out, lvv_of BK320.out, (blk_cell BK329.out 0).trans rfl, (blk_cell BK329.out 1).trans rfl, (blk_cell BK329.out 2).trans rfl, (blk_cell BK329.out 3).trans rfl, (blk_cell BK329.out 4).trans rfl, (blk_cell BK329.out 5).trans rfl⟩ (fun hHeld => ?_)
        clear hK K
        refine norm_ (a' := ?_) ?_ ?_
        rotate_left
        ·show Act.put _ (some 35) _ = _
         simp only [Act.put, List.setIfInBounds_toArray, List.set_cons_zero, List.set_cons_succ, i64_w, i32_w]
         rfl
        refine one_ (i := 5) (N := some 36) #[true, true, true, true, true, true] rfl rfl (by kernel_rfl) (by decide) (fun K hK => ?_)
        refine goes_ Try.func150 (by kernel_rfl) rfl #[.agg (csBay a0_0 a0_1 a0_2), .agg #[.int .i8 ((rd_T38 l1 x26_1).f0.f0), .int .i8 ((rd_T38 l1 x26_1).f0.f1), .int .i8 ((rd_T38 l1 x26_1).f1), .int .i8 ((rd_T38 l1 x26_1).f2), .int .i8 ((rd_T38 l1 x26_1).f3), .int .i8 ((rd_T38 l1 x26_1).f4)], .int .i64 t330] (by rfl) rfl rfl (by (try simp only [List.map_toArray, List.map_cons, List.map_nil]); first | done | rfl | (simp only [List.length_drop, List.length_take]; rfl)) ?_
        with_reducible refine (impl_afloat.calls a0_0 a0_1 a0_2 ((rd_T38 l1 x26_1).f0.f0) ((rd_T38 l1 x26_1).f0.f1) ((rd_T38 l1 x26_1).f1) ((rd_T38 l1 x26_1).f2) ((rd_T38 l1 x26_1).f3) ((rd_T38 l1 x26_1).f4) t330 false _ A19.out).mono ?_
        rintro e w36 ⟨rfl, hb⟩
        refine ⟨_, rfl, ?_⟩
        have n0_ := am (Kd.R_below (kr HO_11) hb)
        have n1_ := bB BK320 hb
        have n2_ := bB BK329 hb
        have n3_ := am (below_step (be HB) hb)
        clear HO_11
        clear BK320
        clear BK329
        clear HB
        have HO_11 := n0_
        have BK320 := n1_
        have BK329 := n2_
        have HB := n3_
        clear n0_ n1_ n2_ n3_
        (try clear hb)
        (try clear hb2)
        (try clear hk)
        (try clear hi)
        refine hK.out _ _ ⟨(blk_cell BK320.out 0).trans rfl, (blk_cell BK320.out 1).trans rfl, at_cells BK320.out, BayAt28_of BK320.out, lvv_of BK320.out, (blk_cell BK329.out 0).trans rfl, (blk_cell BK329.out 1).trans rfl, (blk_cell BK329.out 2).trans rfl, (blk_cell BK329.out 3).trans rfl, (blk_cell BK329.out 4).trans rfl, (blk_cell BK329.out 5).trans rfl⟩ (fun hHeld => ?_)
        clear hK K
        refine norm_ (a' := ?_) ?_ ?_
        rotate_left
        ·show Act.put _ (some 36) _ = _
         simp only [Act.put, List.setIfInBounds_toArray, List.set_cons_zero, List.set_cons_succ, i64_w, i32_w]
         rfl
        refine done_ (by kernel_rfl) ?_
        try go_wp2
        go_roundg k1
        case measure => have := HK1.out; omega
        case rel => exact ⟨(x11_1), (wrap64 (x26_1 + 1)), vv, H', ⟨by have := HK1.out; omega⟩, ⟨kr HO_11⟩, ⟨kb BK320⟩, ⟨be HB⟩⟩
      ·rw [if_neg c17] at H
       exact absurd H (by simp)
     ·rw [if_neg c16] at H
      exact absurd H (by simp)
    ·rw [if_neg c15] at H
     have c15b0 : decide (x26_1 < (l1.length : Int)) = false := decide_eq_false c15
     clear c15
     simp only [Option.some.injEq, Prod.mk.injEq] at H
     obtain ⟨rfl, rfl⟩ := H
     go_wp2
     go_ret2
     exact ⟨_, by first | rfl | (simp [errW_none, errW_some] <;> rfl) | (simp [*, errW_none, errW_some] <;> rfl), by (with_reducible repeat (first | apply Kd.R_alloc | apply Kd.R_drewN | apply Kd.R_drew)); exact HO_11.out, be HB⟩
 ·rw [if_neg c6] at H
  have c6b0 : (t324 == 0) = false := beq_eq_false_iff_ne.mpr c6
  have c6b1 : (t324 != 0) = true := bne_iff_ne.mpr c6
  simp only [Option.some.injEq, Prod.mk.injEq] at H
  obtain ⟨rfl, rfl⟩ := H
  go_enter Try.func90, Try.ntmps90
  go_wp2_with (first | ((with_reducible refine gate_dst (N := 4) rfl ?_); refine bxe (N := 4) (cs := (csBay a0_0 a0_1 a0_2)) (t := 28) ?_; intro gb320 hg w37 hbox hb; have BK320 := am (hbox); have GW320 := am (gN hg (below_size (be HB))); have GE320 := am (gN hg (below_size (be HB))); replace HB := am (below_step (be HB) hb); clear hb hbox hg; obtain ⟨hcz38_0, hcz38_1, hwz38, haz38, hyz38, hvz38, hfz38_0, hfz38_1, hfz38_2⟩ := bb28 BK320) | ((with_reducible refine gate_dst (N := 18) rfl ?_); refine Kd.R_lit (Kd.int .i64) _ 2 ?hg (N := 18) ?hd (xs := ([a3] : List Int)) (inner := [.int .i64 a3]) (ok := fun _ => True) (okp := fun _ => True) ?hr ?hp (fun _ hk => hk) trivial (Below.refl _ _) (Nat.le_refl _) (by simp) ?_; (case hd => rfl); (case hg => rfl); (case hr => first | (go_simp; done) | (go_simp; rfl)); (case hp => exact (Reps.one (show Kd.M (Kd.int .i64) _ _ _ a3 [.int .i64 a3] from rfl) (Reps.none _ _))); intro v322 w39 ho40 hb hg_ hnew_; clear hg_ hnew_; (first | rw [← Ny321.out] at ho40 | (simp only [Int.reduceToNat] at ho40; rw [← Ny321.out] at ho40)); have HO323 := am (Kd.R_lower ho40 (below_size (be HB))); replace BK320 := bB BK320 hb; replace HB := am (below_step (be HB) hb); clear hb ho40; obtain ⟨Ao41, co41, eo41⟩ := Kd.R_slice HO323.out; subst eo41) | ((with_reducible refine gate_callee (f := 155) rfl ?_); refine gL (some 19) Try.func155 #[.agg (csBay a0_0 a0_1 a0_2), .slice A1 l1.length c1, .slice A2 l2.length c2, .slice Ao41 y321.length co41] ?_; (with_reducible refine (impl_floatCode.calls k a0_0 a0_1 a0_2 _ _ l1 _ _ l2 _ _ y321 t324 _ ?side1 ?side2 ?side3 ?side4 ?side5 ?side6 A5.out).mono ?_); (case side1 => repeat (first | exact (Kd.C_below HR1.out HB.out) | (with_reducible refine Kd.C_alloc ?_ _) | (with_reducible refine Kd.C_drewN ?_ _) | (with_reducible refine Kd.C_drew ?_))); (case side2 => exact HC1.out); (case side3 => repeat (first | exact (Kd.C_below HR2.out HB.out) | (with_reducible refine Kd.C_alloc ?_ _) | (with_reducible refine Kd.C_drewN ?_ _) | (with_reducible refine Kd.C_drew ?_))); (case side4 => exact HC2.out); (case side5 => repeat (first | exact (Kd.R_reads' HO323.out).2.2 | (with_reducible refine Kd.C_alloc ?_ _) | (with_reducible refine Kd.C_drewN ?_ _) | (with_reducible refine Kd.C_drew ?_))); (case side6 => exact (Kd.R_reads' HO323.out).2.1); rintro e w42 ⟨rfl, hb⟩; refine ⟨_, rfl, ?_⟩; replace HO323 := am (Kd.R_below (kr HO323) hb); replace BK320 := bB BK320 hb; replace HB := am (below_step (be HB) hb); (try clear hb); (try clear hb2); (try clear hk); (try clear hi)))
  go_ret2
  exact ⟨_, by first | rfl | (simp [errW_none, errW_some] <;> rfl) | (simp [*, errW_none, errW_some] <;> rfl), by first | exact Kd.R_nil _ _ _ _ _ | exact Kd.N_nil _ _ _ _ _ | exact Kd.V_nil _ _ _ _ _ | exact Kd.Q_nil _ _ _ _ _ | exact Kd.S_nil _ _ _ _ _, be HB⟩

/-! ### laws_markWaterS: function 91 -/
def laws_markWaterS.l0 : Nat → List (S103) → Int → Int → Option (Int × (List (S103)))
 | 0, _, _, _ => none
 | k + 1, x0, x1, x5 => if x5 < (x0.length : Int) then (if 0 ≤ x5 then ((some (x0.set (x5 : Int).toNat (⟨IntKind.i16.wrap (x1), (rd_T103 x0 x5).f1⟩ : S103) : List (S103))).bind fun y335 => (laws_markWaterS.l0 k (y335.set (x5 : Int).toNat (⟨(rd_T103 y335 x5).f0, IntKind.i8.wrap (wrap64 (x1 + 1))⟩ : S103)) (wrap64 ((wrap64 (x1 + 1)) + 1)) (wrap64 (x5 + 1)))) else (none)) else (some (x1, x0))
def laws_markWaterS.f (k : Nat) (l0 : List (S103)) (a1 : Int) : Option (Int × (List (S103))) := laws_markWaterS.l0 k l0 a1 0
set_option maxHeartbeats 8000000 in
set_option maxRecDepth 100000 in
theorem laws_markWaterS.calls (k : Nat) (P0_ : Nat → Prop) (u9000_ : Value) (l0 : List (S103)) (a1 : Int) (r1 : Int) (r2 : List (S103)) (w0 w : World) (hB : Below w0.heap.size w0 w) (ho0 : Kd.R k103 103 w w0.heap.size P0_ u9000_ l0) (h : laws_markWaterS.f k l0 a1 = some (r1, r2)) :
  Calls Try.prog 91 #[u9000_, .int .i64 a1] w fun e w' => e = .returned (.int .i64 r1) ∧ Kd.R k103 103 w' w0.heap.size (fun k_ => (P0_ k_ ∨ w.heap.size ≤ k_)) u9000_ r2 ∧ Below w0.heap.size w0 w' ∧ Kept w w' (fun k_ => P0_ k_) := by
 have HO0 := am (show Kd.R k103 103 w w0.heap.size (fun k_ => (P0_ k_ ∨ w.heap.size ≤ k_)) u9000_ l0 from Kd.R_mono ho0 (fun k_ hk => (.inl hk)))
 have HK := am (Kept.refl w (fun k_ => P0_ k_))
 have HW0 := am hB.size
 have HB := am hB
 clear hB
 have H : (laws_markWaterS.l0 k l0 a1 0) = some (r1, r2) := h
 clear h
 have H' := am H
 clear H
 go_enter Try.func91, Try.ntmps91
 go_wp2
 go_loopg [1, 5] k (fun kq v1 v5 w' => ∃ (x0_1 : List (S103)) (x1_1 : Int) (x5_1 : Int), v1 = .int .i64 x1_1 ∧ v5 = .int .i64 x5_1 ∧ Aside0 (laws_markWaterS.l0 kq x0_1 x1_1 x5_1 = some (r1, r2)) ∧ Aside0 (kq ≤ k) ∧ Aside0 (Kd.R k103 103 w' w0.heap.size (fun k_ => (P0_ k_ ∨ w.heap.size ≤ k_)) u9000_ x0_1) ∧ Aside0 (Kept w w' (fun k_ => P0_ k_)) ∧ Aside0 (Below w0.heap.size w0 w'))
 case atStart => exact ⟨(l0), (a1), (0), vv, vv, H', ⟨Nat.le_refl _⟩, ⟨kr HO0⟩, ⟨by repeat (first | (with_reducible first | exact HK.out | apply Kept.alloc | apply Kept.drewN | apply Kept.drew) | exact HK.out)⟩, ⟨be HB⟩⟩
 case round =>
  clear H'
  try clear p2
  obtain ⟨x0_1, x1_1, x5_1, rfl, rfl, HA, HK1, HO_0, HK, HB⟩ := hrel
  cases gk with
  | zero => exact absurd HA.out (by simp [laws_markWaterS.l0])
  | succ k1 =>
   have H := HA.out
   clear HA
   simp only [laws_markWaterS.l0] at H
   by_cases c3 : x5_1 < (x0_1.length : Int)
   ·rw [if_pos c3] at H
    have c3b0 : decide (x5_1 < (x0_1.length : Int)) = true := decide_eq_true c3
    clear c3
    by_cases c4 : 0 ≤ x5_1
    ·rw [if_pos c4] at H
     have c4b0 : decide (0 ≤ x5_1) = true := decide_eq_true c4
     have c4b1 : 0 ≤ x5_1 := c4
     clear c4
     obtain ⟨y335, hy335⟩ : ∃ y_ : List (S103), y_ = (x0_1.set (x5_1 : Int).toNat (⟨IntKind.i16.wrap (x1_1), (rd_T103 x0_1 x5_1).f1⟩ : S103)) := ⟨_, rfl⟩
     replace H : (laws_markWaterS.l0 k1 (y335.set (x5_1 : Int).toNat (⟨(rd_T103 y335 x5_1).f0, IntKind.i8.wrap (wrap64 (x1_1 + 1))⟩ : S103)) (wrap64 ((wrap64 (x1_1 + 1)) + 1)) (wrap64 (x5_1 + 1))) = some (r1, r2) := by first | (rw [hy335]; with_reducible exact H) | (have H2_ := (Option.bind_some _ _).symm.trans H; rw [hy335]; with_reducible exact H2_) | (have H2_ := (Option.bind_some _ _).symm.trans H; with_reducible exact H2_) | with_reducible exact H | (rw [hy335]; exact H) | exact H
     have Ny335 := am hy335
     clear hy335
     obtain ⟨y336, hy336⟩ : ∃ y_ : List (S103), y_ = (y335.set (x5_1 : Int).toNat (⟨(rd_T103 y335 x5_1).f0, IntKind.i8.wrap (wrap64 (x1_1 + 1))⟩ : S103)) := ⟨_, rfl⟩
     replace H : (laws_markWaterS.l0 k1 y336 (wrap64 ((wrap64 (x1_1 + 1)) + 1)) (wrap64 (x5_1 + 1))) = some (r1, r2) := by first | (rw [hy336]; with_reducible exact H) | (have H2_ := (Option.bind_some _ _).symm.trans H; rw [hy336]; with_reducible exact H2_) | (have H2_ := (Option.bind_some _ _).symm.trans H; with_reducible exact H2_) | with_reducible exact H | (rw [hy336]; exact H) | exact H
     have Ny336 := am hy336
     clear hy336
     have H' := am H
     clear H
     obtain ⟨Ao7, co7, eo7⟩ := Kd.R_slice HO_0.out
     subst eo7
     have p5 : 0 ≤ (x5_1 : Int) := of_decide_eq_true (by first | (with_reducible assumption) | assumption)
     have q5 : (x5_1 : Int) < ((x0_1.length : Int) : Int) := of_decide_eq_true (by first | (with_reducible assumption) | assumption)
     obtain ⟨go5, co5, eo5, gb5, gl5, cl5, HG5⟩ := Kd.R_form HO_0.out (by omega)
     (first | cases eo5 | (injection eo5 with ea_ en_ ec_; (first | subst ea_ | (injection ea_ with ea_; subst ea_)); subst ec_; clear en_))
     have GB5 := am gb5
     have GG5 := am HG5
     clear gb5 gl5 HG5
     have HMgo5 := am (show (P0_ go5 ∨ w.heap.size ≤ go5) from (HO_0.out.1 _ rfl))
     obtain ⟨ce5, hcl5, hM5, hcc5, hfr5⟩ := Kd.R_elem HO_0.out z103 (x5_1 : Int) p5 q5
     obtain rfl := k103_openM hM5
     have hx5_0 : wr.cell? ⟨go5, (x5_1 : Int).toNat * 2, none⟩ = some (.int .i16 ((rd_T103 x0_1 x5_1).f0)) := hcc5 0 _ rfl
     have hx5_1 : wr.cell? ⟨go5, (x5_1 : Int).toNat * 2 + 1, none⟩ = some (.int .i8 ((rd_T103 x0_1 x5_1).f1)) := hcc5 1 _ rfl
     have hf5_0 : wr.frozen? ⟨go5, (x5_1 : Int).toNat * 2, none⟩ = false := hfr5 0
     have hf5_1 : wr.frozen? ⟨go5, (x5_1 : Int).toNat * 2 + 1, none⟩ = false := hfr5 1
     clear hcl5 hcc5 hfr5 hM5
     replace p5 := eq_true p5
     replace q5 := eq_true q5
     have HX8 := am (show Kd.R k103 103 wr w0.heap.size (fun k_ => (P0_ k_ ∨ w.heap.size ≤ k_)) (.slice (some ⟨go5, 0, none⟩) x0_1.length co7) x0_1 from (kr HO_0))
     obtain ⟨ce8, hcl8, hM8, hcc8, hfr8⟩ := Kd.R_elem HX8.out z103 (x5_1 : Int) (of_decide_eq_true (by first | (with_reducible assumption) | assumption)) (by have h_ : (x5_1 : Int) < ((x0_1.length : Int) : Int) := of_decide_eq_true (by first | (with_reducible assumption) | assumption); first | exact h_ | (have e_ := (Kd.R_reads' HO_0.out).1; omega) | simpa using h_)
     obtain rfl := k103_openM hM8
     have HP8 := Kd.R_seg HX8.out (x5_1 : Int) (of_decide_eq_true (by first | (with_reducible assumption) | assumption)) (by have h_ : (x5_1 : Int) < ((x0_1.length : Int) : Int) := of_decide_eq_true (by first | (with_reducible assumption) | assumption); first | exact h_ | (have e_ := (Kd.R_reads' HO_0.out).1; omega) | simpa using h_) (seg := [.int .i16 (IntKind.i16.wrap (x1_1))]) (j := 0) hcl8 hcc8 (show 1 ≤ 2 from by decide) (x' := (⟨IntKind.i16.wrap (x1_1), (rd_T103 x0_1 x5_1).f1⟩ : S103)) (k103_mkM _ _ _ (⟨IntKind.i16.wrap (x1_1), (rd_T103 x0_1 x5_1).f1⟩ : S103) ) (fun _ hk => hk)
     have hx8_0 := hcc8 0 _ rfl
     (try simp only [show (k103).sz = 2 from rfl, Nat.mul_one, Nat.add_zero] at hx8_0)
     have hf8_0 := hfr8 0
     (try simp only [show (k103).sz = 2 from rfl, Nat.mul_one, Nat.add_zero] at hf8_0)
     clear hcl8 hcc8 hfr8 hM8
     go_wp2_with (first | ((with_reducible refine gate_store (t := 101) (p := 17) rfl ?_); refine store_event (t := 101) (p := 17) (v := ?vo_w9) (w1 := (wr.setCell ⟨go5, (x5_1 : Int).toNat * 2, none⟩ (.int .i16 (IntKind.i16.wrap (x1_1))))) ?hg ?ho ?hn ?hr ?_; (case ho => rfl); (case hg => rfl); (case hn => rfl); (case hr => first | (go_simp; done) | (go_simp; rfl)); intro w9 hw; have hg : wr.grownBy w9 (some go5) := (by rw [hw]; exact HP8.2); have hp_ : Kd.R k103 103 w9 w0.heap.size (fun k_ => (P0_ k_ ∨ w.heap.size ≤ k_)) (.slice (some ⟨go5, 0, none⟩) x0_1.length co7) y335 := (by rw [hw, Ny335.out]; exact HP8.1); clear HP8; replace HB := am ((by rw [hw]; exact below_set (HB.out) GB5.out : Below w0.heap.size w0 w9)); replace HK := am (Kept.of_grown (S := (fun k_ => P0_ k_)) hg (by repeat (first | (with_reducible first | exact HK.out | apply Kept.alloc | apply Kept.drewN | apply Kept.drew) | exact HK.out)) (fun k_ e_ => (HO_0.out.1 k_ e_))); replace HO_0 := am (hp_); clear hg hw hp_; have p6 : 0 ≤ (x5_1 : Int) := of_decide_eq_true (by first | (with_reducible assumption) | assumption); have q6 : (x5_1 : Int) < ((x0_1.length : Int) : Int) := of_decide_eq_true (by first | (with_reducible assumption) | assumption); obtain ⟨ce6, hcl6, hM6, hcc6, hfr6⟩ := Kd.R_elem HO_0.out z103 (x5_1 : Int) p6 q6; obtain rfl := k103_openM hM6; have hx6_0 : w9.cell? ⟨go5, (x5_1 : Int).toNat * 2, none⟩ = some (.int .i16 ((rd_T103 y335 x5_1).f0)) := hcc6 0 _ rfl; have hx6_1 : w9.cell? ⟨go5, (x5_1 : Int).toNat * 2 + 1, none⟩ = some (.int .i8 ((rd_T103 y335 x5_1).f1)) := hcc6 1 _ rfl; have hf6_0 : w9.frozen? ⟨go5, (x5_1 : Int).toNat * 2, none⟩ = false := hfr6 0; have hf6_1 : w9.frozen? ⟨go5, (x5_1 : Int).toNat * 2 + 1, none⟩ = false := hfr6 1; clear hcl6 hcc6 hfr6 hM6; replace p6 := eq_true p6; replace q6 := eq_true q6; have HX10 := am (show Kd.R k103 103 w9 w0.heap.size (fun k_ => (P0_ k_ ∨ w.heap.size ≤ k_)) (.slice (some ⟨go5, 0, none⟩) x0_1.length co7) y335 from (kr HO_0)); obtain ⟨ce10, hcl10, hM10, hcc10, hfr10⟩ := Kd.R_elem HX10.out z103 (x5_1 : Int) (of_decide_eq_true (by first | (with_reducible assumption) | assumption)) (by have h_ : (x5_1 : Int) < ((x0_1.length : Int) : Int) := of_decide_eq_true (by first | (with_reducible assumption) | assumption); first | exact h_ | (have e_ := (Kd.R_reads' HO_0.out).1; omega) | simpa using h_); obtain rfl := k103_openM hM10; have HP10 := Kd.R_seg HX10.out (x5_1 : Int) (of_decide_eq_true (by first | (with_reducible assumption) | assumption)) (by have h_ : (x5_1 : Int) < ((x0_1.length : Int) : Int) := of_decide_eq_true (by first | (with_reducible assumption) | assumption); first | exact h_ | (have e_ := (Kd.R_reads' HO_0.out).1; omega) | simpa using h_) (seg := [.int .i8 (IntKind.i8.wrap (wrap64 (x1_1 + 1)))]) (j := 1) hcl10 hcc10 (show 2 ≤ 2 from by decide) (x' := (⟨(rd_T103 y335 x5_1).f0, IntKind.i8.wrap (wrap64 (x1_1 + 1))⟩ : S103)) (k103_mkM _ _ _ (⟨(rd_T103 y335 x5_1).f0, IntKind.i8.wrap (wrap64 (x1_1 + 1))⟩ : S103) ) (fun _ hk => hk); have hx10_1 := hcc10 1 _ rfl; (try simp only [show (k103).sz = 2 from rfl, Nat.mul_one, Nat.add_zero] at hx10_1); have hf10_1 := hfr10 1; (try simp only [show (k103).sz = 2 from rfl, Nat.mul_one, Nat.add_zero] at hf10_1); clear hcl10 hcc10 hfr10 hM10) | ((with_reducible refine gate_store (t := 22) (p := 25) rfl ?_); refine store_event (t := 22) (p := 25) (v := ?vo_w11) (w1 := (w9.setCell ⟨go5, (x5_1 : Int).toNat * 2 + 1, none⟩ (.int .i8 (IntKind.i8.wrap (wrap64 (x1_1 + 1)))))) ?hg ?ho ?hn ?hr ?_; (case ho => rfl); (case hg => rfl); (case hn => rfl); (case hr => first | (go_simp; done) | (go_simp; rfl)); intro w11 hw; have hg : w9.grownBy w11 (some go5) := (by rw [hw]; exact HP10.2); have hp_ : Kd.R k103 103 w11 w0.heap.size (fun k_ => (P0_ k_ ∨ w.heap.size ≤ k_)) (.slice (some ⟨go5, 0, none⟩) x0_1.length co7) y336 := (by rw [hw, Ny336.out]; exact HP10.1); clear HP10; replace HB := am ((by rw [hw]; exact below_set (HB.out) GB5.out : Below w0.heap.size w0 w11)); replace HK := am (Kept.of_grown (S := (fun k_ => P0_ k_)) hg (by repeat (first | (with_reducible first | exact HK.out | apply Kept.alloc | apply Kept.drewN | apply Kept.drew) | exact HK.out)) (fun k_ e_ => (HO_0.out.1 k_ e_))); replace HO_0 := am (hp_); clear hg hw hp_))
     go_roundg k1
     case measure => have := HK1.out; omega
     case rel => exact ⟨(y336), (wrap64 ((wrap64 (x1_1 + 1)) + 1)), (wrap64 (x5_1 + 1)), vv, vv, H', ⟨by have := HK1.out; omega⟩, ⟨kr HO_0⟩, ⟨by repeat (first | (with_reducible first | exact HK.out | apply Kept.alloc | apply Kept.drewN | apply Kept.drew) | exact HK.out)⟩, ⟨be HB⟩⟩
    ·rw [if_neg c4] at H
     exact absurd H (by simp)
   ·rw [if_neg c3] at H
    have c3b0 : decide (x5_1 < (x0_1.length : Int)) = false := decide_eq_false c3
    clear c3
    simp only [Option.some.injEq, Prod.mk.injEq] at H
    obtain ⟨rfl, rfl⟩ := H
    obtain ⟨Ao12, co12, eo12⟩ := Kd.R_slice HO_0.out
    subst eo12
    go_wp2
    go_ret
    exact ⟨by first | rfl | (simp [errW_none, errW_some] <;> rfl) | (simp [*, errW_none, errW_some] <;> rfl), by (with_reducible repeat (first | apply Kd.R_alloc | apply Kd.R_drewN | apply Kd.R_drew)); exact HO_0.out, be HB, by repeat (first | (with_reducible first | exact HK.out | apply Kept.alloc | apply Kept.drewN | apply Kept.drew) | exact HK.out)⟩

end Go.Proofs.Ytcollbifdfhfoaa.PFnExactAfloatAt
