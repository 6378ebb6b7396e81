-- Written by a program out of this seat's translation (functions, and that the code comes to them).
import Derived.Test.YtcollbifdfhfoaaPFnExactIsAfloatx0
import Derived.Test.YtcollbifdfhfoaaPFnExactIsAfloatx1
import Derived.Test.YtcollbifdfhfoaaPFnExactIsAfloatx5
import Derived.Test.YtcollbifdfhfoaaPFnExactIsAfloatx6
import Derived.Test.YtcollbifdfhfoaaPFnExactIsAfloatx7
import Derived.Test.YtcollbifdfhfoaaPFnExactIsAfloatx8
namespace Go.Proofs.Ytcollbifdfhfoaa.PFnExactIsAfloat
open Go.RowKit Go.Proofs.YtcollbifdfhfoaaW.PrintWords Go.Proofs.YtcollbifdfhfoaaW.PrintLast Go.Proofs.YtcollbifdfhfoaaW.PrintMore
attribute [local go_sem] max2_int min2_int max_two min_two max_three min_three max_four min_four   -- for this text's walks alone
open Go.Proofs.Ytcollbifdfhfoaa.Bay Go.Proofs.Ytcollbifdfhfoaa.Short
attribute [local go_sem ↓] lv26_eq lv28_eq
attribute [local go_sem] lvv_set lvv_drewN lvv_drew lv26_run BayAt26_set BayAt26_drewN BayAt26_drew lv28_run BayAt28_set BayAt28_drewN BayAt28_drew
set_option linter.unusedVariables false
set_option linter.unusedSimpArgs false

/-! ### impl_IsAfloat: function 88 -/
def impl_IsAfloat.f (k : Nat) (a0_0 : Int) (a0_1 : Int) (a0_2 : (Nat → Int)) (a1_0 : Int) (a1_1 : Int) (a1_2 : Int) (a1_3 : Int) (a1_4 : Int) (a1_5 : Int) (l2 : List (S103)) (a3 : Int) : Option (Bool × Int) := (impl_ValidBoat.f a0_0 a0_1 a0_2 a1_0 a1_1 a1_2 a1_3 a1_4 a1_5).bind fun t282 => (if t282 = true then ((impl_tidesCode.f k l2 (([a3] : List Int)) ([] : List Int)).bind fun t286 => (if t286 = 0 then ((impl_height.f k l2 a3).bind fun t287 => ((impl_afloat.f a0_0 a0_1 a0_2 a1_0 a1_1 a1_2 a1_3 a1_4 a1_5 t287).bind fun t288 => (some (t288, 0)))) else (some (false, t286)))) else (some (false, 1)))
def impl_IsAfloat.T6 : Bool × List (List Nat × List Nat) := (true, [([], []), ([], []), ([], []), ([], []), ([2, 3], [2, 3]), ([0, 1, 4, 4], [0, 1, 4]), ([5, 5, 0, 1, 2, 3, 4, 5], [5]), ([6, 0, 1, 2, 3, 4, 5, 6], [])])
def impl_IsAfloat.B6 : List Nat := [0, 0, 0, 0, 12, 31, 63, 127]
theorem impl_IsAfloat.tab6 : rtab .any (opsOf Try.f88 6) = impl_IsAfloat.T6 := by kernel_rfl
theorem impl_IsAfloat.bits6 : waitsOk impl_IsAfloat.T6.2 impl_IsAfloat.B6 = true := by kernel_rfl
set_option maxHeartbeats 8000000 in
set_option maxRecDepth 100000 in
theorem impl_IsAfloat.calls (k : Nat) (a0_0 : Int) (a0_1 : Int) (a0_2 : (Nat → Int)) (a1_0 : Int) (a1_1 : Int) (a1_2 : Int) (a1_3 : Int) (a1_4 : Int) (a1_5 : Int) (A2 : Option Addr) (c2 : Nat) (l2 : List (S103)) (a3 : Int) (r1 : Bool) (r2 : Int) (w : World) (hr2 : Kd.C k103 w A2 l2.length l2) (hc2 : l2.length ≤ c2) (h : impl_IsAfloat.f k a0_0 a0_1 a0_2 a1_0 a1_1 a1_2 a1_3 a1_4 a1_5 l2 a3 = some (r1, r2)) :
  Calls Try.prog 88 #[.agg (csBay a0_0 a0_1 a0_2), .agg #[.int .i8 a1_0, .int .i8 a1_1, .int .i8 a1_2, .int .i8 a1_3, .int .i8 a1_4, .int .i8 a1_5], .slice A2 l2.length c2, .int .i64 a3] w fun e w' => e = .returned (.tuple #[.bool r1, .int .i64 r2]) ∧ Below w.heap.size w w' := by
 have hu28 := Try.underlying28
 have hu38 := Try.underlying38
 have HR2 := am hr2
 have HC2 := am hc2
 clear hr2 hc2
 have HB := am (Below.refl w.heap.size w)
 have H : ((impl_ValidBoat.f a0_0 a0_1 a0_2 a1_0 a1_1 a1_2 a1_3 a1_4 a1_5).bind fun t282 => (if t282 = true then ((impl_tidesCode.f k l2 (([a3] : List Int)) ([] : List Int)).bind fun t286 => (if t286 = 0 then ((impl_height.f k l2 a3).bind fun t287 => ((impl_afloat.f a0_0 a0_1 a0_2 a1_0 a1_1 a1_2 a1_3 a1_4 a1_5 t287).bind fun t288 => (some (t288, 0)))) else (some (false, t286)))) else (some (false, 1)))) = some (r1, r2) := h
 clear h
 replace H := Option.bind_eq_some_iff.mp H
 obtain ⟨t282, A50, H⟩ := H
 try dsimp only at H
 have A5 := am A50
 clear A50
 by_cases c6 : t282 = true
 ·subst c6
  rw [if_pos rfl] at H
  obtain ⟨y283, hy283⟩ : ∃ y_ : List Int, y_ = (([a3] : List Int)) := ⟨_, rfl⟩
  replace H : ((impl_tidesCode.f k l2 y283 ([] : List Int)).bind fun t286 => (if t286 = 0 then ((impl_height.f k l2 a3).bind fun t287 => ((impl_afloat.f a0_0 a0_1 a0_2 a1_0 a1_1 a1_2 a1_3 a1_4 a1_5 t287).bind fun t288 => (some (t288, 0)))) else (some (false, t286)))) = some (r1, r2) := by first | (rw [hy283]; with_reducible exact H) | (have H2_ := (Option.bind_some _ _).symm.trans H; rw [hy283]; with_reducible exact H2_) | (have H2_ := (Option.bind_some _ _).symm.trans H; with_reducible exact H2_) | with_reducible exact H | (rw [hy283]; exact H) | exact H
  have Ny283 := am hy283
  clear hy283
  replace H := Option.bind_eq_some_iff.mp H
  obtain ⟨t286, A70, H⟩ := H
  try dsimp only at H
  have A7 := am A70
  clear A70
  by_cases c8 : t286 = 0
  ·rw [if_pos c8] at H
   have c8b0 : (t286 == 0) = true := beq_iff_eq.mpr c8
   have c8b1 : (t286 != 0) = false := bne_eq_false_iff_eq.mpr c8
   clear c8
   replace H := Option.bind_eq_some_iff.mp H
   obtain ⟨t287, A90, H⟩ := H
   try dsimp only at H
   have A9 := am A90
   clear A90
   replace H := Option.bind_eq_some_iff.mp H
   obtain ⟨t288, A100, H⟩ := H
   try dsimp only at H
   have A10 := am A100
   clear A100
   simp only [Option.some.injEq, Prod.mk.injEq] at H
   obtain ⟨rfl, rfl⟩ := H
   go_enter Try.func88, Try.ntmps88
   try go_wp2_with (first | ((with_reducible refine gate_dst (N := 4) rfl ?_); refine bxe (N := 4) (cs := (csBay a0_0 a0_1 a0_2)) (t := 28) ?_; intro gb280 hg w11 hbox hb; have BK280 := am (hbox); have GW280 := am (gN hg (below_size (be HB))); have GE280 := am (gN hg (below_size (be HB))); replace HB := am (below_step (be HB) hb); clear hb hbox hg) | ((with_reducible refine gate_dst (N := 5) rfl ?_); refine bxe (N := 5) (cs := #[.int .i8 a1_0, .int .i8 a1_1, .int .i8 a1_2, .int .i8 a1_3, .int .i8 a1_4, .int .i8 a1_5]) (t := 38) ?_; intro gb281 hg w12 hbox hb; have BK281 := am (hbox); have GW281 := am (gN hg (below_size (be HB))); have GE281 := am (gN hg (below_size (be HB))); have NB280_281 := nL BK280 hg; have NB281_280 := nR BK280 hg; replace BK280 := bB BK280 hb; replace HB := am (below_step (be HB) hb); clear hb hbox hg; have hnb13 := NB280_281.out; have hnc13 := NB281_280.out; have hcz14_0 : w12.cell? ⟨gb280, 0, none⟩ = some (.int .i8 a0_0) := (blk_cell BK280.out 0).trans rfl; have hcz14_1 : w12.cell? ⟨gb280, 1, none⟩ = some (.int .i8 a0_1) := (blk_cell BK280.out 1).trans rfl; have hwz14 := lv28_at BK280.out; have haz14 := at_cells BK280.out; have hyz14 := BayAt28_of BK280.out; have hvz14 := lvv_of BK280.out; have hfz14_0 := blk_frozen BK280.out 0; have hfz14_1 := blk_frozen BK280.out 1; have hfz14_2 := blk_frozen BK280.out 2; obtain ⟨hcz15_0, hcz15_1, hcz15_2, hcz15_3, hcz15_4, hcz15_5, hfz15_0, hfz15_1, hfz15_2, hfz15_3, hfz15_4, hfz15_5⟩ := bx6 BK281) | ((with_reducible refine gate_callee (f := 30) rfl ?_); refine gL (some 13) Try.func30 #[.agg (csBay a0_0 a0_1 a0_2), .agg #[.int .i8 a1_0, .int .i8 a1_1, .int .i8 a1_2, .int .i8 a1_3, .int .i8 a1_4, .int .i8 a1_5]] ?_; (with_reducible refine (impl_ValidBoat.calls a0_0 a0_1 a0_2 a1_0 a1_1 a1_2 a1_3 a1_4 a1_5 true _ A5.out).mono ?_); rintro e w16 ⟨rfl, hb⟩; refine ⟨_, rfl, ?_⟩; replace BK280 := bB BK280 hb; replace BK281 := bB BK281 hb; replace HB := am (below_step (be HB) hb); (try clear hb); (try clear hb2); (try clear hk); (try clear hi)) | ((with_reducible refine gate_dst (N := 17) rfl ?_); refine Kd.R_lit (Kd.int .i64) _ 2 ?hg (N := 17) ?hd (xs := ([a3] : List Int)) (inner := [.int .i64 a3]) (ok := fun _ => True) (okp := fun _ => True) ?hr ?hp (fun _ hk => hk) trivial (Below.refl _ _) (Nat.le_refl _) (by simp) ?_; (case hd => rfl); (case hg => rfl); (case hr => first | (go_simp; done) | (go_simp; rfl)); (case hp => exact (Reps.one (show Kd.M (Kd.int .i64) _ _ _ a3 [.int .i64 a3] from rfl) (Reps.none _ _))); intro v284 w17 ho18 hb hg_ hnew_; clear hg_ hnew_; (first | rw [← Ny283.out] at ho18 | (simp only [Int.reduceToNat] at ho18; rw [← Ny283.out] at ho18)); have HO285 := am (Kd.R_lower ho18 (below_size (be HB))); replace BK280 := bB BK280 hb; replace BK281 := bB BK281 hb; replace HB := am (below_step (be HB) hb); clear hb ho18; obtain ⟨Ao19, co19, eo19⟩ := Kd.R_slice HO285.out; subst eo19) | ((with_reducible refine gate_callee (f := 154) rfl ?_); refine gL (some 18) Try.func154 #[.slice A2 l2.length c2, .slice Ao19 y283.length co19, .slice none 0 0] ?_; (refine (impl_tidesCode.calls k _ _ l2 _ _ y283 _ _ ([] : List Int) t286 _ ?side1 ?side2 ?side3 ?side4 ?side5 ?side6 A7.out).mono ?_); (case side1 => repeat (first | exact (Kd.C_below HR2.out HB.out) | (with_reducible refine Kd.C_alloc ?_ _) | (with_reducible refine Kd.C_drewN ?_ _) | (with_reducible refine Kd.C_drew ?_))); (case side2 => exact HC2.out); (case side3 => repeat (first | exact (Kd.R_reads' HO285.out).2.2 | (with_reducible refine Kd.C_alloc ?_ _) | (with_reducible refine Kd.C_drewN ?_ _) | (with_reducible refine Kd.C_drew ?_))); (case side4 => exact (Kd.R_reads' HO285.out).2.1); (case side5 => exact Kd.C_nil _ _); (case side6 => exact Nat.le_refl _); rintro e w20 ⟨rfl, hb⟩; refine ⟨_, rfl, ?_⟩; replace HO285 := am (Kd.R_below (kr HO285) hb); replace BK280 := bB BK280 hb; replace BK281 := bB BK281 hb; replace HB := am (below_step (be HB) hb); (try clear hb); (try clear hb2); (try clear hk); (try clear hi)))
   have n0_ := am (Kd.R_drew HO285.out)
   have n1_ := am (blk_drew BK280.out)
   have n2_ := am (blk_drew BK281.out)
   have n3_ := am (below_drew1 HB.out)
   clear HO285
   clear BK280
   clear BK281
   clear HB
   have HO285 := n0_
   have BK280 := n1_
   have BK281 := n2_
   have HB := n3_
   clear n0_ n1_ n2_ n3_
   refine start_ (n := 8) (S := fun w' => w'.cell? ⟨gb280, 0, none⟩ = some (.int .i8 a0_0) ∧ w'.cell? ⟨gb280, 1, none⟩ = some (.int .i8 a0_1) ∧ atCells w' gb280 a0_2 ∧ BayAt28 w' gb280 ∧ lvv w' gb280 = .agg (csBay a0_0 a0_1 a0_2) ∧ w'.cell? ⟨gb281, 0, none⟩ = some (.int .i8 a1_0) ∧ w'.cell? ⟨gb281, 1, none⟩ = some (.int .i8 a1_1) ∧ w'.cell? ⟨gb281, 2, none⟩ = some (.int .i8 a1_2) ∧ w'.cell? ⟨gb281, 3, none⟩ = some (.int .i8 a1_3) ∧ w'.cell? ⟨gb281, 4, none⟩ = some (.int .i8 a1_4) ∧ w'.cell? ⟨gb281, 5, none⟩ = some (.int .i8 a1_5)) (ds := []) #[false, false, false, false, false, false, false, false] (by kernel_rfl) rfl rfl ⟨(blk_cell BK280.out 0).trans rfl, (blk_cell BK280.out 1).trans rfl, at_cells BK280.out, BayAt28_of BK280.out, lvv_of BK280.out, (blk_cell BK281.out 0).trans rfl, (blk_cell BK281.out 1).trans rfl, (blk_cell BK281.out 2).trans rfl, (blk_cell BK281.out 3).trans rfl, (blk_cell BK281.out 4).trans rfl, (blk_cell BK281.out 5).trans rfl⟩ (fun hHeld => ?_); refine with_tabW impl_IsAfloat.tab6 impl_IsAfloat.bits6 (fun HT_ HW_ => ?_)
   generalize w20.drew = w21 at HO285 BK280 BK281 HB hHeld ⊢
   refine pS (i := 2) (some 24) #[false, false, true, false, false, false, false, false] (any_of HT_.out (by kernel_rfl)) ?_
   refine pS (i := 3) (some 25) #[false, false, true, true, false, false, false, false] (any_of HT_.out (by kernel_rfl)) ?_
   refine tS (i := 0) (some 22) #[true, false, true, true, false, false, false, false] (take_ofW HT_.out HW_.out (by kernel_rfl)) hHeld ?_
   refine tS (i := 1) (some 23) #[true, true, true, true, false, false, false, false] (take_ofW HT_.out HW_.out (by kernel_rfl)) hHeld ?_
   refine one_ (i := 4) (N := some 26) #[true, true, true, true, true, false, false, false] rfl rfl (one_of HT_.out (by kernel_rfl)) (by decide) (fun K hK => ?_)
   refine goes_ Try.func151 (by kernel_rfl) rfl #[.slice A2 l2.length c2, .int .i64 a3] (by rfl) rfl rfl (by (try simp only [List.map_toArray, List.map_cons, List.map_nil]); first | done | rfl | (simp only [List.length_drop, List.length_take]; rfl)) ?_
   with_reducible refine (impl_height.calls k _ _ l2 a3 t287 _ ?side1 ?side2 A9.out).mono ?_
   (case side1 => repeat (first | exact (Kd.C_below HR2.out HB.out) | (with_reducible refine Kd.C_alloc ?_ _) | (with_reducible refine Kd.C_drewN ?_ _) | (with_reducible refine Kd.C_drew ?_)))
   (case side2 => exact HC2.out)
   rintro e w22 ⟨rfl, hb⟩
   refine ⟨_, rfl, ?_⟩
   have n0_ := am (Kd.R_below (kr HO285) hb)
   have n1_ := bB BK280 hb
   have n2_ := bB BK281 hb
   have n3_ := am (below_step (be HB) hb)
   clear HO285
   clear BK280
   clear BK281
   clear HB
   have HO285 := n0_
   have BK280 := n1_
   have BK281 := n2_
   have HB := n3_
   clear n0_ n1_ n2_ n3_
   (try clear hb)
   (try clear hb2)
   (try clear hk)
   (try clear hi)
   refine hK.out _ _ ⟨(blk_cell BK280.out 0).trans rfl, (blk_cell BK280.out 1).trans rfl, at_cells BK280.out, BayAt28_of BK280.out, lvv_of BK280.out, (blk_cell BK281.out 0).trans rfl, (blk_cell BK281.out 1).trans rfl, (blk_cell BK281.out 2).trans rfl, (blk_cell BK281.out 3).trans rfl, (blk_cell BK281.out 4).trans rfl, (blk_cell BK281.out 5).trans rfl⟩ (fun hHeld => ?_)
   clear hK K
   refine norm_ (a' := ?_) ?_ ?_
   rotate_left
   ·show Act.put _ (some 26) _ = _
    simp only [Act.put, List.setIfInBounds_toArray, List.set_cons_zero, List.set_cons_succ, i64_w, i32_w]
    rfl
   refine one_ (i := 5) (N := some 27) #[true, true, true, true, true, true, false, false] rfl rfl (one_of HT_.out (by kernel_rfl)) (by decide) (fun K hK => ?_)
   refine goes_ Try.func150 (by kernel_rfl) rfl #[.agg (csBay a0_0 a0_1 a0_2), .agg #[.int .i8 a1_0, .int .i8 a1_1, .int .i8 a1_2, .int .i8 a1_3, .int .i8 a1_4, .int .i8 a1_5], .int .i64 t287] (by rfl) rfl rfl (by (try simp only [List.map_toArray, List.map_cons, List.map_nil]); first | done | rfl | (simp only [List.length_drop, List.length_take]; rfl)) ?_
   with_reducible refine (impl_afloat.calls a0_0 a0_1 a0_2 a1_0 a1_1 a1_2 a1_3 a1_4 a1_5 t287 t288 _ A10.out).mono ?_
   rintro e w23 ⟨rfl, hb⟩
   refine ⟨_, rfl, ?_⟩
   have n0_ := am (Kd.R_below (kr HO285) hb)
   have n1_ := bB BK280 hb
   have n2_ := bB BK281 hb
   have n3_ := am (below_step (be HB) hb)
   clear HO285
   clear BK280
   clear BK281
   clear HB
   have HO285 := n0_
   have BK280 := n1_
   have BK281 := n2_
   have HB := n3_
   clear n0_ n1_ n2_ n3_
   (try clear hb)
   (try clear hb2)
   (try clear hk)
   (try clear hi)
   refine hK.out _ _ ⟨(blk_cell BK280.out 0).trans rfl, (blk_cell BK280.out 1).trans rfl, at_cells BK280.out, BayAt28_of BK280.out, lvv_of BK280.out, (blk_cell BK281.out 0).trans rfl, (blk_cell BK281.out 1).trans rfl, (blk_cell BK281.out 2).trans rfl, (blk_cell BK281.out 3).trans rfl, (blk_cell BK281.out 4).trans rfl, (blk_cell BK281.out 5).trans rfl⟩ (fun hHeld => ?_)
   clear hK K
   refine norm_ (a' := ?_) ?_ ?_
   rotate_left
   ·show Act.put _ (some 27) _ = _
    simp only [Act.put, List.setIfInBounds_toArray, List.set_cons_zero, List.set_cons_succ, i64_w, i32_w]
    rfl
   refine pS (i := 6) (some 8) #[true, true, true, true, true, true, true, false] (any_of HT_.out (by kernel_rfl)) ?_
   refine pS (i := 7) (some 9) #[true, true, true, true, true, true, true, true] (any_of HT_.out (by kernel_rfl)) ?_
   refine done_ (done_of HT_.out (by kernel_rfl)) ?_
   try go_wp2
   go_ret2
   exact ⟨by first | rfl | (simp [errW_none, errW_some] <;> rfl) | (simp [*, errW_none, errW_some] <;> rfl), be HB⟩
  ·rw [if_neg c8] at H
   have c8b0 : (t286 == 0) = false := beq_eq_false_iff_ne.mpr c8
   have c8b1 : (t286 != 0) = true := bne_iff_ne.mpr c8
   simp only [Option.some.injEq, Prod.mk.injEq] at H
   obtain ⟨rfl, rfl⟩ := H
   go_enter Try.func88, Try.ntmps88
   go_wp2_with (first | ((with_reducible refine gate_dst (N := 4) rfl ?_); refine bxe (N := 4) (cs := (csBay a0_0 a0_1 a0_2)) (t := 28) ?_; intro gb280 hg w24 hbox hb; have BK280 := am (hbox); have GW280 := am (gN hg (below_size (be HB))); have GE280 := am (gN hg (below_size (be HB))); replace HB := am (below_step (be HB) hb); clear hb hbox hg) | ((with_reducible refine gate_dst (N := 5) rfl ?_); refine bxe (N := 5) (cs := #[.int .i8 a1_0, .int .i8 a1_1, .int .i8 a1_2, .int .i8 a1_3, .int .i8 a1_4, .int .i8 a1_5]) (t := 38) ?_; intro gb281 hg w25 hbox hb; have BK281 := am (hbox); have GW281 := am (gN hg (below_size (be HB))); have GE281 := am (gN hg (below_size (be HB))); have NB280_281 := nL BK280 hg; have NB281_280 := nR BK280 hg; replace BK280 := bB BK280 hb; replace HB := am (below_step (be HB) hb); clear hb hbox hg; have hnb26 := NB280_281.out; have hnc26 := NB281_280.out; have hcz27_0 : w25.cell? ⟨gb280, 0, none⟩ = some (.int .i8 a0_0) := (blk_cell BK280.out 0).trans rfl; have hcz27_1 : w25.cell? ⟨gb280, 1, none⟩ = some (.int .i8 a0_1) := (blk_cell BK280.out 1).trans rfl; have hwz27 := lv28_at BK280.out; have haz27 := at_cells BK280.out; have hyz27 := BayAt28_of BK280.out; have hvz27 := lvv_of BK280.out; have hfz27_0 := blk_frozen BK280.out 0; have hfz27_1 := blk_frozen BK280.out 1; have hfz27_2 := blk_frozen BK280.out 2; obtain ⟨hcz28_0, hcz28_1, hcz28_2, hcz28_3, hcz28_4, hcz28_5, hfz28_0, hfz28_1, hfz28_2, hfz28_3, hfz28_4, hfz28_5⟩ := bx6 BK281) | ((with_reducible refine gate_callee (f := 30) rfl ?_); refine gL (some 13) Try.func30 #[.agg (csBay a0_0 a0_1 a0_2), .agg #[.int .i8 a1_0, .int .i8 a1_1, .int .i8 a1_2, .int .i8 a1_3, .int .i8 a1_4, .int .i8 a1_5]] ?_; (with_reducible refine (impl_ValidBoat.calls a0_0 a0_1 a0_2 a1_0 a1_1 a1_2 a1_3 a1_4 a1_5 true _ A5.out).mono ?_); rintro e w29 ⟨rfl, hb⟩; refine ⟨_, rfl, ?_⟩; replace BK280 := bB BK280 hb; replace BK281 := bB BK281 hb; replace HB := am (below_step (be HB) hb); (try clear hb); (try clear hb2); (try clear hk); (try clear hi)) | ((with_reducible refine gate_dst (N := 17) rfl ?_); refine Kd.R_lit (Kd.int .i64) _ 2 ?hg (N := 17) ?hd (xs := ([a3] : List Int)) (inner := [.int .i64 a3]) (ok := fun _ => True) (okp := fun _ => True) ?hr ?hp (fun _ hk => hk) trivial (Below.refl _ _) (Nat.le_refl _) (by simp) ?_; (case hd => rfl); (case hg => rfl); (case hr => first | (go_simp; done) | (go_simp; rfl)); (case hp => exact (Reps.one (show Kd.M (Kd.int .i64) _ _ _ a3 [.int .i64 a3] from rfl) (Reps.none _ _))); intro v284 w30 ho31 hb hg_ hnew_; clear hg_ hnew_; (first | rw [← Ny283.out] at ho31 | (simp only [Int.reduceToNat] at ho31; rw [← Ny283.out] at ho31)); have HO285 := am (Kd.R_lower ho31 (below_size (be HB))); replace BK280 := bB BK280 hb; replace BK281 := bB BK281 hb; replace HB := am (below_step (be HB) hb); clear hb ho31; obtain ⟨Ao32, co32, eo32⟩ := Kd.R_slice HO285.out; subst eo32) | ((with_reducible refine gate_callee (f := 154) rfl ?_); refine gL (some 18) Try.func154 #[.slice A2 l2.length c2, .slice Ao32 y283.length co32, .slice none 0 0] ?_; (refine (impl_tidesCode.calls k _ _ l2 _ _ y283 _ _ ([] : List Int) t286 _ ?side1 ?side2 ?side3 ?side4 ?side5 ?side6 A7.out).mono ?_); (case side1 => repeat (first | exact (Kd.C_below HR2.out HB.out) | (with_reducible refine Kd.C_alloc ?_ _) | (with_reducible refine Kd.C_drewN ?_ _) | (with_reducible refine Kd.C_drew ?_))); (case side2 => exact HC2.out); (case side3 => repeat (first | exact (Kd.R_reads' HO285.out).2.2 | (with_reducible refine Kd.C_alloc ?_ _) | (with_reducible refine Kd.C_drewN ?_ _) | (with_reducible refine Kd.C_drew ?_))); (case side4 => exact (Kd.R_reads' HO285.out).2.1); (case side5 => exact Kd.C_nil _ _); (case side6 => exact Nat.le_refl _); rintro e w33 ⟨rfl, hb⟩; refine ⟨_, rfl, ?_⟩; replace HO285 := am (Kd.R_below (kr HO285) hb); replace BK280 := bB BK280 hb; replace BK281 := bB BK281 hb; replace HB := am (below_step (be HB) hb); (try clear hb); (try clear hb2); (try clear hk); (try clear hi)))
   go_ret2
   exact ⟨by first | rfl | (simp [errW_none, errW_some] <;> rfl) | (simp [*, errW_none, errW_some] <;> rfl), be HB⟩
 ·replace c6 := Bool.eq_false_iff.mpr c6
  subst c6
  have H1 : (some (false, 1)) = some (r1, r2) := by rw [if_neg (show ¬ (false = true) by decide)] at H; exact H
  clear H
  have H := H1
  clear H1
  simp only [Option.some.injEq, Prod.mk.injEq] at H
  obtain ⟨rfl, rfl⟩ := H
  go_enter Try.func88, Try.ntmps88
  go_wp2_with (first | ((with_reducible refine gate_dst (N := 4) rfl ?_); refine bxe (N := 4) (cs := (csBay a0_0 a0_1 a0_2)) (t := 28) ?_; intro gb280 hg w34 hbox hb; have BK280 := am (hbox); have GW280 := am (gN hg (below_size (be HB))); have GE280 := am (gN hg (below_size (be HB))); replace HB := am (below_step (be HB) hb); clear hb hbox hg) | ((with_reducible refine gate_dst (N := 5) rfl ?_); refine bxe (N := 5) (cs := #[.int .i8 a1_0, .int .i8 a1_1, .int .i8 a1_2, .int .i8 a1_3, .int .i8 a1_4, .int .i8 a1_5]) (t := 38) ?_; intro gb281 hg w35 hbox hb; have BK281 := am (hbox); have GW281 := am (gN hg (below_size (be HB))); have GE281 := am (gN hg (below_size (be HB))); have NB280_281 := nL BK280 hg; have NB281_280 := nR BK280 hg; replace BK280 := bB BK280 hb; replace HB := am (below_step (be HB) hb); clear hb hbox hg; have hnb36 := NB280_281.out; have hnc36 := NB281_280.out; have hcz37_0 : w35.cell? ⟨gb280, 0, none⟩ = some (.int .i8 a0_0) := (blk_cell BK280.out 0).trans rfl; have hcz37_1 : w35.cell? ⟨gb280, 1, none⟩ = some (.int .i8 a0_1) := (blk_cell BK280.out 1).trans rfl; have hwz37 := lv28_at BK280.out; have haz37 := at_cells BK280.out; have hyz37 := BayAt28_of BK280.out; have hvz37 := lvv_of BK280.out; have hfz37_0 := blk_frozen BK280.out 0; have hfz37_1 := blk_frozen BK280.out 1; have hfz37_2 := blk_frozen BK280.out 2; obtain ⟨hcz38_0, hcz38_1, hcz38_2, hcz38_3, hcz38_4, hcz38_5, hfz38_0, hfz38_1, hfz38_2, hfz38_3, hfz38_4, hfz38_5⟩ := bx6 BK281) | ((with_reducible refine gate_callee (f := 30) rfl ?_); refine gL (some 13) Try.func30 #[.agg (csBay a0_0 a0_1 a0_2), .agg #[.int .i8 a1_0, .int .i8 a1_1, .int .i8 a1_2, .int .i8 a1_3, .int .i8 a1_4, .int .i8 a1_5]] ?_; (with_reducible refine (impl_ValidBoat.calls a0_0 a0_1 a0_2 a1_0 a1_1 a1_2 a1_3 a1_4 a1_5 false _ A5.out).mono ?_); rintro e w39 ⟨rfl, hb⟩; refine ⟨_, rfl, ?_⟩; replace BK280 := bB BK280 hb; replace BK281 := bB BK281 hb; replace HB := am (below_step (be HB) hb); (try clear hb); (try clear hb2); (try clear hk); (try clear hi)))
  go_ret2
  exact ⟨by first | rfl | (simp [errW_none, errW_some] <;> rfl) | (simp [*, errW_none, errW_some] <;> rfl), be HB⟩

/-! ### laws_FnExactIsAfloat: function 21 -/
def laws_FnExactIsAfloat.j0 : Nat → List (S145) → List (S103) → Bool → Option (Bool)
 | 0, _, _, _ => none
 | k + 1, x2, x12, x50 => if x50 = true then (some false) else ((laws_toWaterS.f k x2).bind fun t320 => ((laws_eqWaterS.f k x12 t320).bind fun t323 => (if t323 = true then (some true) else (some false))))
def laws_FnExactIsAfloat.f (k : Nat) (a0_0 : Int) (a0_1 : Int) (a0_2 : (Nat → Int)) (a1_0 : Int) (a1_1 : Int) (a1_2 : Int) (a1_3 : Int) (a1_4 : Int) (a1_5 : Int) (l2 : List (S145)) (a3 : Int) : Option (Bool) := (laws_szWaterS.f l2 1048576).bind fun t291 => (if t291 < 0 then (some true) else ((laws_toBay.f a0_0 a0_1 a0_2).bind fun bt292 => ((laws_toBoat.f a1_0 a1_1 a1_2 a1_3 a1_4 a1_5).bind fun bt295 => ((laws_toWaterS.f k l2).bind fun t301 => ((spec_IsAfloat.f k bt292.1 bt292.2.1 bt292.2.2 bt295.1 bt295.2.1 bt295.2.2.1 bt295.2.2.2.1 bt295.2.2.2.2.1 bt295.2.2.2.2.2 t301 a3).bind fun bt304 => ((laws_toWaterS.f k l2).bind fun t306 => ((laws_toBay.f a0_0 a0_1 a0_2).bind fun bt309 => ((laws_toBoat.f a1_0 a1_1 a1_2 a1_3 a1_4 a1_5).bind fun bt312 => ((impl_IsAfloat.f k bt309.1 bt309.2.1 bt309.2.2 bt312.1 bt312.2.1 bt312.2.2.1 bt312.2.2.2.1 bt312.2.2.2.2.1 bt312.2.2.2.2.2 t306 a3).bind fun bt318 => (if (bt318.1 != bt304.1) = true then (laws_FnExactIsAfloat.j0 k l2 t306 true) else (laws_FnExactIsAfloat.j0 k l2 t306 (bt318.2 != bt304.2))))))))))))
def laws_FnExactIsAfloat.T5 : Bool × List (List Nat × List Nat) := (true, [([], []), ([0], [0]), ([], []), ([2, 1], [2]), ([], []), ([4, 3], [4]), ([], []), ([1, 3, 5, 6, 5], [1, 3, 5, 6]), ([7], [7]), ([8], [8]), ([8], [8]), ([9, 7, 0, 1, 2, 3, 4, 5, 6, 7, 8, 9], [9]), ([10, 11, 0, 1, 2, 3, 4, 5, 6, 7, 8, 9, 10, 11], [10])])
def laws_FnExactIsAfloat.B5 : List Nat := [0, 1, 0, 7, 0, 31, 0, 127, 255, 511, 511, 1023, 4095]
theorem laws_FnExactIsAfloat.tab5 : rtab .any (opsOf Try.f21 5) = laws_FnExactIsAfloat.T5 := by kernel_rfl
theorem laws_FnExactIsAfloat.bits5 : waitsOk laws_FnExactIsAfloat.T5.2 laws_FnExactIsAfloat.B5 = true := by kernel_rfl
def laws_FnExactIsAfloat.T7 : Bool × List (List Nat × List Nat) := (true, [([], []), ([0], [0]), ([], []), ([2, 1], [2]), ([], []), ([], []), ([1, 3, 4, 5, 3], [1, 3, 4, 5]), ([6], [6]), ([7], [7]), ([7], [7]), ([8, 6, 0, 1, 2, 3, 4, 5, 6, 7, 8], [8]), ([9, 10, 0, 1, 2, 3, 4, 5, 6, 7, 8, 9, 10], [9])])
def laws_FnExactIsAfloat.B7 : List Nat := [0, 1, 0, 7, 0, 0, 63, 127, 255, 255, 511, 2047]
theorem laws_FnExactIsAfloat.tab7 : rtab .any (opsOf Try.f21 7) = laws_FnExactIsAfloat.T7 := by kernel_rfl
theorem laws_FnExactIsAfloat.bits7 : waitsOk laws_FnExactIsAfloat.T7.2 laws_FnExactIsAfloat.B7 = true := by kernel_rfl
set_option maxHeartbeats 8000000 in
set_option maxRecDepth 100000 in
theorem laws_FnExactIsAfloat.calls (k : Nat) (a0_0 : Int) (a0_1 : Int) (a0_2 : (Nat → Int)) (a1_0 : Int) (a1_1 : Int) (a1_2 : Int) (a1_3 : Int) (a1_4 : Int) (a1_5 : Int) (A2 : Option Addr) (c2 : Nat) (l2 : List (S145)) (a3 : Int) (r : Bool) (w : World) (hr2 : Kd.C k145 w A2 l2.length l2) (hc2 : l2.length ≤ c2) (h : laws_FnExactIsAfloat.f k a0_0 a0_1 a0_2 a1_0 a1_1 a1_2 a1_3 a1_4 a1_5 l2 a3 = some r) :
  Calls Try.prog 21 #[.agg (csBay a0_0 a0_1 a0_2), .agg #[.int .i8 a1_0, .int .i8 a1_1, .int .i8 a1_2, .int .i8 a1_3, .int .i8 a1_4, .int .i8 a1_5], .slice A2 l2.length c2, .int .i64 a3] w fun e w' => e = .returned (.bool r) ∧ Below w.heap.size w w' := by
 have hu26 := Try.underlying26
 have hu34 := Try.underlying34
 have HR2 := am hr2
 have HC2 := am hc2
 clear hr2 hc2
 have HB := am (Below.refl w.heap.size w)
 have H : ((laws_szWaterS.f l2 1048576).bind fun t291 => (if t291 < 0 then (some true) else ((laws_toBay.f a0_0 a0_1 a0_2).bind fun bt292 => ((laws_toBoat.f a1_0 a1_1 a1_2 a1_3 a1_4 a1_5).bind fun bt295 => ((laws_toWaterS.f k l2).bind fun t301 => ((spec_IsAfloat.f k bt292.1 bt292.2.1 bt292.2.2 bt295.1 bt295.2.1 bt295.2.2.1 bt295.2.2.2.1 bt295.2.2.2.2.1 bt295.2.2.2.2.2 t301 a3).bind fun bt304 => ((laws_toWaterS.f k l2).bind fun t306 => ((laws_toBay.f a0_0 a0_1 a0_2).bind fun bt309 => ((laws_toBoat.f a1_0 a1_1 a1_2 a1_3 a1_4 a1_5).bind fun bt312 => ((impl_IsAfloat.f k bt309.1 bt309.2.1 bt309.2.2 bt312.1 bt312.2.1 bt312.2.2.1 bt312.2.2.2.1 bt312.2.2.2.2.1 bt312.2.2.2.2.2 t306 a3).bind fun bt318 => (if (bt318.1 != bt304.1) = true then (laws_FnExactIsAfloat.j0 k l2 t306 true) else (laws_FnExactIsAfloat.j0 k l2 t306 (bt318.2 != bt304.2))))))))))))) = some r := h
 clear h
 replace H := Option.bind_eq_some_iff.mp H
 obtain ⟨t291, A50, H⟩ := H
 try dsimp only at H
 have A5 := am A50
 clear A50
 by_cases c6 : t291 < 0
 ·rw [if_pos c6] at H
  have c6b0 : decide (t291 < 0) = true := decide_eq_true c6
  clear c6
  obtain rfl := Option.some.inj H
  go_enter Try.func21, Try.ntmps21
  go_wp2_with (first | ((with_reducible refine gate_dst (N := 4) rfl ?_); refine bxe (N := 4) (cs := (csBay a0_0 a0_1 a0_2)) (t := 26) ?_; intro gb289 hg w7 hbox hb; have BK289 := am (hbox); have GW289 := am (gN hg (below_size (be HB))); have GE289 := am (gN hg (below_size (be HB))); replace HB := am (below_step (be HB) hb); clear hb hbox hg) | ((with_reducible refine gate_dst (N := 5) rfl ?_); refine bxe (N := 5) (cs := #[.int .i8 a1_0, .int .i8 a1_1, .int .i8 a1_2, .int .i8 a1_3, .int .i8 a1_4, .int .i8 a1_5]) (t := 34) ?_; intro gb290 hg w8 hbox hb; have BK290 := am (hbox); have GW290 := am (gN hg (below_size (be HB))); have GE290 := am (gN hg (below_size (be HB))); have NB289_290 := nL BK289 hg; have NB290_289 := nR BK289 hg; replace BK289 := bB BK289 hb; replace HB := am (below_step (be HB) hb); clear hb hbox hg) | ((with_reducible refine gate_callee (f := 82) rfl ?_); refine gL (some 17) Try.func82 #[.slice A2 l2.length c2, .int .i64 1048576] ?_; (with_reducible refine (laws_szWaterS.calls _ _ l2 1048576 t291 _ ?side1 ?side2 A5.out).mono ?_); (case side1 => repeat (first | exact (Kd.C_below HR2.out HB.out) | (with_reducible refine Kd.C_alloc ?_ _) | (with_reducible refine Kd.C_drewN ?_ _) | (with_reducible refine Kd.C_drew ?_))); (case side2 => exact HC2.out); rintro e w' ⟨rfl, ⟨nd, rfl⟩⟩; refine ⟨_, rfl, ?_⟩))
  go_ret
  exact ⟨by first | rfl | (simp [errW_none, errW_some] <;> rfl) | (simp [*, errW_none, errW_some] <;> rfl), be HB⟩
 ·rw [if_neg c6] at H
  have c6b0 : decide (t291 < 0) = false := decide_eq_false c6
  clear c6
  replace H := Option.bind_eq_some_iff.mp H
  obtain ⟨⟨t292, t293, t294⟩, A90, H⟩ := H
  try dsimp only at H
  have A9 := am A90
  clear A90
  replace H := Option.bind_eq_some_iff.mp H
  obtain ⟨⟨t295, t296, t297, t298, t299, t300⟩, A100, H⟩ := H
  try dsimp only at H
  have A10 := am A100
  clear A100
  replace H := Option.bind_eq_some_iff.mp H
  obtain ⟨t301, A110, H⟩ := H
  try dsimp only at H
  have A11 := am A110
  clear A110
  replace H := Option.bind_eq_some_iff.mp H
  obtain ⟨⟨t304, t305⟩, A120, H⟩ := H
  try dsimp only at H
  have A12 := am A120
  clear A120
  replace H := Option.bind_eq_some_iff.mp H
  obtain ⟨t306, A130, H⟩ := H
  try dsimp only at H
  have A13 := am A130
  clear A130
  replace H := Option.bind_eq_some_iff.mp H
  obtain ⟨⟨t309, t310, t311⟩, A140, H⟩ := H
  try dsimp only at H
  have A14 := am A140
  clear A140
  replace H := Option.bind_eq_some_iff.mp H
  obtain ⟨⟨t312, t313, t314, t315, t316, t317⟩, A150, H⟩ := H
  try dsimp only at H
  have A15 := am A150
  clear A150
  replace H := Option.bind_eq_some_iff.mp H
  obtain ⟨⟨t318, t319⟩, A160, H⟩ := H
  try dsimp only at H
  have A16 := am A160
  clear A160
  have HC17 := am H
  clear H
  go_enter Try.func21, Try.ntmps21
  try go_wp2_with (first | ((with_reducible refine gate_dst (N := 4) rfl ?_); refine bxe (N := 4) (cs := (csBay a0_0 a0_1 a0_2)) (t := 26) ?_; intro gb289 hg w18 hbox hb; have BK289 := am (hbox); have GW289 := am (gN hg (below_size (be HB))); have GE289 := am (gN hg (below_size (be HB))); replace HB := am (below_step (be HB) hb); clear hb hbox hg) | ((with_reducible refine gate_dst (N := 5) rfl ?_); refine bxe (N := 5) (cs := #[.int .i8 a1_0, .int .i8 a1_1, .int .i8 a1_2, .int .i8 a1_3, .int .i8 a1_4, .int .i8 a1_5]) (t := 34) ?_; intro gb290 hg w19 hbox hb; have BK290 := am (hbox); have GW290 := am (gN hg (below_size (be HB))); have GE290 := am (gN hg (below_size (be HB))); have NB289_290 := nL BK289 hg; have NB290_289 := nR BK289 hg; replace BK289 := bB BK289 hb; replace HB := am (below_step (be HB) hb); clear hb hbox hg) | ((with_reducible refine gate_callee (f := 82) rfl ?_); refine gL (some 17) Try.func82 #[.slice A2 l2.length c2, .int .i64 1048576] ?_; (with_reducible refine (laws_szWaterS.calls _ _ l2 1048576 t291 _ ?side1 ?side2 A5.out).mono ?_); (case side1 => repeat (first | exact (Kd.C_below HR2.out HB.out) | (with_reducible refine Kd.C_alloc ?_ _) | (with_reducible refine Kd.C_drewN ?_ _) | (with_reducible refine Kd.C_drew ?_))); (case side2 => exact HC2.out); rintro e w' ⟨rfl, ⟨nd, rfl⟩⟩; refine ⟨_, rfl, ?_⟩))
  (try (rw [drewN_self w19]; generalize hq_ : World.drewN w19 _ = w19; have n0_ : Aside0 (w19.heap[gb289]? = some (.cells (csBay a0_0 a0_1 a0_2) 26 (0, 0))) := ⟨by rw [← hq_]; exact (kb BK289)⟩; have n1_ : Aside0 (w19.heap[gb290]? = some (.cells #[.int .i8 a1_0, .int .i8 a1_1, .int .i8 a1_2, .int .i8 a1_3, .int .i8 a1_4, .int .i8 a1_5] 34 (0, 0))) := ⟨by rw [← hq_]; exact (kb BK290)⟩; have n2_ : Aside0 (Below w.heap.size w w19) := ⟨by rw [← hq_]; exact (be HB)⟩; clear BK289 BK290 HB hq_; have BK289 := n0_; have BK290 := n1_; have HB := n2_; clear n0_ n1_ n2_))
  have n0_ := am (blk_drew BK289.out)
  have n1_ := am (blk_drew BK290.out)
  have n2_ := am (below_drew1 HB.out)
  clear BK289
  clear BK290
  clear HB
  have BK289 := n0_
  have BK290 := n1_
  have HB := n2_
  clear n0_ n1_ n2_
  refine start_ (n := 13) (S := fun w' => w'.cell? ⟨gb289, 0, none⟩ = some (.int .i8 a0_0) ∧ w'.cell? ⟨gb289, 1, none⟩ = some (.int .i8 a0_1) ∧ atCells w' gb289 a0_2 ∧ BayAt26 w' gb289 ∧ lvv w' gb289 = .agg (csBay a0_0 a0_1 a0_2) ∧ w'.cell? ⟨gb290, 0, none⟩ = some (.int .i8 a1_0) ∧ w'.cell? ⟨gb290, 1, none⟩ = some (.int .i8 a1_1) ∧ w'.cell? ⟨gb290, 2, none⟩ = some (.int .i8 a1_2) ∧ w'.cell? ⟨gb290, 3, none⟩ = some (.int .i8 a1_3) ∧ w'.cell? ⟨gb290, 4, none⟩ = some (.int .i8 a1_4) ∧ w'.cell? ⟨gb290, 5, none⟩ = some (.int .i8 a1_5)) (ds := []) #[false, false, false, false, false, false, false, false, false, false, false, false, false] (by kernel_rfl) rfl rfl ⟨(blk_cell BK289.out 0).trans rfl, (blk_cell BK289.out 1).trans rfl, at_cells BK289.out, BayAt26_of BK289.out, lvv_of BK289.out, (blk_cell BK290.out 0).trans rfl, (blk_cell BK290.out 1).trans rfl, (blk_cell BK290.out 2).trans rfl, (blk_cell BK290.out 3).trans rfl, (blk_cell BK290.out 4).trans rfl, (blk_cell BK290.out 5).trans rfl⟩ (fun hHeld => ?_); refine with_tabW laws_FnExactIsAfloat.tab5 laws_FnExactIsAfloat.bits5 (fun HT_ HW_ => ?_)
  generalize w19.drew = w20 at BK289 BK290 HB hHeld ⊢
  refine pS (i := 4) (some 25) #[false, false, false, false, true, false, false, false, false, false, false, false, false] (any_of HT_.out (by kernel_rfl)) ?_
  refine pS (i := 6) (some 27) #[false, false, false, false, true, false, true, false, false, false, false, false, false] (any_of HT_.out (by kernel_rfl)) ?_
  refine tS (i := 0) (some 21) #[true, false, false, false, true, false, true, false, false, false, false, false, false] (take_ofW HT_.out HW_.out (by kernel_rfl)) hHeld ?_
  refine tS (i := 2) (some 23) #[true, false, true, false, true, false, true, false, false, false, false, false, false] (take_ofW HT_.out HW_.out (by kernel_rfl)) hHeld ?_
  refine one_ (i := 1) (N := some 22) #[true, true, true, false, true, false, true, false, false, false, false, false, false] rfl rfl (one_of HT_.out (by kernel_rfl)) (by decide) (fun K hK => ?_)
  refine goes_ Try.func26 (by kernel_rfl) rfl #[.agg (csBay a0_0 a0_1 a0_2)] (by rfl) rfl rfl (by (try simp only [List.map_toArray, List.map_cons, List.map_nil]); first | done | rfl | (simp only [List.length_drop, List.length_take]; rfl)) ?_
  with_reducible refine (laws_toBay.calls a0_0 a0_1 a0_2 t292 t293 t294 _ A9.out).mono ?_
  rintro e w21 ⟨rfl, hb⟩
  refine ⟨_, rfl, ?_⟩
  have n0_ := bB BK289 hb
  have n1_ := bB BK290 hb
  have n2_ := am (below_step (be HB) hb)
  clear BK289
  clear BK290
  clear HB
  have BK289 := n0_
  have BK290 := n1_
  have HB := n2_
  clear n0_ n1_ n2_
  (try clear hb)
  (try clear hb2)
  (try clear hk)
  (try clear hi)
  refine hK.out _ _ ⟨(blk_cell BK289.out 0).trans rfl, (blk_cell BK289.out 1).trans rfl, at_cells BK289.out, BayAt26_of BK289.out, lvv_of BK289.out, (blk_cell BK290.out 0).trans rfl, (blk_cell BK290.out 1).trans rfl, (blk_cell BK290.out 2).trans rfl, (blk_cell BK290.out 3).trans rfl, (blk_cell BK290.out 4).trans rfl, (blk_cell BK290.out 5).trans rfl⟩ (fun hHeld => ?_)
  clear hK K
  refine norm_ (a' := ?_) ?_ ?_
  rotate_left
  ·show Act.put _ (some 22) _ = _
   simp only [Act.put, List.setIfInBounds_toArray, List.set_cons_zero, List.set_cons_succ, i64_w, i32_w]
   rfl
  refine one_ (i := 3) (N := some 24) #[true, true, true, true, true, false, true, false, false, false, false, false, false] rfl rfl (one_of HT_.out (by kernel_rfl)) (by decide) (fun K hK => ?_)
  refine goes_ Try.func29 (by kernel_rfl) rfl #[.agg #[.int .i8 a1_0, .int .i8 a1_1, .int .i8 a1_2, .int .i8 a1_3, .int .i8 a1_4, .int .i8 a1_5]] (by rfl) rfl rfl (by (try simp only [List.map_toArray, List.map_cons, List.map_nil]); first | done | rfl | (simp only [List.length_drop, List.length_take]; rfl)) ?_
  with_reducible refine (laws_toBoat.calls a1_0 a1_1 a1_2 a1_3 a1_4 a1_5 t295 t296 t297 t298 t299 t300 _ A10.out).mono ?_
  rintro e w22 ⟨rfl, hb⟩
  refine ⟨_, rfl, ?_⟩
  have n0_ := bB BK289 hb
  have n1_ := bB BK290 hb
  have n2_ := am (below_step (be HB) hb)
  clear BK289
  clear BK290
  clear HB
  have BK289 := n0_
  have BK290 := n1_
  have HB := n2_
  clear n0_ n1_ n2_
  (try clear hb)
  (try clear hb2)
  (try clear hk)
  (try clear hi)
  refine hK.out _ _ ⟨(blk_cell BK289.out 0).trans rfl, (blk_cell BK289.out 1).trans rfl, at_cells BK289.out, BayAt26_of BK289.out, lvv_of BK289.out, (blk_cell BK290.out 0).trans rfl, (blk_cell BK290.out 1).trans rfl, (blk_cell BK290.out 2).trans rfl, (blk_cell BK290.out 3).trans rfl, (blk_cell BK290.out 4).trans rfl, (blk_cell BK290.out 5).trans rfl⟩ (fun hHeld => ?_)
  clear hK K
  refine norm_ (a' := ?_) ?_ ?_
  rotate_left
  ·show Act.put _ (some 24) _ = _
   simp only [Act.put, List.setIfInBounds_toArray, List.set_cons_zero, List.set_cons_succ, i64_w, i32_w]
   rfl
  refine one_ (i := 5) (N := some 26) #[true, true, true, true, true, true, true, false, false, false, false, false, false] rfl rfl (one_of HT_.out (by kernel_rfl)) (by decide) (fun K hK => ?_)
  refine goes_ Try.func84 (by kernel_rfl) rfl #[.slice A2 l2.length c2] (by rfl) rfl rfl (by (try simp only [List.map_toArray, List.map_cons, List.map_nil]); first | done | rfl | (simp only [List.length_drop, List.length_take]; rfl)) ?_
  with_reducible refine (laws_toWaterS.calls k _ _ l2 t301 _ ?side1 ?side2 A11.out).mono ?_
  (case side1 => repeat (first | exact (Kd.C_below HR2.out HB.out) | (with_reducible refine Kd.C_alloc ?_ _) | (with_reducible refine Kd.C_drewN ?_ _) | (with_reducible refine Kd.C_drew ?_)))
  (case side2 => exact HC2.out)
  rintro e w23 ⟨v302, rfl, ho0, hb⟩
  refine ⟨_, rfl, ?_⟩
  have n0_ := am (Kd.R_lower ho0 (below_size (be HB)))
  have n1_ := bB BK289 hb
  have n2_ := bB BK290 hb
  have n3_ := am (below_step (be HB) hb)
  clear BK289
  clear BK290
  clear HB
  have HO303 := n0_
  have BK289 := n1_
  have BK290 := n2_
  have HB := n3_
  clear n0_ n1_ n2_ n3_
  (try clear hb)
  (try clear hb2)
  (try clear hk)
  (try clear hi)
  (try clear ho0)
  obtain ⟨Ao24, co24, eo24⟩ := Kd.R_slice HO303.out
  (first | subst eo24 | (injection eo24 with f1_ f2_ f3_; have f4_ := f1_.symm; have f5_ := f3_.symm; clear f1_ f2_ f3_; subst f4_; subst f5_))
  refine hK.out _ _ ⟨(blk_cell BK289.out 0).trans rfl, (blk_cell BK289.out 1).trans rfl, at_cells BK289.out, BayAt26_of BK289.out, lvv_of BK289.out, (blk_cell BK290.out 0).trans rfl, (blk_cell BK290.out 1).trans rfl, (blk_cell BK290.out 2).trans rfl, (blk_cell BK290.out 3).trans rfl, (blk_cell BK290.out 4).trans rfl, (blk_cell BK290.out 5).trans rfl⟩ (fun hHeld => ?_)
  clear hK K
  refine norm_ (a' := ?_) ?_ ?_
  rotate_left
  ·show Act.put _ (some 26) _ = _
   simp only [Act.put, List.setIfInBounds_toArray, List.set_cons_zero, List.set_cons_succ, i64_w, i32_w]
   rfl
  refine one_ (i := 7) (N := some 28) #[true, true, true, true, true, true, true, true, false, false, false, false, false] rfl rfl (one_of HT_.out (by kernel_rfl)) (by decide) (fun K hK => ?_)
  refine goes_ Try.func87 (by kernel_rfl) rfl #[.agg (csBay t292 t293 t294), .agg #[.int .i8 t295, .int .i8 t296, .int .i8 t297, .int .i8 t298, .int .i8 t299, .int .i8 t300], .slice Ao24 t301.length co24, .int .i64 a3] (by rfl) rfl rfl (by (try simp only [List.map_toArray, List.map_cons, List.map_nil]); first | done | rfl | (simp only [List.length_drop, List.length_take]; rfl)) ?_
  with_reducible refine (spec_IsAfloat.calls k t292 t293 t294 t295 t296 t297 t298 t299 t300 _ _ t301 a3 t304 t305 _ ?side1 ?side2 A12.out).mono ?_
  (case side1 => repeat (first | exact (Kd.R_reads' HO303.out).2.2 | (with_reducible refine Kd.C_alloc ?_ _) | (with_reducible refine Kd.C_drewN ?_ _) | (with_reducible refine Kd.C_drew ?_)))
  (case side2 => exact (Kd.R_reads' HO303.out).2.1)
  rintro e w25 ⟨rfl, hb⟩
  refine ⟨_, rfl, ?_⟩
  have n0_ := am (Kd.R_below (kr HO303) hb)
  have n1_ := bB BK289 hb
  have n2_ := bB BK290 hb
  have n3_ := am (below_step (be HB) hb)
  clear HO303
  clear BK289
  clear BK290
  clear HB
  have HO303 := n0_
  have BK289 := n1_
  have BK290 := n2_
  have HB := n3_
  clear n0_ n1_ n2_ n3_
  (try clear hb)
  (try clear hb2)
  (try clear hk)
  (try clear hi)
  refine hK.out _ _ ⟨(blk_cell BK289.out 0).trans rfl, (blk_cell BK289.out 1).trans rfl, at_cells BK289.out, BayAt26_of BK289.out, lvv_of BK289.out, (blk_cell BK290.out 0).trans rfl, (blk_cell BK290.out 1).trans rfl, (blk_cell BK290.out 2).trans rfl, (blk_cell BK290.out 3).trans rfl, (blk_cell BK290.out 4).trans rfl, (blk_cell BK290.out 5).trans rfl⟩ (fun hHeld => ?_)
  clear hK K
  refine norm_ (a' := ?_) ?_ ?_
  rotate_left
  ·show Act.put _ (some 28) _ = _
   simp only [Act.put, List.setIfInBounds_toArray, List.set_cons_zero, List.set_cons_succ, i64_w, i32_w]
   rfl
  refine pS (i := 8) (some 20) #[true, true, true, true, true, true, true, true, true, false, false, false, false] (any_of HT_.out (by kernel_rfl)) ?_
  refine pS (i := 9) (some 29) #[true, true, true, true, true, true, true, true, true, true, false, false, false] (any_of HT_.out (by kernel_rfl)) ?_
  refine pS (i := 10) (some 30) #[true, true, true, true, true, true, true, true, true, true, true, false, false] (any_of HT_.out (by kernel_rfl)) ?_
  refine pS (i := 11) (some 10) #[true, true, true, true, true, true, true, true, true, true, true, true, false] (any_of HT_.out (by kernel_rfl)) ?_
  refine pS (i := 12) (some 11) #[true, true, true, true, true, true, true, true, true, true, true, true, true] (any_of HT_.out (by kernel_rfl)) ?_
  refine done_ (done_of HT_.out (by kernel_rfl)) ?_
  try go_wp2_with (first | ((with_reducible refine gate_callee (f := 84) rfl ?_); refine gL (some 32) Try.func84 #[.slice A2 l2.length c2] ?_; (with_reducible refine (laws_toWaterS.calls k _ _ l2 t306 _ ?side1 ?side2 A13.out).mono ?_); (case side1 => repeat (first | exact (Kd.C_below HR2.out HB.out) | (with_reducible refine Kd.C_alloc ?_ _) | (with_reducible refine Kd.C_drewN ?_ _) | (with_reducible refine Kd.C_drew ?_))); (case side2 => exact HC2.out); rintro e w26 ⟨v307, rfl, ho0, hb⟩; refine ⟨_, rfl, ?_⟩; have HO308 := am (Kd.R_lower (Kd.R_new' ho0 (Kd.R_lt (kr HO303))) (below_size (be HB))); replace HO303 := am (Kd.R_elder' (kr HO303) (Kd.R_base ho0) hb); replace BK289 := bB BK289 hb; replace BK290 := bB BK290 hb; replace HB := am (below_step (be HB) hb); (try clear hb); (try clear hb2); (try clear hk); (try clear hi); (try clear ho0)))
  have n0_ := am (Kd.R_drew HO303.out)
  have n1_ := am (Kd.R_drew HO308.out)
  have n2_ := am (blk_drew BK289.out)
  have n3_ := am (blk_drew BK290.out)
  have n4_ := am (below_drew1 HB.out)
  clear HO303
  clear HO308
  clear BK289
  clear BK290
  clear HB
  have HO303 := n0_
  have HO308 := n1_
  have BK289 := n2_
  have BK290 := n3_
  have HB := n4_
  clear n0_ n1_ n2_ n3_ n4_
  refine start_ (n := 12) (S := fun w' => w'.cell? ⟨gb289, 0, none⟩ = some (.int .i8 a0_0) ∧ w'.cell? ⟨gb289, 1, none⟩ = some (.int .i8 a0_1) ∧ atCells w' gb289 a0_2 ∧ BayAt26 w' gb289 ∧ lvv w' gb289 = .agg (csBay a0_0 a0_1 a0_2) ∧ w'.cell? ⟨gb290, 0, none⟩ = some (.int .i8 a1_0) ∧ w'.cell? ⟨gb290, 1, none⟩ = some (.int .i8 a1_1) ∧ w'.cell? ⟨gb290, 2, none⟩ = some (.int .i8 a1_2) ∧ w'.cell? ⟨gb290, 3, none⟩ = some (.int .i8 a1_3) ∧ w'.cell? ⟨gb290, 4, none⟩ = some (.int .i8 a1_4) ∧ w'.cell? ⟨gb290, 5, none⟩ = some (.int .i8 a1_5)) (ds := []) #[false, false, false, false, false, false, false, false, false, false, false, false] (by kernel_rfl) rfl rfl ⟨(blk_cell BK289.out 0).trans rfl, (blk_cell BK289.out 1).trans rfl, at_cells BK289.out, BayAt26_of BK289.out, lvv_of BK289.out, (blk_cell BK290.out 0).trans rfl, (blk_cell BK290.out 1).trans rfl, (blk_cell BK290.out 2).trans rfl, (blk_cell BK290.out 3).trans rfl, (blk_cell BK290.out 4).trans rfl, (blk_cell BK290.out 5).trans rfl⟩ (fun hHeld => ?_); refine with_tabW laws_FnExactIsAfloat.tab7 laws_FnExactIsAfloat.bits7 (fun HT_ HW_ => ?_)
  generalize w26.drew = w27 at HO303 HO308 BK289 BK290 HB hHeld ⊢
  refine pS (i := 4) (some 38) #[false, false, false, false, true, false, false, false, false, false, false, false] (any_of HT_.out (by kernel_rfl)) ?_
  refine pS (i := 5) (some 39) #[false, false, false, false, true, true, false, false, false, false, false, false] (any_of HT_.out (by kernel_rfl)) ?_
  refine tS (i := 0) (some 34) #[true, false, false, false, true, true, false, false, false, false, false, false] (take_ofW HT_.out HW_.out (by kernel_rfl)) hHeld ?_
  refine tS (i := 2) (some 36) #[true, false, true, false, true, true, false, false, false, false, false, false] (take_ofW HT_.out HW_.out (by kernel_rfl)) hHeld ?_
  refine one_ (i := 1) (N := some 35) #[true, true, true, false, true, true, false, false, false, false, false, false] rfl rfl (one_of HT_.out (by kernel_rfl)) (by decide) (fun K hK => ?_)
  refine goes_ Try.func26 (by kernel_rfl) rfl #[.agg (csBay a0_0 a0_1 a0_2)] (by rfl) rfl rfl (by (try simp only [List.map_toArray, List.map_cons, List.map_nil]); first | done | rfl | (simp only [List.length_drop, List.length_take]; rfl)) ?_
  with_reducible refine (laws_toBay.calls a0_0 a0_1 a0_2 t309 t310 t311 _ A14.out).mono ?_
  rintro e w28 ⟨rfl, hb⟩
  refine ⟨_, rfl, ?_⟩
  have n0_ := am (Kd.R_below (kr HO303) hb)
  have n1_ := am (Kd.R_below (kr HO308) hb)
  have n2_ := bB BK289 hb
  have n3_ := bB BK290 hb
  have n4_ := am (below_step (be HB) hb)
  clear HO303
  clear HO308
  clear BK289
  clear BK290
  clear HB
  have HO303 := n0_
  have HO308 := n1_
  have BK289 := n2_
  have BK290 := n3_
  have HB := n4_
  clear n0_ n1_ n2_ n3_ n4_
  (try clear hb)
  (try clear hb2)
  (try clear hk)
  (try clear hi)
  refine hK.out _ _ ⟨(blk_cell BK289.out 0).trans rfl, (blk_cell BK289.out 1).trans rfl, at_cells BK289.out, BayAt26_of BK289.out, lvv_of BK289.out, (blk_cell BK290.out 0).trans rfl, (blk_cell BK290.out 1).trans rfl, (blk_cell BK290.out 2).trans rfl, (blk_cell BK290.out 3).trans rfl, (blk_cell BK290.out 4).trans rfl, (blk_cell BK290.out 5).trans rfl⟩ (fun hHeld => ?_)
  clear hK K
  refine norm_ (a' := ?_) ?_ ?_
  rotate_left
  ·show Act.put _ (some 35) _ = _
   simp only [Act.put, List.setIfInBounds_toArray, List.set_cons_zero, List.set_cons_succ, i64_w, i32_w]
   rfl
  refine one_ (i := 3) (N := some 37) #[true, true, true, true, true, true, false, false, false, false, false, false] rfl rfl (one_of HT_.out (by kernel_rfl)) (by decide) (fun K hK => ?_)
  refine goes_ Try.func29 (by kernel_rfl) rfl #[.agg #[.int .i8 a1_0, .int .i8 a1_1, .int .i8 a1_2, .int .i8 a1_3, .int .i8 a1_4, .int .i8 a1_5]] (by rfl) rfl rfl (by (try simp only [List.map_toArray, List.map_cons, List.map_nil]); first | done | rfl | (simp only [List.length_drop, List.length_take]; rfl)) ?_
  with_reducible refine (laws_toBoat.calls a1_0 a1_1 a1_2 a1_3 a1_4 a1_5 t312 t313 t314 t315 t316 t317 _ A15.out).mono ?_
  rintro e w29 ⟨rfl, hb⟩
  refine ⟨_, rfl, ?_⟩
  have n0_ := am (Kd.R_below (kr HO303) hb)
  have n1_ := am (Kd.R_below (kr HO308) hb)
  have n2_ := bB BK289 hb
  have n3_ := bB BK290 hb
  have n4_ := am (below_step (be HB) hb)
  clear HO303
  clear HO308
  clear BK289
  clear BK290
  clear HB
  have HO303 := n0_
  have HO308 := n1_
  have BK289 := n2_
  have BK290 := n3_
  have HB := n4_
  clear n0_ n1_ n2_ n3_ n4_
  (try clear hb)
  (try clear hb2)
  (try clear hk)
  (try clear hi)
  obtain ⟨Ao30, co30, eo30⟩ := Kd.R_slice HO308.out
  (first | subst eo30 | (injection eo30 with f1_ f2_ f3_; have f4_ := f1_.symm; have f5_ := f3_.symm; clear f1_ f2_ f3_; subst f4_; subst f5_))
  refine hK.out _ _ ⟨(blk_cell BK289.out 0).trans rfl, (blk_cell BK289.out 1).trans rfl, at_cells BK289.out, BayAt26_of BK289.out, lvv_of BK289.out, (blk_cell BK290.out 0).trans rfl, (blk_cell BK290.out 1).trans rfl, (blk_cell BK290.out 2).trans rfl, (blk_cell BK290.out 3).trans rfl, (blk_cell BK290.out 4).trans rfl, (blk_cell BK290.out 5).trans rfl⟩ (fun hHeld => ?_)
  clear hK K
  refine norm_ (a' := ?_) ?_ ?_
  rotate_left
  ·show Act.put _ (some 37) _ = _
   simp only [Act.put, List.setIfInBounds_toArray, List.set_cons_zero, List.set_cons_succ, i64_w, i32_w]
   rfl
  refine one_ (i := 6) (N := some 40) #[true, true, true, true, true, true, true, false, false, false, false, false] rfl rfl (one_of HT_.out (by kernel_rfl)) (by decide) (fun K hK => ?_)
  refine goes_ Try.func88 (by kernel_rfl) rfl #[.agg (csBay t309 t310 t311), .agg #[.int .i8 t312, .int .i8 t313, .int .i8 t314, .int .i8 t315, .int .i8 t316, .int .i8 t317], .slice Ao30 t306.length co30, .int .i64 a3] (by rfl) rfl rfl (by (try simp only [List.map_toArray, List.map_cons, List.map_nil]); first | done | rfl | (simp only [List.length_drop, List.length_take]; rfl)) ?_
  with_reducible refine (impl_IsAfloat.calls k t309 t310 t311 t312 t313 t314 t315 t316 t317 _ _ t306 a3 t318 t319 _ ?side1 ?side2 A16.out).mono ?_
  (case side1 => repeat (first | exact (Kd.R_reads' HO308.out).2.2 | (with_reducible refine Kd.C_alloc ?_ _) | (with_reducible refine Kd.C_drewN ?_ _) | (with_reducible refine Kd.C_drew ?_)))
  (case side2 => exact (Kd.R_reads' HO308.out).2.1)
  rintro e w31 ⟨rfl, hb⟩
  refine ⟨_, rfl, ?_⟩
  have n0_ := am (Kd.R_below (kr HO303) hb)
  have n1_ := am (Kd.R_below (kr HO308) hb)
  have n2_ := bB BK289 hb
  have n3_ := bB BK290 hb
  have n4_ := am (below_step (be HB) hb)
  clear HO303
  clear HO308
  clear BK289
  clear BK290
  clear HB
  have HO303 := n0_
  have HO308 := n1_
  have BK289 := n2_
  have BK290 := n3_
  have HB := n4_
  clear n0_ n1_ n2_ n3_ n4_
  (try clear hb)
  (try clear hb2)
  (try clear hk)
  (try clear hi)
  refine hK.out _ _ ⟨(blk_cell BK289.out 0).trans rfl, (blk_cell BK289.out 1).trans rfl, at_cells BK289.out, BayAt26_of BK289.out, lvv_of BK289.out, (blk_cell BK290.out 0).trans rfl, (blk_cell BK290.out 1).trans rfl, (blk_cell BK290.out 2).trans rfl, (blk_cell BK290.out 3).trans rfl, (blk_cell BK290.out 4).trans rfl, (blk_cell BK290.out 5).trans rfl⟩ (fun hHeld => ?_)
  clear hK K
  refine norm_ (a' := ?_) ?_ ?_
  rotate_left
  ·show Act.put _ (some 40) _ = _
   simp only [Act.put, List.setIfInBounds_toArray, List.set_cons_zero, List.set_cons_succ, i64_w, i32_w]
   rfl
  refine pS (i := 7) (some 33) #[true, true, true, true, true, true, true, true, false, false, false, false] (any_of HT_.out (by kernel_rfl)) ?_
  refine pS (i := 8) (some 41) #[true, true, true, true, true, true, true, true, true, false, false, false] (any_of HT_.out (by kernel_rfl)) ?_
  refine pS (i := 9) (some 42) #[true, true, true, true, true, true, true, true, true, true, false, false] (any_of HT_.out (by kernel_rfl)) ?_
  refine pS (i := 10) (some 13) #[true, true, true, true, true, true, true, true, true, true, true, false] (any_of HT_.out (by kernel_rfl)) ?_
  refine pS (i := 11) (some 14) #[true, true, true, true, true, true, true, true, true, true, true, true] (any_of HT_.out (by kernel_rfl)) ?_
  refine done_ (done_of HT_.out (by kernel_rfl)) ?_
  go_upto_region 8 with (fail)
  go_cut [50] (fun v50 wc => ∃ (kq : Nat) (x50_16 : Bool), v50 = .bool x50_16 ∧ Aside0 (laws_FnExactIsAfloat.j0 kq l2 t306 x50_16 = some r) ∧ Aside0 (kq ≤ k) ∧ Aside0 (Kd.R k103 103 wc w.heap.size (fun _ => True) (.slice Ao30 t306.length co30) t306) ∧ Aside0 (wc.heap[gb289]? = some (.cells (csBay a0_0 a0_1 a0_2) 26 (0, 0))) ∧ Aside0 (wc.heap[gb290]? = some (.cells #[.int .i8 a1_0, .int .i8 a1_1, .int .i8 a1_2, .int .i8 a1_3, .int .i8 a1_4, .int .i8 a1_5] 34 (0, 0))) ∧ Aside0 (Below w.heap.size w wc))
  case first =>
   have H := HC17.out
   clear HC17
   by_cases c32 : (t318 != t304) = true
   ·rw [if_pos c32] at H
    have c32b0 : (t318 != t304) = true := c32
    (try (have c32b1 : decide (t318 = t304) = false := by simpa using c32))
    (try (have c32b2 : (t318 == t304) = false := by simpa using c32))
    (try (have c32b3 : ¬ (t318 = t304) := by simpa using c32))
    clear c32
    (first | rw [c32b0] | (simp only [i64_w, i32_w]; rw [c32b0]) | skip)
    have H' := am H
    clear H
    go_wp2
    go_meet
    case rel => exact ⟨_, (true), vv, H', ⟨by first | omega | exact Nat.le_refl _⟩, ⟨by (with_reducible repeat (first | apply Kd.R_alloc | apply Kd.R_drewN | apply Kd.R_drew)); exact Kd.R_mono HO308.out (fun _ hk => trivial)⟩, ⟨kb BK289⟩, ⟨kb BK290⟩, ⟨be HB⟩⟩
   ·rw [if_neg c32] at H
    have c32b0 : (t318 != t304) = false := by simpa using c32
    (try (have c32b1 : decide (t318 = t304) = true := by simpa using c32))
    (try (have c32b2 : (t318 == t304) = true := by simpa using c32))
    clear c32
    (first | rw [c32b0] | (simp only [i64_w, i32_w]; rw [c32b0]) | skip)
    have H' := am H
    clear H
    go_wp2
    go_meet
    case rel => exact ⟨_, ((t319 != t305)), vv, H', ⟨by first | omega | exact Nat.le_refl _⟩, ⟨by (with_reducible repeat (first | apply Kd.R_alloc | apply Kd.R_drewN | apply Kd.R_drew)); exact Kd.R_mono HO308.out (fun _ hk => trivial)⟩, ⟨kb BK289⟩, ⟨kb BK290⟩, ⟨be HB⟩⟩
  case rest =>
   clear HC17
   try clear c2
   try clear p2
   try clear c3
   try clear c6
   try clear c6b0
   try clear c8
   try clear c21
   try clear c26
   try clear c29
   try clear c32
   try clear c32b0
   try clear c32b1
   try clear c32b2
   obtain ⟨kq, x50_16, rfl, HA, HJ16, HO_12, BK289, BK290, HB⟩ := hcut
   cases kq with
   | zero => exact absurd HA.out (by simp [laws_FnExactIsAfloat.j0])
   | succ kj16 =>
    have H := HA.out
    clear HA
    simp only [laws_FnExactIsAfloat.j0] at H
    by_cases c33 : x50_16 = true
    ·subst c33
     rw [if_pos rfl] at H
     obtain rfl := Option.some.inj H
     go_wp2
     go_ret
     exact ⟨by first | rfl | (simp [errW_none, errW_some] <;> rfl) | (simp [*, errW_none, errW_some] <;> rfl), be HB⟩
    ·replace c33 := Bool.eq_false_iff.mpr c33
     subst c33
     have H1 : ((laws_toWaterS.f kj16 l2).bind fun t320 => ((laws_eqWaterS.f kj16 t306 t320).bind fun t323 => (if t323 = true then (some true) else (some false)))) = some r := by rw [if_neg (show ¬ (false = true) by decide)] at H; exact H
     clear H
     have H := H1
     clear H1
     replace H := Option.bind_eq_some_iff.mp H
     obtain ⟨t320, A340, H⟩ := H
     try dsimp only at H
     have A34 := am A340
     clear A340
     replace H := Option.bind_eq_some_iff.mp H
     obtain ⟨t323, A350, H⟩ := H
     try dsimp only at H
     have A35 := am A350
     clear A350
     by_cases c36 : t323 = true
     ·subst c36
      rw [if_pos rfl] at H
      obtain rfl := Option.some.inj H
      go_wp2_with (first | ((with_reducible refine gate_callee (f := 84) rfl ?_); refine gL (some 53) Try.func84 #[.slice A2 l2.length c2] ?_; (with_reducible refine (laws_toWaterS.calls kj16 _ _ l2 t320 _ ?side1 ?side2 A34.out).mono ?_); (case side1 => repeat (first | exact (Kd.C_below HR2.out HB.out) | (with_reducible refine Kd.C_alloc ?_ _) | (with_reducible refine Kd.C_drewN ?_ _) | (with_reducible refine Kd.C_drew ?_))); (case side2 => exact HC2.out); rintro e w37 ⟨v321, rfl, ho0, hb⟩; refine ⟨_, rfl, ?_⟩; have HO322 := am (Kd.R_lower (Kd.R_new' ho0 (Kd.R_lt (kr HO_12))) (below_size (be HB))); replace HO_12 := am (Kd.R_elder' (kr HO_12) (Kd.R_base ho0) hb); replace BK289 := bB BK289 hb; replace BK290 := bB BK290 hb; replace HB := am (below_step (be HB) hb); (try clear hb); (try clear hb2); (try clear hk); (try clear hi); (try clear ho0); obtain ⟨Ao38, co38, eo38⟩ := Kd.R_slice HO322.out; subst eo38) | ((with_reducible refine gate_callee (f := 86) rfl ?_); refine gL (some 54) Try.func86 #[.slice Ao30 t306.length co30, .slice Ao38 t320.length co38] ?_; (with_reducible refine (laws_eqWaterS.calls kj16 _ _ t306 _ _ t320 true _ ?side1 ?side2 ?side3 ?side4 A35.out).mono ?_); (case side1 => repeat (first | exact (Kd.R_reads' HO_12.out).2.2 | (with_reducible refine Kd.C_alloc ?_ _) | (with_reducible refine Kd.C_drewN ?_ _) | (with_reducible refine Kd.C_drew ?_))); (case side2 => exact (Kd.R_reads' HO_12.out).2.1); (case side3 => repeat (first | exact (Kd.R_reads' HO322.out).2.2 | (with_reducible refine Kd.C_alloc ?_ _) | (with_reducible refine Kd.C_drewN ?_ _) | (with_reducible refine Kd.C_drew ?_))); (case side4 => exact (Kd.R_reads' HO322.out).2.1); rintro e w39 ⟨rfl, hb⟩; refine ⟨_, rfl, ?_⟩; replace HO_12 := am (Kd.R_below (kr HO_12) hb); replace HO322 := am (Kd.R_below (kr HO322) hb); replace BK289 := bB BK289 hb; replace BK290 := bB BK290 hb; replace HB := am (below_step (be HB) hb); (try clear hb); (try clear hb2); (try clear hk); (try clear hi)))
      go_ret
      exact ⟨by first | rfl | (simp [errW_none, errW_some] <;> rfl) | (simp [*, errW_none, errW_some] <;> rfl), be HB⟩
     ·replace c36 := Bool.eq_false_iff.mpr c36
      subst c36
      have H1 : (some false) = some r := by rw [if_neg (show ¬ (false = true) by decide)] at H; exact H
      clear H
      have H := H1
      clear H1
      obtain rfl := Option.some.inj H
      go_wp2_with (first | ((with_reducible refine gate_callee (f := 84) rfl ?_); refine gL (some 53) Try.func84 #[.slice A2 l2.length c2] ?_; (with_reducible refine (laws_toWaterS.calls kj16 _ _ l2 t320 _ ?side1 ?side2 A34.out).mono ?_); (case side1 => repeat (first | exact (Kd.C_below HR2.out HB.out) | (with_reducible refine Kd.C_alloc ?_ _) | (with_reducible refine Kd.C_drewN ?_ _) | (with_reducible refine Kd.C_drew ?_))); (case side2 => exact HC2.out); rintro e w40 ⟨v321, rfl, ho0, hb⟩; refine ⟨_, rfl, ?_⟩; have HO322 := am (Kd.R_lower (Kd.R_new' ho0 (Kd.R_lt (kr HO_12))) (below_size (be HB))); replace HO_12 := am (Kd.R_elder' (kr HO_12) (Kd.R_base ho0) hb); replace BK289 := bB BK289 hb; replace BK290 := bB BK290 hb; replace HB := am (below_step (be HB) hb); (try clear hb); (try clear hb2); (try clear hk); (try clear hi); (try clear ho0); obtain ⟨Ao41, co41, eo41⟩ := Kd.R_slice HO322.out; subst eo41) | ((with_reducible refine gate_callee (f := 86) rfl ?_); refine gL (some 54) Try.func86 #[.slice Ao30 t306.length co30, .slice Ao41 t320.length co41] ?_; (with_reducible refine (laws_eqWaterS.calls kj16 _ _ t306 _ _ t320 false _ ?side1 ?side2 ?side3 ?side4 A35.out).mono ?_); (case side1 => repeat (first | exact (Kd.R_reads' HO_12.out).2.2 | (with_reducible refine Kd.C_alloc ?_ _) | (with_reducible refine Kd.C_drewN ?_ _) | (with_reducible refine Kd.C_drew ?_))); (case side2 => exact (Kd.R_reads' HO_12.out).2.1); (case side3 => repeat (first | exact (Kd.R_reads' HO322.out).2.2 | (with_reducible refine Kd.C_alloc ?_ _) | (with_reducible refine Kd.C_drewN ?_ _) | (with_reducible refine Kd.C_drew ?_))); (case side4 => exact (Kd.R_reads' HO322.out).2.1); rintro e w42 ⟨rfl, hb⟩; refine ⟨_, rfl, ?_⟩; replace HO_12 := am (Kd.R_below (kr HO_12) hb); replace HO322 := am (Kd.R_below (kr HO322) hb); replace BK289 := bB BK289 hb; replace BK290 := bB BK290 hb; replace HB := am (below_step (be HB) hb); (try clear hb); (try clear hb2); (try clear hk); (try clear hi)))
      go_ret
      exact ⟨by first | rfl | (simp [errW_none, errW_some] <;> rfl) | (simp [*, errW_none, errW_some] <;> rfl), be HB⟩

end Go.Proofs.Ytcollbifdfhfoaa.PFnExactIsAfloat
