-- Written by a program out of this seat's translation (functions, and that the code comes to them).
import Derived.Test.YtcollbifdfhfoaaPFnExactDryMinutesx0
import Derived.Test.YtcollbifdfhfoaaPFnExactDryMinutesx1
import Derived.Test.YtcollbifdfhfoaaPFnExactDryMinutesx2
import Derived.Test.YtcollbifdfhfoaaPFnExactDryMinutesx3
import Derived.Test.YtcollbifdfhfoaaPFnExactDryMinutesx4
namespace Go.Proofs.Ytcollbifdfhfoaa.PFnExactDryMinutes
open Go.RowKit Go.Proofs.YtcollbifdfhfoaaW.PrintWords Go.Proofs.YtcollbifdfhfoaaW.PrintLast Go.Proofs.YtcollbifdfhfoaaW.PrintMore
attribute [local go_sem] max2_int min2_int max_two min_two max_three min_three max_four min_four   -- for this text's walks alone
open Go.Proofs.Ytcollbifdfhfoaa.Bay Go.Proofs.Ytcollbifdfhfoaa.Short
attribute [local go_sem ↓] lv26_eq lv28_eq
attribute [local go_sem] lvv_set lvv_drewN lvv_drew lv26_run BayAt26_set BayAt26_drewN BayAt26_drew lv28_run BayAt28_set BayAt28_drewN BayAt28_drew
set_option linter.unusedVariables false
set_option linter.unusedSimpArgs false

/-! ### spec_DryMinutes: function 83 -/
def spec_DryMinutes.l0 : Nat → List (S103) → Int → Int → Int → Int → (Nat → Int) → Int → Int → Int → Int → Int → Int → Option (Int × Int)
 | 0, _, _, _, _, _, _, _, _, _, _, _, _ => none
 | k + 1, x2, x9, x10, x187000, x187001, x187002, x188000, x188001, x188002, x188003, x188004, x188005 => (spec_l02Last.f x2).bind fun t196 => (if x10 ≤ t196 then ((spec_l02Height.f k x2 x10).bind fun t197 => ((spec_l02Afloat.f x187000 x187001 x187002 x188000 x188001 x188002 x188003 x188004 x188005 t197).bind fun bt198 => (if bt198.1 = true then (spec_DryMinutes.l0 k x2 x9 (wrap64 (x10 + 1)) bt198.2.1 bt198.2.2.1 bt198.2.2.2 x188000 x188001 x188002 x188003 x188004 x188005) else (spec_DryMinutes.l0 k x2 (wrap64 (x9 + 1)) (wrap64 (x10 + 1)) bt198.2.1 bt198.2.2.1 bt198.2.2.2 x188000 x188001 x188002 x188003 x188004 x188005)))) else (some (x9, 0)))
def spec_DryMinutes.f (k : Nat) (a0_0 : Int) (a0_1 : Int) (a0_2 : (Nat → Int)) (a1_0 : Int) (a1_1 : Int) (a1_2 : Int) (a1_3 : Int) (a1_4 : Int) (a1_5 : Int) (l2 : List (S103)) : Option (Int × Int) := (spec_l02Boats.f k a0_0 a0_1 a0_2 (([(⟨(⟨a1_0, a1_1⟩ : S36), a1_2, a1_3, a1_4, a1_5⟩ : S38)] : List (S38))) l2 true).bind fun bt191 => (if bt191.1 = 0 then ((spec_l02First.f l2).bind fun t195 => (spec_DryMinutes.l0 k l2 0 t195 bt191.2.1 bt191.2.2.1 bt191.2.2.2 a1_0 a1_1 a1_2 a1_3 a1_4 a1_5)) else (some (0, bt191.1)))
set_option maxHeartbeats 8000000 in
set_option maxRecDepth 100000 in
theorem spec_DryMinutes.calls (k : Nat) (a0_0 : Int) (a0_1 : Int) (a0_2 : (Nat → Int)) (a1_0 : Int) (a1_1 : Int) (a1_2 : Int) (a1_3 : Int) (a1_4 : Int) (a1_5 : Int) (A2 : Option Addr) (c2 : Nat) (l2 : List (S103)) (r1 : Int) (r2 : Int) (w : World) (hr2 : Kd.C k103 w A2 l2.length l2) (hc2 : l2.length ≤ c2) (h : spec_DryMinutes.f k a0_0 a0_1 a0_2 a1_0 a1_1 a1_2 a1_3 a1_4 a1_5 l2 = some (r1, r2)) :
  Calls Try.prog 83 #[.agg (csBay a0_0 a0_1 a0_2), .agg #[.int .i8 a1_0, .int .i8 a1_1, .int .i8 a1_2, .int .i8 a1_3, .int .i8 a1_4, .int .i8 a1_5], .slice A2 l2.length c2] w fun e w' => e = .returned (.tuple #[.int .i64 r1, .int .i64 r2]) ∧ Below w.heap.size w w' := by
 have hu28 := Try.underlying28
 have hu38 := Try.underlying38
 have HR2 := am hr2
 have HC2 := am hc2
 clear hr2 hc2
 have HB := am (Below.refl w.heap.size w)
 have H : ((spec_l02Boats.f k a0_0 a0_1 a0_2 (([(⟨(⟨a1_0, a1_1⟩ : S36), a1_2, a1_3, a1_4, a1_5⟩ : S38)] : List (S38))) l2 true).bind fun bt191 => (if bt191.1 = 0 then ((spec_l02First.f l2).bind fun t195 => (spec_DryMinutes.l0 k l2 0 t195 bt191.2.1 bt191.2.2.1 bt191.2.2.2 a1_0 a1_1 a1_2 a1_3 a1_4 a1_5)) else (some (0, bt191.1)))) = some (r1, r2) := h
 clear h
 obtain ⟨y188, hy188⟩ : ∃ y_ : List (S38), y_ = (([(⟨(⟨a1_0, a1_1⟩ : S36), a1_2, a1_3, a1_4, a1_5⟩ : S38)] : List (S38))) := ⟨_, rfl⟩
 replace H : ((spec_l02Boats.f k a0_0 a0_1 a0_2 y188 l2 true).bind fun bt191 => (if bt191.1 = 0 then ((spec_l02First.f l2).bind fun t195 => (spec_DryMinutes.l0 k l2 0 t195 bt191.2.1 bt191.2.2.1 bt191.2.2.2 a1_0 a1_1 a1_2 a1_3 a1_4 a1_5)) else (some (0, bt191.1)))) = some (r1, r2) := by first | (rw [hy188]; with_reducible exact H) | (have H2_ := (Option.bind_some _ _).symm.trans H; rw [hy188]; with_reducible exact H2_) | (have H2_ := (Option.bind_some _ _).symm.trans H; with_reducible exact H2_) | with_reducible exact H | (rw [hy188]; exact H) | exact H
 have Ny188 := am hy188
 clear hy188
 replace H := Option.bind_eq_some_iff.mp H
 obtain ⟨⟨t191, t192, t193, t194⟩, A40, H⟩ := H
 try dsimp only at H
 have A4 := am A40
 clear A40
 by_cases c5 : t191 = 0
 ·rw [if_pos c5] at H
  have c5b0 : (t191 == 0) = true := beq_iff_eq.mpr c5
  have c5b1 : (t191 != 0) = false := bne_eq_false_iff_eq.mpr c5
  clear c5
  replace H := Option.bind_eq_some_iff.mp H
  obtain ⟨t195, A60, H⟩ := H
  try dsimp only at H
  have A6 := am A60
  clear A60
  have H' := am H
  clear H
  go_enter Try.func83, Try.ntmps83
  go_wp2_with (first | ((with_reducible refine gate_dst (N := 3) rfl ?_); refine bxe (N := 3) (cs := (csBay a0_0 a0_1 a0_2)) (t := 28) ?_; intro gb186 hg w7 hbox hb; have HI186 := am ((show IsS28 w w7 gb186 a0_0 a0_1 a0_2 from ⟨hbox, by rw [hg]; exact (below_size (be HB))⟩)); have GW186 := am (gN hg (below_size (be HB))); have GE186 := am (gN hg (below_size (be HB))); replace HB := am (below_step (be HB) hb); clear hb hbox hg) | ((with_reducible refine gate_dst (N := 4) rfl ?_); refine bxe (N := 4) (cs := #[.int .i8 a1_0, .int .i8 a1_1, .int .i8 a1_2, .int .i8 a1_3, .int .i8 a1_4, .int .i8 a1_5]) (t := 38) ?_; intro gb187 hg w8 hbox hb; have BK187 := am (hbox); have GW187 := am (gN hg (below_size (be HB))); have GE187 := am (gN hg (below_size (be HB))); have NB186_187 := am (nLi hg (IsS28.lt (show IsS28 w _ gb186 a0_0 a0_1 a0_2 from si28 HI186))); have NB187_186 := am (nRi hg (IsS28.lt (show IsS28 w _ gb186 a0_0 a0_1 a0_2 from si28 HI186))); replace HI186 := am (IsS28.below (si28 HI186) hb); replace HB := am (below_step (be HB) hb); clear hb hbox hg; have hnb9 := NB187_186.out; have hnc9 := NB186_187.out; obtain ⟨hcz10_0, hcz10_1, hcz10_2, hcz10_3, hcz10_4, hcz10_5, hfz10_0, hfz10_1, hfz10_2, hfz10_3, hfz10_4, hfz10_5⟩ := bx6 BK187) | ((with_reducible refine gate_dst (N := 12) rfl ?_); refine Kd.R_lit k38 _ 38 ?hg (N := 12) ?hd (xs := ([(⟨(⟨a1_0, a1_1⟩ : S36), a1_2, a1_3, a1_4, a1_5⟩ : S38)] : List (S38))) (inner := [.int .i8 a1_0, .int .i8 a1_1, .int .i8 a1_2, .int .i8 a1_3, .int .i8 a1_4, .int .i8 a1_5]) (ok := fun _ => True) (okp := fun _ => True) ?hr ?hp (fun _ hk => hk) trivial (Below.refl _ _) (Nat.le_refl _) (by simp) ?_; (case hd => rfl); (case hg => rfl); (case hr => first | (go_simp; done) | (go_simp; rfl)); (case hp => exact (Reps.c6 (show Kd.M k38 _ _ _ (⟨(⟨a1_0, a1_1⟩ : S36), a1_2, a1_3, a1_4, a1_5⟩ : S38) [.int .i8 a1_0, .int .i8 a1_1, .int .i8 a1_2, .int .i8 a1_3, .int .i8 a1_4, .int .i8 a1_5] from (k38_mkM _ _ _ (⟨(⟨a1_0, a1_1⟩ : S36), a1_2, a1_3, a1_4, a1_5⟩ : S38) )) (Reps.none _ _))); intro v189 w11 ho12 hb hg_ hnew_; clear hg_ hnew_; (first | rw [← Ny188.out] at ho12 | (simp only [Int.reduceToNat] at ho12; rw [← Ny188.out] at ho12)); have HO190 := am (Kd.R_lower (Kd.R_newB ho12 (g := gb187) (o := .cells #[.int .i8 a1_0, .int .i8 a1_1, .int .i8 a1_2, .int .i8 a1_3, .int .i8 a1_4, .int .i8 a1_5] 38 (0, 0)) (kb BK187)) (below_size (be HB))); replace HI186 := am (IsS28.below (si28 HI186) hb); replace BK187 := bB BK187 hb; replace HB := am (below_step (be HB) hb); clear hb ho12; obtain ⟨Ao13, co13, eo13⟩ := Kd.R_slice HO190.out; subst eo13) | ((with_reducible refine gate_callee (f := 142) rfl ?_); refine gL (some 14) Try.func142 #[.pointer (some ⟨gb186, 0, none⟩), .slice Ao13 y188.length co13, .slice A2 l2.length c2, .bool true] ?_; (with_reducible refine (spec_l02Boats.calls k gb186 a0_0 a0_1 a0_2 _ _ y188 _ _ l2 true t191 t192 t193 t194 w _ ?side1 ?side2 ?side3 ?side4 ?side5 ?side6 A4.out).mono ?_); (case side1 => exact si28 HI186); (case side2 => exact be HB); (case side3 => exact Kd.C_foot_own (IsS28.apart (show IsS28 w _ gb186 a0_0 a0_1 a0_2 from si28 HI186) (kr HO190) (by decide)) (fun _ h_ => h_.2)); (case side4 => exact (Kd.R_reads' HO190.out).2.1); (case side5 => exact Kd.C_foot_came k103_heap HR2.out (be HB) (IsS28.ge HI186.out)); (case side6 => exact HC2.out); rintro e w14 ⟨rfl, hi, hb, hk⟩; refine ⟨_, rfl, ?_⟩; replace BK187 := am (KeepBut.blk hk (g' := gb187) (o := .cells #[.int .i8 a1_0, .int .i8 a1_1, .int .i8 a1_2, .int .i8 a1_3, .int .i8 a1_4, .int .i8 a1_5] 38 (0, 0)) (kb BK187) NB187_186.out (by simp)); replace HO190 := am (Kd.R_mono (Kd.R_keep (IsS28.apart (show IsS28 w _ gb186 a0_0 a0_1 a0_2 from si28 HI186) (kr HO190) (by decide)) hk (fun _ h => h.2)) (fun _ h => h.1)); replace HB := am (hb); replace HI186 := am (hi); (try clear hb); (try clear hb2); (try clear hk); (try clear hi)) | ((with_reducible refine gate_callee (f := 143) rfl ?_); refine gL (some 19) Try.func143 #[.slice A2 l2.length c2] ?_; (with_reducible refine (spec_l02First.calls _ _ l2 t195 _ ?side1 ?side2 A6.out).mono ?_); (case side1 => repeat (first | exact (Kd.C_below HR2.out HB.out) | (with_reducible refine Kd.C_alloc ?_ _) | (with_reducible refine Kd.C_drewN ?_ _) | (with_reducible refine Kd.C_drew ?_))); (case side2 => exact HC2.out); rintro e w' ⟨rfl, ⟨nd, rfl⟩⟩; refine ⟨_, rfl, ?_⟩))
  go_loopg [9, 10] k (fun kq v9 v10 w' => ∃ (x9_1 : Int) (x10_1 : Int) (x187000_1 : Int) (x187001_1 : Int) (x187002_1 : (Nat → Int)), v9 = .int .i64 x9_1 ∧ v10 = .int .i64 x10_1 ∧ Aside0 (spec_DryMinutes.l0 kq l2 x9_1 x10_1 x187000_1 x187001_1 x187002_1 a1_0 a1_1 a1_2 a1_3 a1_4 a1_5 = some (r1, r2)) ∧ Aside0 (kq ≤ k) ∧ Aside0 (w'.heap[gb187]? = some (.cells #[.int .i8 a1_0, .int .i8 a1_1, .int .i8 a1_2, .int .i8 a1_3, .int .i8 a1_4, .int .i8 a1_5] 38 (0, 0))) ∧ Aside0 (IsS28 w w' gb186 x187000_1 x187001_1 x187002_1) ∧ Aside0 (Below w.heap.size w w'))
  case atStart => exact ⟨(0), (t195), (t192), (t193), (t194), vv, vv, H', ⟨Nat.le_refl _⟩, ⟨kb BK187⟩, ⟨si28 HI186⟩, ⟨be HB⟩⟩
  case round =>
   clear H'
   try clear c1
   try clear c2
   try clear p2
   try clear c5
   try clear c5b0
   try clear c5b1
   try clear c6
   try clear c8
   try clear c9
   try clear c14
   try clear hcz10_0
   try clear hcz10_1
   try clear hcz10_2
   try clear hcz10_3
   try clear hcz10_4
   try clear hcz10_5
   try clear hfz10_0
   try clear hfz10_1
   try clear hfz10_2
   try clear hfz10_3
   try clear hfz10_4
   try clear hfz10_5
   obtain ⟨x9_1, x10_1, x187000_1, x187001_1, x187002_1, rfl, rfl, HA, HK1, BK187, HI186, HB⟩ := hrel
   cases gk with
   | zero => exact absurd HA.out (by simp [spec_DryMinutes.l0])
   | succ k1 =>
    have H := HA.out
    clear HA
    simp only [spec_DryMinutes.l0] at H
    replace H := Option.bind_eq_some_iff.mp H
    obtain ⟨t196, A150, H⟩ := H
    try dsimp only at H
    have A15 := am A150
    clear A150
    by_cases c16 : x10_1 ≤ t196
    ·rw [if_pos c16] at H
     have c16b0 : decide (x10_1 ≤ t196) = true := decide_eq_true c16
     clear c16
     replace H := Option.bind_eq_some_iff.mp H
     obtain ⟨t197, A170, H⟩ := H
     try dsimp only at H
     have A17 := am A170
     clear A170
     replace H := Option.bind_eq_some_iff.mp H
     obtain ⟨⟨t198, t199, t200, t201⟩, A180, H⟩ := H
     try dsimp only at H
     have A18 := am A180
     clear A180
     by_cases c19 : t198 = true
     ·subst c19
      rw [if_pos rfl] at H
      have H' := am H
      clear H
      try go_wp2_with (first | ((with_reducible refine gate_callee (f := 144) rfl ?_); refine gL (some 22) Try.func144 #[.slice A2 l2.length c2] ?_; (with_reducible refine (spec_l02Last.calls _ _ l2 t196 _ ?side1 ?side2 A15.out).mono ?_); (case side1 => repeat (first | exact (Kd.C_below HR2.out HB.out) | (with_reducible refine Kd.C_alloc ?_ _) | (with_reducible refine Kd.C_drewN ?_ _) | (with_reducible refine Kd.C_drew ?_))); (case side2 => exact HC2.out); rintro e w' ⟨rfl, ⟨nd, rfl⟩⟩; refine ⟨_, rfl, ?_⟩))
      (try (rw [drewN_self wr]; generalize hq_ : World.drewN wr _ = wr; have n0_ : Aside0 (wr.heap[gb187]? = some (.cells #[.int .i8 a1_0, .int .i8 a1_1, .int .i8 a1_2, .int .i8 a1_3, .int .i8 a1_4, .int .i8 a1_5] 38 (0, 0))) := ⟨by rw [← hq_]; exact (kb BK187)⟩; have n1_ : Aside0 (IsS28 w wr gb186 x187000_1 x187001_1 x187002_1) := ⟨by rw [← hq_]; exact (si28 HI186)⟩; have n2_ : Aside0 (Below w.heap.size w wr) := ⟨by rw [← hq_]; exact (be HB)⟩; clear BK187 HI186 HB hq_; have BK187 := n0_; have HI186 := n1_; have HB := n2_; clear n0_ n1_ n2_))
      have n0_ := am (blk_drew BK187.out)
      have n1_ := am (IsS28.drew HI186.out)
      have n2_ := am (below_drew1 HB.out)
      clear BK187
      clear HI186
      clear HB
      have BK187 := n0_
      have HI186 := n1_
      have HB := n2_
      clear n0_ n1_ n2_
      refine start_ (n := 6) (S := fun w' => w'.cell? ⟨gb187, 0, none⟩ = some (.int .i8 a1_0) ∧ w'.cell? ⟨gb187, 1, none⟩ = some (.int .i8 a1_1) ∧ w'.cell? ⟨gb187, 2, none⟩ = some (.int .i8 a1_2) ∧ w'.cell? ⟨gb187, 3, none⟩ = some (.int .i8 a1_3) ∧ w'.cell? ⟨gb187, 4, none⟩ = some (.int .i8 a1_4) ∧ w'.cell? ⟨gb187, 5, none⟩ = some (.int .i8 a1_5)) (ds := []) #[false, false, false, false, false, false] (by kernel_rfl) rfl rfl ⟨(blk_cell BK187.out 0).trans rfl, (blk_cell BK187.out 1).trans rfl, (blk_cell BK187.out 2).trans rfl, (blk_cell BK187.out 3).trans rfl, (blk_cell BK187.out 4).trans rfl, (blk_cell BK187.out 5).trans rfl⟩ (fun hHeld => ?_)
      generalize wr.drew = w20 at BK187 HI186 HB hHeld ⊢
      refine pure_ (i := 1) (N := some 27) (v := ?_) (a' := ?_) #[false, true, false, false, false, false] rfl rfl (by kernel_rfl) (fun _ _ _ h => h) (Or.inl ⟨by rfl, ?_⟩) ?_ ?_
      rotate_left
      ·intro w'
       go_simp
       with_reducible rfl
      rotate_left
      ·simp only [Act.put, List.setIfInBounds_toArray, List.set_cons_zero, List.set_cons_succ, i64_w, i32_w]
       rfl
      refine pure_ (i := 2) (N := some 28) (v := ?_) (a' := ?_) #[false, true, true, false, false, false] rfl rfl (by kernel_rfl) (fun _ _ _ h => h) (Or.inl ⟨by rfl, ?_⟩) ?_ ?_
      rotate_left
      ·intro w'
       go_simp
       with_reducible rfl
      rotate_left
      ·simp only [Act.put, List.setIfInBounds_toArray, List.set_cons_zero, List.set_cons_succ, i64_w, i32_w]
       rfl
      refine take_ (i := 0) (N := some 26) (v := ?_) (a' := ?_) #[true, true, true, false, false, false] rfl rfl (by kernel_rfl) (fun _ _ _ h => h) (Or.inl ⟨by rfl, ?_⟩) hHeld ?_ ?_
      rotate_left
      ·rintro w' ⟨s0, s1, s2, s3, s4, s5⟩
       go_simp
       with_reducible rfl
      rotate_left
      ·simp only [Act.put, List.setIfInBounds_toArray, List.set_cons_zero, List.set_cons_succ, i64_w, i32_w]
       rfl
      refine one_ (i := 3) (N := some 29) #[true, true, true, true, false, false] rfl rfl (by kernel_rfl) (by decide) (fun K hK => ?_)
      refine goes_ Try.func146 (by kernel_rfl) rfl #[.slice A2 l2.length c2, .int .i64 x10_1] (by rfl) rfl rfl (by (try simp only [List.map_toArray, List.map_cons, List.map_nil]); first | done | rfl | (simp only [List.length_drop, List.length_take]; rfl)) ?_
      with_reducible refine (spec_l02Height.calls k1 _ _ l2 x10_1 t197 _ ?side1 ?side2 A17.out).mono ?_
      (case side1 => repeat (first | exact (Kd.C_below HR2.out HB.out) | (with_reducible refine Kd.C_alloc ?_ _) | (with_reducible refine Kd.C_drewN ?_ _) | (with_reducible refine Kd.C_drew ?_)))
      (case side2 => exact HC2.out)
      rintro e w21 ⟨rfl, hb⟩
      refine ⟨_, rfl, ?_⟩
      have n0_ := bB BK187 hb
      have n1_ := am (IsS28.below (si28 HI186) hb)
      have n2_ := am (below_step (be HB) hb)
      clear BK187
      clear HI186
      clear HB
      have BK187 := n0_
      have HI186 := n1_
      have HB := n2_
      clear n0_ n1_ n2_
      (try clear hb)
      (try clear hb2)
      (try clear hk)
      (try clear hi)
      refine hK.out _ _ ⟨(blk_cell BK187.out 0).trans rfl, (blk_cell BK187.out 1).trans rfl, (blk_cell BK187.out 2).trans rfl, (blk_cell BK187.out 3).trans rfl, (blk_cell BK187.out 4).trans rfl, (blk_cell BK187.out 5).trans rfl⟩ (fun hHeld => ?_)
      clear hK K
      refine norm_ (a' := ?_) ?_ ?_
      rotate_left
      ·show Act.put _ (some 29) _ = _
       simp only [Act.put, List.setIfInBounds_toArray, List.set_cons_zero, List.set_cons_succ, i64_w, i32_w]
       rfl
      refine one_ (i := 4) (N := some 30) #[true, true, true, true, true, false] rfl rfl (by kernel_rfl) (by decide) (fun K hK => ?_)
      refine goes_ Try.func145 (by kernel_rfl) rfl #[.pointer (some ⟨gb186, 0, none⟩), .agg #[.int .i8 a1_0, .int .i8 a1_1, .int .i8 a1_2, .int .i8 a1_3, .int .i8 a1_4, .int .i8 a1_5], .int .i64 t197] (by rfl) rfl rfl (by (try simp only [List.map_toArray, List.map_cons, List.map_nil]); first | done | rfl | (simp only [List.length_drop, List.length_take]; rfl)) ?_
      with_reducible refine (spec_l02Afloat.calls gb186 x187000_1 x187001_1 x187002_1 a1_0 a1_1 a1_2 a1_3 a1_4 a1_5 t197 true t199 t200 t201 w _ ?side1 ?side2 A18.out).mono ?_
      (case side1 => exact si28 HI186)
      (case side2 => exact be HB)
      rintro e w22 ⟨rfl, hi, hb, hk⟩
      refine ⟨_, rfl, ?_⟩
      have n0_ := am (KeepBut.blk hk (g' := gb187) (o := .cells #[.int .i8 a1_0, .int .i8 a1_1, .int .i8 a1_2, .int .i8 a1_3, .int .i8 a1_4, .int .i8 a1_5] 38 (0, 0)) (kb BK187) NB187_186.out (by simp))
      have n1_ := am (hb)
      have n2_ := am (hi)
      clear BK187
      clear HB
      clear HI186
      have BK187 := n0_
      have HB := n1_
      have HI186 := n2_
      clear n0_ n1_ n2_
      (try clear hb)
      (try clear hb2)
      (try clear hk)
      (try clear hi)
      refine hK.out _ _ ⟨(blk_cell BK187.out 0).trans rfl, (blk_cell BK187.out 1).trans rfl, (blk_cell BK187.out 2).trans rfl, (blk_cell BK187.out 3).trans rfl, (blk_cell BK187.out 4).trans rfl, (blk_cell BK187.out 5).trans rfl⟩ (fun hHeld => ?_)
      clear hK K
      refine norm_ (a' := ?_) ?_ ?_
      rotate_left
      ·show Act.put _ (some 30) _ = _
       simp only [Act.put, List.setIfInBounds_toArray, List.set_cons_zero, List.set_cons_succ, i64_w, i32_w]
       rfl
      refine pure_ (i := 5) (N := some 31) (v := ?_) (a' := ?_) #[true, true, true, true, true, true] rfl rfl (by kernel_rfl) (fun _ _ _ h => h) (Or.inl ⟨by rfl, ?_⟩) ?_ ?_
      rotate_left
      ·intro w'
       go_simp
       with_reducible rfl
      rotate_left
      ·simp only [Act.put, List.setIfInBounds_toArray, List.set_cons_zero, List.set_cons_succ, i64_w, i32_w]
       rfl
      refine done_ (by kernel_rfl) ?_
      try go_wp2
      go_roundg k1
      case measure => have := HK1.out; omega
      case rel => exact ⟨(x9_1), (wrap64 (x10_1 + 1)), (t199), (t200), (t201), vv, vv, H', ⟨by have := HK1.out; omega⟩, ⟨kb BK187⟩, ⟨si28 HI186⟩, ⟨be HB⟩⟩
     ·replace c19 := Bool.eq_false_iff.mpr c19
      subst c19
      have H1 : (spec_DryMinutes.l0 k1 l2 (wrap64 (x9_1 + 1)) (wrap64 (x10_1 + 1)) t199 t200 t201 a1_0 a1_1 a1_2 a1_3 a1_4 a1_5) = some (r1, r2) := by rw [if_neg (show ¬ (false = true) by decide)] at H; exact H
      clear H
      have H := H1
      clear H1
      have H' := am H
      clear H
      try go_wp2_with (first | ((with_reducible refine gate_callee (f := 144) rfl ?_); refine gL (some 22) Try.func144 #[.slice A2 l2.length c2] ?_; (with_reducible refine (spec_l02Last.calls _ _ l2 t196 _ ?side1 ?side2 A15.out).mono ?_); (case side1 => repeat (first | exact (Kd.C_below HR2.out HB.out) | (with_reducible refine Kd.C_alloc ?_ _) | (with_reducible refine Kd.C_drewN ?_ _) | (with_reducible refine Kd.C_drew ?_))); (case side2 => exact HC2.out); rintro e w' ⟨rfl, ⟨nd, rfl⟩⟩; refine ⟨_, rfl, ?_⟩))
      (try (rw [drewN_self wr]; generalize hq_ : World.drewN wr _ = wr; have n0_ : Aside0 (wr.heap[gb187]? = some (.cells #[.int .i8 a1_0, .int .i8 a1_1, .int .i8 a1_2, .int .i8 a1_3, .int .i8 a1_4, .int .i8 a1_5] 38 (0, 0))) := ⟨by rw [← hq_]; exact (kb BK187)⟩; have n1_ : Aside0 (IsS28 w wr gb186 x187000_1 x187001_1 x187002_1) := ⟨by rw [← hq_]; exact (si28 HI186)⟩; have n2_ : Aside0 (Below w.heap.size w wr) := ⟨by rw [← hq_]; exact (be HB)⟩; clear BK187 HI186 HB hq_; have BK187 := n0_; have HI186 := n1_; have HB := n2_; clear n0_ n1_ n2_))
      have n0_ := am (blk_drew BK187.out)
      have n1_ := am (IsS28.drew HI186.out)
      have n2_ := am (below_drew1 HB.out)
      clear BK187
      clear HI186
      clear HB
      have BK187 := n0_
      have HI186 := n1_
      have HB := n2_
      clear n0_ n1_ n2_
      refine start_ (n := 6) (S := fun w' => w'.cell? ⟨gb187, 0, none⟩ = some (.int .i8 a1_0) ∧ w'.cell? ⟨gb187, 1, none⟩ = some (.int .i8 a1_1) ∧ w'.cell? ⟨gb187, 2, none⟩ = some (.int .i8 a1_2) ∧ w'.cell? ⟨gb187, 3, none⟩ = some (.int .i8 a1_3) ∧ w'.cell? ⟨gb187, 4, none⟩ = some (.int .i8 a1_4) ∧ w'.cell? ⟨gb187, 5, none⟩ = some (.int .i8 a1_5)) (ds := []) #[false, false, false, false, false, false] (by kernel_rfl) rfl rfl ⟨(blk_cell BK187.out 0).trans rfl, (blk_cell BK187.out 1).trans rfl, (blk_cell BK187.out 2).trans rfl, (blk_cell BK187.out 3).trans rfl, (blk_cell BK187.out 4).trans rfl, (blk_cell BK187.out 5).trans rfl⟩ (fun hHeld => ?_)
      generalize wr.drew = w23 at BK187 HI186 HB hHeld ⊢
      refine pure_ (i := 1) (N := some 27) (v := ?_) (a' := ?_) #[false, true, false, false, false, false] rfl rfl (by kernel_rfl) (fun _ _ _ h => h) (Or.inl ⟨by rfl, ?_⟩) ?_ ?_
      rotate_left
      ·intro w'
       go_simp
       with_reducible rfl
      rotate_left
      ·simp only [Act.put, List.setIfInBounds_toArray, List.set_cons_zero, List.set_cons_succ, i64_w, i32_w]
       rfl
      refine pure_ (i := 2) (N := some 28) (v := ?_) (a' := ?_) #[false, true, true, false, false, false] rfl rfl (by kernel_rfl) (fun _ _ _ h => h) (Or.inl ⟨by rfl, ?_⟩) ?_ ?_
      rotate_left
      ·intro w'
       go_simp
       with_reducible rfl
      rotate_left
      ·simp only [Act.put, List.setIfInBounds_toArray, List.set_cons_zero, List.set_cons_succ, i64_w, i32_w]
       rfl
      refine take_ (i := 0) (N := some 26) (v := ?_) (a' := ?_) #[true, true, true, false, false, false] rfl rfl (by kernel_rfl) (fun _ _ _ h => h) (Or.inl ⟨by rfl, ?_⟩) hHeld ?_ ?_
      rotate_left
      ·rintro w' ⟨s0, s1, s2, s3, s4, s5⟩
       go_simp
       with_reducible rfl
      rotate_left
      ·simp only [Act.put, List.setIfInBounds_toArray, List.set_cons_zero, List.set_cons_succ, i64_w, i32_w]
       rfl
      refine one_ (i := 3) (N := some 29) #[true, true, true, true, false, false] rfl rfl (by kernel_rfl) (by decide) (fun K hK => ?_)
      refine goes_ Try.func146 (by kernel_rfl) rfl #[.slice A2 l2.length c2, .int .i64 x10_1] (by rfl) rfl rfl (by (try simp only [List.map_toArray, List.map_cons, List.map_nil]); first | done | rfl | (simp only [List.length_drop, List.length_take]; rfl)) ?_
      with_reducible refine (spec_l02Height.calls k1 _ _ l2 x10_1 t197 _ ?side1 ?side2 A17.out).mono ?_
      (case side1 => repeat (first | exact (Kd.C_below HR2.out HB.out) | (with_reducible refine Kd.C_alloc ?_ _) | (with_reducible refine Kd.C_drewN ?_ _) | (with_reducible refine Kd.C_drew ?_)))
      (case side2 => exact HC2.out)
      rintro e w24 ⟨rfl, hb⟩
      refine ⟨_, rfl, ?_⟩
      have n0_ := bB BK187 hb
      have n1_ := am (IsS28.below (si28 HI186) hb)
      have n2_ := am (below_step (be HB) hb)
      clear BK187
      clear HI186
      clear HB
      have BK187 := n0_
      have HI186 := n1_
      have HB := n2_
      clear n0_ n1_ n2_
      (try clear hb)
      (try clear hb2)
      (try clear hk)
      (try clear hi)
      refine hK.out _ _ ⟨(blk_cell BK187.out 0).trans rfl, (blk_cell BK187.out 1).trans rfl, (blk_cell BK187.out 2).trans rfl, (blk_cell BK187.out 3).trans rfl, (blk_cell BK187.out 4).trans rfl, (blk_cell BK187.out 5).trans rfl⟩ (fun hHeld => ?_)
      clear hK K
      refine norm_ (a' := ?_) ?_ ?_
      rotate_left
      ·show Act.put _ (some 29) _ = _
       simp only [Act.put, List.setIfInBounds_toArray, List.set_cons_zero, List.set_cons_succ, i64_w, i32_w]
       rfl
      refine one_ (i := 4) (N := some 30) #[true, true, true, true, true, false] rfl rfl (by kernel_rfl) (by decide) (fun K hK => ?_)
      refine goes_ Try.func145 (by kernel_rfl) rfl #[.pointer (some ⟨gb186, 0, none⟩), .agg #[.int .i8 a1_0, .int .i8 a1_1, .int .i8 a1_2, .int .i8 a1_3, .int .i8 a1_4, .int .i8 a1_5], .int .i64 t197] (by rfl) rfl rfl (by (try simp only [List.map_toArray, List.map_cons, List.map_nil]); first | done | rfl | (simp only [List.length_drop, List.length_take]; rfl)) ?_
      with_reducible refine (spec_l02Afloat.calls gb186 x187000_1 x187001_1 x187002_1 a1_0 a1_1 a1_2 a1_3 a1_4 a1_5 t197 false t199 t200 t201 w _ ?side1 ?side2 A18.out).mono ?_
      (case side1 => exact si28 HI186)
      (case side2 => exact be HB)
      rintro e w25 ⟨rfl, hi, hb, hk⟩
      refine ⟨_, rfl, ?_⟩
      have n0_ := am (KeepBut.blk hk (g' := gb187) (o := .cells #[.int .i8 a1_0, .int .i8 a1_1, .int .i8 a1_2, .int .i8 a1_3, .int .i8 a1_4, .int .i8 a1_5] 38 (0, 0)) (kb BK187) NB187_186.out (by simp))
      have n1_ := am (hb)
      have n2_ := am (hi)
      clear BK187
      clear HB
      clear HI186
      have BK187 := n0_
      have HB := n1_
      have HI186 := n2_
      clear n0_ n1_ n2_
      (try clear hb)
      (try clear hb2)
      (try clear hk)
      (try clear hi)
      refine hK.out _ _ ⟨(blk_cell BK187.out 0).trans rfl, (blk_cell BK187.out 1).trans rfl, (blk_cell BK187.out 2).trans rfl, (blk_cell BK187.out 3).trans rfl, (blk_cell BK187.out 4).trans rfl, (blk_cell BK187.out 5).trans rfl⟩ (fun hHeld => ?_)
      clear hK K
      refine norm_ (a' := ?_) ?_ ?_
      rotate_left
      ·show Act.put _ (some 30) _ = _
       simp only [Act.put, List.setIfInBounds_toArray, List.set_cons_zero, List.set_cons_succ, i64_w, i32_w]
       rfl
      refine pure_ (i := 5) (N := some 31) (v := ?_) (a' := ?_) #[true, true, true, true, true, true] rfl rfl (by kernel_rfl) (fun _ _ _ h => h) (Or.inl ⟨by rfl, ?_⟩) ?_ ?_
      rotate_left
      ·intro w'
       go_simp
       with_reducible rfl
      rotate_left
      ·simp only [Act.put, List.setIfInBounds_toArray, List.set_cons_zero, List.set_cons_succ, i64_w, i32_w]
       rfl
      refine done_ (by kernel_rfl) ?_
      try go_wp2
      go_roundg k1
      case measure => have := HK1.out; omega
      case rel => exact ⟨(wrap64 (x9_1 + 1)), (wrap64 (x10_1 + 1)), (t199), (t200), (t201), vv, vv, H', ⟨by have := HK1.out; omega⟩, ⟨kb BK187⟩, ⟨si28 HI186⟩, ⟨be HB⟩⟩
    ·rw [if_neg c16] at H
     have c16b0 : decide (x10_1 ≤ t196) = false := decide_eq_false c16
     clear c16
     simp only [Option.some.injEq, Prod.mk.injEq] at H
     obtain ⟨rfl, rfl⟩ := H
     go_wp2_with (first | ((with_reducible refine gate_callee (f := 144) rfl ?_); refine gL (some 22) Try.func144 #[.slice A2 l2.length c2] ?_; (with_reducible refine (spec_l02Last.calls _ _ l2 t196 _ ?side1 ?side2 A15.out).mono ?_); (case side1 => repeat (first | exact (Kd.C_below HR2.out HB.out) | (with_reducible refine Kd.C_alloc ?_ _) | (with_reducible refine Kd.C_drewN ?_ _) | (with_reducible refine Kd.C_drew ?_))); (case side2 => exact HC2.out); rintro e w' ⟨rfl, ⟨nd, rfl⟩⟩; refine ⟨_, rfl, ?_⟩))
     go_ret2
     exact ⟨by first | rfl | (simp [errW_none, errW_some] <;> rfl) | (simp [*, errW_none, errW_some] <;> rfl), be HB⟩
 ·rw [if_neg c5] at H
  have c5b0 : (t191 == 0) = false := beq_eq_false_iff_ne.mpr c5
  have c5b1 : (t191 != 0) = true := bne_iff_ne.mpr c5
  simp only [Option.some.injEq, Prod.mk.injEq] at H
  obtain ⟨rfl, rfl⟩ := H
  go_enter Try.func83, Try.ntmps83
  go_wp2_with (first | ((with_reducible refine gate_dst (N := 3) rfl ?_); refine bxe (N := 3) (cs := (csBay a0_0 a0_1 a0_2)) (t := 28) ?_; intro gb186 hg w26 hbox hb; have HI186 := am ((show IsS28 w w26 gb186 a0_0 a0_1 a0_2 from ⟨hbox, by rw [hg]; exact (below_size (be HB))⟩)); have GW186 := am (gN hg (below_size (be HB))); have GE186 := am (gN hg (below_size (be HB))); replace HB := am (below_step (be HB) hb); clear hb hbox hg) | ((with_reducible refine gate_dst (N := 4) rfl ?_); refine bxe (N := 4) (cs := #[.int .i8 a1_0, .int .i8 a1_1, .int .i8 a1_2, .int .i8 a1_3, .int .i8 a1_4, .int .i8 a1_5]) (t := 38) ?_; intro gb187 hg w27 hbox hb; have BK187 := am (hbox); have GW187 := am (gN hg (below_size (be HB))); have GE187 := am (gN hg (below_size (be HB))); have NB186_187 := am (nLi hg (IsS28.lt (show IsS28 w _ gb186 a0_0 a0_1 a0_2 from si28 HI186))); have NB187_186 := am (nRi hg (IsS28.lt (show IsS28 w _ gb186 a0_0 a0_1 a0_2 from si28 HI186))); replace HI186 := am (IsS28.below (si28 HI186) hb); replace HB := am (below_step (be HB) hb); clear hb hbox hg; have hnb28 := NB187_186.out; have hnc28 := NB186_187.out; obtain ⟨hcz29_0, hcz29_1, hcz29_2, hcz29_3, hcz29_4, hcz29_5, hfz29_0, hfz29_1, hfz29_2, hfz29_3, hfz29_4, hfz29_5⟩ := bx6 BK187) | ((with_reducible refine gate_dst (N := 12) rfl ?_); refine Kd.R_lit k38 _ 38 ?hg (N := 12) ?hd (xs := ([(⟨(⟨a1_0, a1_1⟩ : S36), a1_2, a1_3, a1_4, a1_5⟩ : S38)] : List (S38))) (inner := [.int .i8 a1_0, .int .i8 a1_1, .int .i8 a1_2, .int .i8 a1_3, .int .i8 a1_4, .int .i8 a1_5]) (ok := fun _ => True) (okp := fun _ => True) ?hr ?hp (fun _ hk => hk) trivial (Below.refl _ _) (Nat.le_refl _) (by simp) ?_; (case hd => rfl); (case hg => rfl); (case hr => first | (go_simp; done) | (go_simp; rfl)); (case hp => exact (Reps.c6 (show Kd.M k38 _ _ _ (⟨(⟨a1_0, a1_1⟩ : S36), a1_2, a1_3, a1_4, a1_5⟩ : S38) [.int .i8 a1_0, .int .i8 a1_1, .int .i8 a1_2, .int .i8 a1_3, .int .i8 a1_4, .int .i8 a1_5] from (k38_mkM _ _ _ (⟨(⟨a1_0, a1_1⟩ : S36), a1_2, a1_3, a1_4, a1_5⟩ : S38) )) (Reps.none _ _))); intro v189 w30 ho31 hb hg_ hnew_; clear hg_ hnew_; (first | rw [← Ny188.out] at ho31 | (simp only [Int.reduceToNat] at ho31; rw [← Ny188.out] at ho31)); have HO190 := am (Kd.R_lower (Kd.R_newB ho31 (g := gb187) (o := .cells #[.int .i8 a1_0, .int .i8 a1_1, .int .i8 a1_2, .int .i8 a1_3, .int .i8 a1_4, .int .i8 a1_5] 38 (0, 0)) (kb BK187)) (below_size (be HB))); replace HI186 := am (IsS28.below (si28 HI186) hb); replace BK187 := bB BK187 hb; replace HB := am (below_step (be HB) hb); clear hb ho31; obtain ⟨Ao32, co32, eo32⟩ := Kd.R_slice HO190.out; subst eo32) | ((with_reducible refine gate_callee (f := 142) rfl ?_); refine gL (some 14) Try.func142 #[.pointer (some ⟨gb186, 0, none⟩), .slice Ao32 y188.length co32, .slice A2 l2.length c2, .bool true] ?_; (with_reducible refine (spec_l02Boats.calls k gb186 a0_0 a0_1 a0_2 _ _ y188 _ _ l2 true t191 t192 t193 t194 w _ ?side1 ?side2 ?side3 ?side4 ?side5 ?side6 A4.out).mono ?_); (case side1 => exact si28 HI186); (case side2 => exact be HB); (case side3 => exact Kd.C_foot_own (IsS28.apart (show IsS28 w _ gb186 a0_0 a0_1 a0_2 from si28 HI186) (kr HO190) (by decide)) (fun _ h_ => h_.2)); (case side4 => exact (Kd.R_reads' HO190.out).2.1); (case side5 => exact Kd.C_foot_came k103_heap HR2.out (be HB) (IsS28.ge HI186.out)); (case side6 => exact HC2.out); rintro e w33 ⟨rfl, hi, hb, hk⟩; refine ⟨_, rfl, ?_⟩; replace BK187 := am (KeepBut.blk hk (g' := gb187) (o := .cells #[.int .i8 a1_0, .int .i8 a1_1, .int .i8 a1_2, .int .i8 a1_3, .int .i8 a1_4, .int .i8 a1_5] 38 (0, 0)) (kb BK187) NB187_186.out (by simp)); replace HO190 := am (Kd.R_mono (Kd.R_keep (IsS28.apart (show IsS28 w _ gb186 a0_0 a0_1 a0_2 from si28 HI186) (kr HO190) (by decide)) hk (fun _ h => h.2)) (fun _ h => h.1)); replace HB := am (hb); replace HI186 := am (hi); (try clear hb); (try clear hb2); (try clear hk); (try clear hi)))
  go_ret2
  exact ⟨by first | rfl | (simp [errW_none, errW_some] <;> rfl) | (simp [*, errW_none, errW_some] <;> rfl), be HB⟩

/-! ### laws_toWater: function 147 -/
def laws_toWater.f (a0_0 : Int) (a0_1 : Int) : Option (Int × Int) := some (a0_0, a0_1)
set_option maxHeartbeats 8000000 in
set_option maxRecDepth 100000 in
theorem laws_toWater.calls (a0_0 : Int) (a0_1 : Int) (r1 : Int) (r2 : Int) (w : World) (h : laws_toWater.f a0_0 a0_1 = some (r1, r2)) :
  Calls Try.prog 147 #[.agg #[.int .i16 a0_0, .int .i8 a0_1]] w fun e w' => e = .returned (.agg #[.int .i16 r1, .int .i8 r2]) ∧ Below w.heap.size w w' := by
 have hu145 := Try.underlying145
 have hu103 := Try.underlying103
 have HB := am (Below.refl w.heap.size w)
 have H : (some (a0_0, a0_1)) = some (r1, r2) := h
 clear h
 simp only [Option.some.injEq, Prod.mk.injEq] at H
 obtain ⟨rfl, rfl⟩ := H
 go_enter Try.func147, Try.ntmps147
 go_wp2_with (first | ((with_reducible refine gate_dst (N := 1) rfl ?_); refine bxe (N := 1) (cs := #[.int .i16 a0_0, .int .i8 a0_1]) (t := 145) ?_; intro gb202 hg w2 hbox hb; have BK202 := am (hbox); have GW202 := am (gN hg (below_size (be HB))); have GE202 := am (gN hg (below_size (be HB))); replace HB := am (below_step (be HB) hb); clear hb hbox hg) | ((with_reducible refine gate_dst (N := 2) rfl ?_); refine bxe (N := 2) (cs := #[.int .i16 0, .int .i8 0]) (t := 103) ?_; intro gb203 hg w3 hbox hb; have BK203 := am (hbox); have GW203 := am (gN hg (below_size (be HB))); have GE203 := am (gN hg (below_size (be HB))); have NB202_203 := nL BK202 hg; have NB203_202 := nR BK202 hg; replace BK202 := bB BK202 hb; replace HB := am (below_step (be HB) hb); clear hb hbox hg) | ((with_reducible refine gate_dst (N := 3) rfl ?_); refine bxe (N := 3) (cs := #[.int .i16 0, .int .i8 0]) (t := 103) ?_; intro gb204 hg w4 hbox hb; have BK204 := am (hbox); have GW204 := am (gN hg (below_size (be HB))); have GE204 := am (gN hg (below_size (be HB))); have NB202_204 := nL BK202 hg; have NB204_202 := nR BK202 hg; have NB203_204 := nL BK203 hg; have NB204_203 := nR BK203 hg; replace BK202 := bB BK202 hb; replace BK203 := bB BK203 hb; replace HB := am (below_step (be HB) hb); clear hb hbox hg; have hnb5 := NB202_203.out; have hnc5 := NB203_202.out; have hnb6 := NB202_204.out; have hnc6 := NB204_202.out; obtain ⟨hcz7_0, hcz7_1, hfz7_0, hfz7_1⟩ := bx2 BK202; have hnb8 := NB204_203.out; have hnc8 := NB203_204.out; obtain ⟨hcz9_0, hcz9_1, hfz9_0, hfz9_1⟩ := bx2 BK204; obtain ⟨hcz10_0, hcz10_1, hfz10_0, hfz10_1⟩ := bx2 BK203))
 refine bodyPost_ret (results_cell_row rfl _ _ gb203 103 #[.int .i16 a0_0, .int .i8 a0_1] (0, 0) _ rfl (by (with_reducible repeat (first | refine blk_drewN ?_ _ | refine blk_drew ?_ | refine blk_alloc ?_ _)); refine blk_put (cs := #[.int .i16 a0_0, .int .i8 0]) ?_ 1 _ rfl; (with_reducible repeat (first | refine blk_drewN ?_ _ | refine blk_drew ?_ | refine blk_alloc ?_ _)); refine blk_put (cs := #[.int .i16 0, .int .i8 0]) ?_ 0 _ rfl; (with_reducible repeat (first | refine blk_drewN ?_ _ | refine blk_drew ?_ | refine blk_alloc ?_ _)); refine blk_far ?_ NB203_204.out _; (with_reducible repeat (first | refine blk_drewN ?_ _ | refine blk_drew ?_ | refine blk_alloc ?_ _)); refine blk_far ?_ NB203_204.out _; exact kb BK203) Try.underlying103 rfl (by kernel_rfl)) rfl ?_
 exact ⟨by first | rfl | (simp [errW_none, errW_some] <;> rfl) | (simp [*, errW_none, errW_some] <;> rfl), be HB⟩

/-! ### laws_toWaterS: function 84 -/
def laws_toWaterS.l0 : Nat → List (S145) → List (S103) → Int → Option ((List (S103)))
 | 0, _, _, _ => none
 | k + 1, x0, x3, x4 => if x4 < (x0.length : Int) then (if 0 ≤ x4 then ((laws_toWater.f ((rd_T145 x0 x4).f0) ((rd_T145 x0 x4).f1)).bind fun bt209 => (if x4 < (x3.length : Int) then (laws_toWaterS.l0 k x0 (x3.set (x4 : Int).toNat (⟨bt209.1, bt209.2⟩ : S103)) (wrap64 (x4 + 1))) else (none))) else (none)) else (some x3)
def laws_toWaterS.f (k : Nat) (l0 : List (S145)) : Option ((List (S103))) := if 0 ≤ (l0.length : Int) then (if ((l0.length : Int) : Int).toNat ≤ 70368744177664 then (laws_toWaterS.l0 k l0 (List.replicate ((l0.length : Int) : Int).toNat z103) 0) else (none)) else (none)
set_option maxHeartbeats 8000000 in
set_option maxRecDepth 100000 in
theorem laws_toWaterS.calls (k : Nat) (A0 : Option Addr) (c0 : Nat) (l0 : List (S145)) (r : List (S103)) (w : World) (hr0 : Kd.C k145 w A0 l0.length l0) (hc0 : l0.length ≤ c0) (h : laws_toWaterS.f k l0 = some r) :
  Calls Try.prog 84 #[.slice A0 l0.length c0] w fun e w' => ∃ v0_ : Value, e = .returned (v0_) ∧ Kd.R k103 103 w' w.heap.size (fun _ => True) v0_ r ∧ Below w.heap.size w w' := by
 have hu145 := Try.underlying145
 have hu103 := Try.underlying103
 have HR0 := am hr0
 have HC0 := am hc0
 clear hr0 hc0
 have HB := am (Below.refl w.heap.size w)
 have H : (if 0 ≤ (l0.length : Int) then (if ((l0.length : Int) : Int).toNat ≤ 70368744177664 then (laws_toWaterS.l0 k l0 (List.replicate ((l0.length : Int) : Int).toNat z103) 0) else (none)) else (none)) = some r := h
 clear h
 by_cases c2 : 0 ≤ (l0.length : Int)
 ·rw [if_pos c2] at H
  have c2b0 := eq_true c2
  have c2b1 : decide (0 ≤ (l0.length : Int)) = true := decide_eq_true c2
  clear c2
  by_cases c3 : ((l0.length : Int) : Int).toNat ≤ 70368744177664
  ·rw [if_pos c3] at H
   have c3b0 := eq_true c3
   have c3b1 : decide (((l0.length : Int) : Int).toNat ≤ 70368744177664) = true := decide_eq_true c3
   clear c3
   obtain ⟨y205, hy205⟩ : ∃ y_ : List (S103), y_ = (List.replicate ((l0.length : Int) : Int).toNat z103) := ⟨_, rfl⟩
   replace H : (laws_toWaterS.l0 k l0 y205 0) = some r := by first | (rw [hy205]; with_reducible exact H) | (have H2_ := (Option.bind_some _ _).symm.trans H; rw [hy205]; with_reducible exact H2_) | (have H2_ := (Option.bind_some _ _).symm.trans H; with_reducible exact H2_) | with_reducible exact H | (rw [hy205]; exact H) | exact H
   have Ny205 := am hy205
   clear hy205
   have H' := am H
   clear H
   go_enter Try.func84, Try.ntmps84
   go_wp2_with (first | ((with_reducible refine gate_dst (N := 7) rfl ?_); refine Kd.R_make k103 _ 103 rfl (N := 7) rfl 89 _ _ rfl (l0.length : Int) rfl rfl Try.underlying89 (.agg #[(.int .i16 0), (.int .i8 0)]) 4 info103 rfl (by decide) (by omega) z103 (ok := fun _ => True) (okp := fun _ => True) (k103_mkM _ _ _ z103 ) (fun _ hk => hk) trivial (of_decide_eq_true (by first | (with_reducible assumption) | assumption)) (Nat.le_trans (Nat.mul_le_mul_right _ (of_decide_eq_true (by first | (with_reducible assumption) | assumption) : (l0.length : Int).toNat ≤ 70368744177664)) (by omega)) (Below.refl _ _) (Nat.le_refl _) ?_; intro v206 w4 ho5 hb hg_ hnew_; clear hg_ hnew_; (first | rw [← Ny205.out] at ho5 | (simp only [Int.reduceToNat] at ho5; rw [← Ny205.out] at ho5)); have HO207 := am (Kd.R_lower ho5 (below_size (be HB))); replace HB := am (below_step (be HB) hb); clear hb ho5))
   go_loopg [4] k (fun kq v4 w' => ∃ (x3_1 : List (S103)) (x4_1 : Int), v4 = .int .i64 x4_1 ∧ Aside0 (laws_toWaterS.l0 kq l0 x3_1 x4_1 = some r) ∧ Aside0 (kq ≤ k) ∧ Aside0 (Kd.R k103 103 w' w.heap.size (fun _ => True) v206 x3_1) ∧ Aside0 (Below w.heap.size w w'))
   case atStart => exact ⟨(y205), (0), vv, H', ⟨Nat.le_refl _⟩, ⟨kr HO207⟩, ⟨be HB⟩⟩
   case round =>
    clear H'
    try clear c2
    try clear c2b0
    try clear c2b1
    try clear p2
    try clear c3
    try clear c3b0
    try clear c3b1
    obtain ⟨x3_1, x4_1, rfl, HA, HK1, HO_3, HB⟩ := hrel
    cases gk with
    | zero => exact absurd HA.out (by simp [laws_toWaterS.l0])
    | succ k1 =>
     have H := HA.out
     clear HA
     simp only [laws_toWaterS.l0] at H
     by_cases c6 : x4_1 < (l0.length : Int)
     ·rw [if_pos c6] at H
      have c6b0 : decide (x4_1 < (l0.length : Int)) = true := decide_eq_true c6
      clear c6
      by_cases c7 : 0 ≤ x4_1
      ·rw [if_pos c7] at H
       have c7b0 : decide (0 ≤ x4_1) = true := decide_eq_true c7
       have c7b1 : 0 ≤ x4_1 := c7
       clear c7
       replace H := Option.bind_eq_some_iff.mp H
       obtain ⟨⟨t209, t210⟩, A80, H⟩ := H
       try dsimp only at H
       have A8 := am A80
       clear A80
       by_cases c9 : x4_1 < (x3_1.length : Int)
       ·rw [if_pos c9] at H
        have c9b0 : decide (x4_1 < (x3_1.length : Int)) = true := decide_eq_true c9
        clear c9
        obtain ⟨y211, hy211⟩ : ∃ y_ : List (S103), y_ = (x3_1.set (x4_1 : Int).toNat (⟨t209, t210⟩ : S103)) := ⟨_, rfl⟩
        replace H : (laws_toWaterS.l0 k1 l0 y211 (wrap64 (x4_1 + 1))) = some r := by first | (rw [hy211]; with_reducible exact H) | (have H2_ := (Option.bind_some _ _).symm.trans H; rw [hy211]; with_reducible exact H2_) | (have H2_ := (Option.bind_some _ _).symm.trans H; with_reducible exact H2_) | with_reducible exact H | (rw [hy211]; exact H) | exact H
        have Ny211 := am hy211
        clear hy211
        have H' := am H
        clear H
        have p208 : 0 ≤ (x4_1 : Int) := of_decide_eq_true (by first | (with_reducible assumption) | assumption)
        have q208 : x4_1 < (l0.length : Int) := of_decide_eq_true (by first | (with_reducible assumption) | assumption)
        obtain ⟨ad208, e208, hx208_0, hx208_1⟩ := at_T145 HR0.out x4_1 p208 q208
        cases e208
        replace hx208_0 := (HB.out.cell (World.block_lt_of_cell? w _ hx208_0)).trans hx208_0
        replace hx208_1 := (HB.out.cell (World.block_lt_of_cell? w _ hx208_1)).trans hx208_1
        replace p208 := eq_true p208
        replace q208 := eq_true q208
        go_wp2_with (first | ((with_reducible refine gate_callee (f := 147) rfl ?_); refine gL (some 20) Try.func147 #[.agg #[.int .i16 ((rd_T145 l0 x4_1).f0), .int .i8 ((rd_T145 l0 x4_1).f1)]] ?_; (with_reducible refine (laws_toWater.calls ((rd_T145 l0 x4_1).f0) ((rd_T145 l0 x4_1).f1) t209 t210 _ A8.out).mono ?_); rintro e w11 ⟨rfl, hb⟩; refine ⟨_, rfl, ?_⟩; replace HO_3 := am (Kd.R_below (kr HO_3) hb); replace HB := am (below_step (be HB) hb); (try clear hb); (try clear hb2); (try clear hk); (try clear hi); have p10 : 0 ≤ (x4_1 : Int) := of_decide_eq_true (by first | (with_reducible assumption) | assumption); have q10 : (x4_1 : Int) < ((x3_1.length : Int) : Int) := of_decide_eq_true (by first | (with_reducible assumption) | assumption); obtain ⟨go10, co10, eo10, gb10, gl10, cl10, HG10⟩ := Kd.R_form HO_3.out (by omega); (first | cases eo10 | (injection eo10 with ea_ en_ ec_; (first | subst ea_ | (injection ea_ with ea_; subst ea_)); subst ec_; clear en_)); have GB10 := am gb10; have GG10 := am HG10; clear gb10 gl10 HG10; obtain ⟨ce10, hcl10, hM10, hcc10, hfr10⟩ := Kd.R_elem HO_3.out z103 (x4_1 : Int) p10 q10; obtain rfl := k103_openM hM10; have hx10_0 : w11.cell? ⟨go10, (x4_1 : Int).toNat * 2, none⟩ = some (.int .i16 ((rd_T103 x3_1 x4_1).f0)) := hcc10 0 _ rfl; have hx10_1 : w11.cell? ⟨go10, (x4_1 : Int).toNat * 2 + 1, none⟩ = some (.int .i8 ((rd_T103 x3_1 x4_1).f1)) := hcc10 1 _ rfl; have hf10_0 : w11.frozen? ⟨go10, (x4_1 : Int).toNat * 2, none⟩ = false := hfr10 0; have hf10_1 : w11.frozen? ⟨go10, (x4_1 : Int).toNat * 2 + 1, none⟩ = false := hfr10 1; clear hcl10 hcc10 hfr10 hM10; replace p10 := eq_true p10; replace q10 := eq_true q10; have HX12 := am (show Kd.R k103 103 w11 w.heap.size (fun _ => True) (.slice (some ⟨go10, 0, none⟩) x3_1.length co10) x3_1 from (kr HO_3)); obtain ⟨ce12, hcl12, hM12, hcc12, hfr12⟩ := Kd.R_elem HX12.out z103 (x4_1 : Int) (of_decide_eq_true (by first | (with_reducible assumption) | assumption)) (by have h_ : (x4_1 : Int) < ((x3_1.length : Int) : Int) := of_decide_eq_true (by first | (with_reducible assumption) | assumption); first | exact h_ | (have e_ := (Kd.R_reads' HO_3.out).1; omega) | simpa using h_); obtain rfl := k103_openM hM12; have HP12 := Kd.R_seg HX12.out (x4_1 : Int) (of_decide_eq_true (by first | (with_reducible assumption) | assumption)) (by have h_ : (x4_1 : Int) < ((x3_1.length : Int) : Int) := of_decide_eq_true (by first | (with_reducible assumption) | assumption); first | exact h_ | (have e_ := (Kd.R_reads' HO_3.out).1; omega) | simpa using h_) (seg := [.int .i16 t209, .int .i8 t210]) (j := 0) hcl12 hcc12 (show 2 ≤ 2 from by decide) (x' := (⟨t209, t210⟩ : S103)) (k103_mkM _ _ _ (⟨t209, t210⟩ : S103) ) (fun _ hk => hk); have hx12_0 := hcc12 0 _ rfl; (try simp only [show (k103).sz = 2 from rfl, Nat.mul_one, Nat.add_zero] at hx12_0); have hf12_0 := hfr12 0; (try simp only [show (k103).sz = 2 from rfl, Nat.mul_one, Nat.add_zero] at hf12_0); have hx12_1 := hcc12 1 _ rfl; (try simp only [show (k103).sz = 2 from rfl, Nat.mul_one, Nat.add_zero] at hx12_1); have hf12_1 := hfr12 1; (try simp only [show (k103).sz = 2 from rfl, Nat.mul_one, Nat.add_zero] at hf12_1); clear hcl12 hcc12 hfr12 hM12) | ((with_reducible refine gate_store (t := 103) (p := 21) rfl ?_); refine store_event (t := 103) (p := 21) (v := ?vo_w13) (w1 := ((w11.setCell ⟨go10, (x4_1 : Int).toNat * 2, none⟩ (.int .i16 t209)).setCell ⟨go10, (x4_1 : Int).toNat * 2 + 1, none⟩ (.int .i8 t210))) ?hg ?ho ?hn ?hr ?_; (case ho => rfl); (case hg => rfl); (case hn => rfl); (case hr => first | (go_simp; done) | (go_simp; rfl)); intro w13 hw; have hg : w11.grownBy w13 (some go10) := (by rw [hw]; exact HP12.2); have hp_ : Kd.R k103 103 w13 w.heap.size (fun _ => True) (.slice (some ⟨go10, 0, none⟩) x3_1.length co10) y211 := (by rw [hw, Ny211.out]; exact HP12.1); clear HP12; replace HO_3 := am (hp_); replace HB := am ((by rw [hw]; exact below_set (below_set (HB.out) GB10.out) GB10.out : Below w.heap.size w w13)); clear hg hw hp_))
        go_roundg k1
        case measure => have := HK1.out; omega
        case rel => exact ⟨(y211), (wrap64 (x4_1 + 1)), vv, H', ⟨by have := HK1.out; omega⟩, ⟨kr HO_3⟩, ⟨be HB⟩⟩
       ·rw [if_neg c9] at H
        exact absurd H (by simp)
      ·rw [if_neg c7] at H
       exact absurd H (by simp)
     ·rw [if_neg c6] at H
      have c6b0 : decide (x4_1 < (l0.length : Int)) = false := decide_eq_false c6
      clear c6
      obtain rfl := Option.some.inj H
      go_wp2
      go_ret
      exact ⟨_, by first | rfl | (simp [errW_none, errW_some] <;> rfl) | (simp [*, errW_none, errW_some] <;> rfl), by (with_reducible repeat (first | apply Kd.R_alloc | apply Kd.R_drewN | apply Kd.R_drew)); exact HO_3.out, be HB⟩
  ·rw [if_neg c3] at H
   exact absurd H (by simp)
 ·rw [if_neg c2] at H
  exact absurd H (by simp)

/-! ### impl_ValidBay: function 27 -/
def impl_ValidBay.f (a0_0 : Int) (a0_1 : Int) (a0_2 : (Nat → Int)) : Option (Bool) := some (decide (Go.Proofs.Ytcollbifdfhfoaa.BayIn.okBay a0_0 a0_1 a0_2))
theorem impl_ValidBay.calls (a0_0 : Int) (a0_1 : Int) (a0_2 : (Nat → Int)) (r : Bool) (w : World) (h : impl_ValidBay.f a0_0 a0_1 a0_2 = some r) :
  Calls Try.prog 27 #[.agg (csBay a0_0 a0_1 a0_2)] w fun e w' => e = .returned (.bool r) ∧ Below w.heap.size w w' := by
 obtain rfl := Option.some.inj h
 exact Go.Proofs.Ytcollbifdfhfoaa.BayIn.validBay_calls _ _ _ w

/-! ### impl_depth: function 112 -/
def impl_depth.f (a0_0 : Int) (a0_1 : Int) (a0_2 : (Nat → Int)) (a1_0 : Int) (a1_1 : Int) : Option (Int) := if 0 ≤ a1_1 then (if a1_1 < 16 then (if 0 ≤ a1_0 then (if a1_0 < 16 then (some (wrap64 (a0_2 (16 * (a1_1 : Int).toNat + (a1_0 : Int).toNat)))) else (none)) else (none)) else (none)) else (none)
set_option maxHeartbeats 8000000 in
set_option maxRecDepth 100000 in
theorem impl_depth.calls (a0_0 : Int) (a0_1 : Int) (a0_2 : (Nat → Int)) (a1_0 : Int) (a1_1 : Int) (r : Int) (w : World) (h : impl_depth.f a0_0 a0_1 a0_2 a1_0 a1_1 = some r) :
  Calls Try.prog 112 #[.agg (csBay a0_0 a0_1 a0_2), .agg #[.int .i8 a1_0, .int .i8 a1_1]] w fun e w' => e = .returned (.int .i64 r) ∧ Below w.heap.size w w' := by
 have hu28 := Try.underlying28
 have hu36 := Try.underlying36
 have HB := am (Below.refl w.heap.size w)
 have H : (if 0 ≤ a1_1 then (if a1_1 < 16 then (if 0 ≤ a1_0 then (if a1_0 < 16 then (some (wrap64 (a0_2 (16 * (a1_1 : Int).toNat + (a1_0 : Int).toNat)))) else (none)) else (none)) else (none)) else (none)) = some r := h
 clear h
 by_cases c3 : 0 ≤ a1_1
 ·rw [if_pos c3] at H
  have c3b0 : decide (0 ≤ a1_1) = true := decide_eq_true c3
  have c3b1 : 0 ≤ a1_1 := c3
  clear c3
  by_cases c4 : a1_1 < 16
  ·rw [if_pos c4] at H
   have c4b0 : decide (a1_1 < 16) = true := decide_eq_true c4
   have c4b1 : a1_1 < 16 := c4
   clear c4
   by_cases c5 : 0 ≤ a1_0
   ·rw [if_pos c5] at H
    have c5b0 : decide (0 ≤ a1_0) = true := decide_eq_true c5
    have c5b1 : 0 ≤ a1_0 := c5
    clear c5
    by_cases c6 : a1_0 < 16
    ·rw [if_pos c6] at H
     have c6b0 : decide (a1_0 < 16) = true := decide_eq_true c6
     have c6b1 : a1_0 < 16 := c6
     clear c6
     obtain rfl := Option.some.inj H
     go_enter Try.func112, Try.ntmps112
     go_wp2_with (first | ((with_reducible refine gate_dst (N := 2) rfl ?_); refine bxe (N := 2) (cs := (csBay a0_0 a0_1 a0_2)) (t := 28) ?_; intro gb212 hg w7 hbox hb; have BK212 := am (hbox); have GW212 := am (gN hg (below_size (be HB))); have GE212 := am (gN hg (below_size (be HB))); replace HB := am (below_step (be HB) hb); clear hb hbox hg) | ((with_reducible refine gate_dst (N := 3) rfl ?_); refine bxe (N := 3) (cs := #[.int .i8 a1_0, .int .i8 a1_1]) (t := 36) ?_; intro gb213 hg w8 hbox hb; have BK213 := am (hbox); have GW213 := am (gN hg (below_size (be HB))); have GE213 := am (gN hg (below_size (be HB))); have NB212_213 := nL BK212 hg; have NB213_212 := nR BK212 hg; replace BK212 := bB BK212 hb; replace HB := am (below_step (be HB) hb); clear hb hbox hg; have hnb9 := NB213_212.out; have hnc9 := NB212_213.out; obtain ⟨hcz10_0, hcz10_1, hfz10_0, hfz10_1⟩ := bx2 BK213; have hcz11_0 : w8.cell? ⟨gb212, 0, none⟩ = some (.int .i8 a0_0) := (blk_cell BK212.out 0).trans rfl; have hcz11_1 : w8.cell? ⟨gb212, 1, none⟩ = some (.int .i8 a0_1) := (blk_cell BK212.out 1).trans rfl; have hwz11 := lv28_at BK212.out; have haz11 := at_cells BK212.out; have hyz11 := BayAt28_of BK212.out; have hvz11 := lvv_of BK212.out; have hfz11_0 := blk_frozen BK212.out 0; have hfz11_1 := blk_frozen BK212.out 1; have hfz11_2 := blk_frozen BK212.out 2))
     repeat (go_quiet (first | ((with_reducible refine gate_dst (N := 2) rfl ?_); refine bxe (N := 2) (cs := (csBay a0_0 a0_1 a0_2)) (t := 28) ?_; intro gb212 hg w7 hbox hb; have BK212 := am (hbox); have GW212 := am (gN hg (below_size (be HB))); have GE212 := am (gN hg (below_size (be HB))); replace HB := am (below_step (be HB) hb); clear hb hbox hg) | ((with_reducible refine gate_dst (N := 3) rfl ?_); refine bxe (N := 3) (cs := #[.int .i8 a1_0, .int .i8 a1_1]) (t := 36) ?_; intro gb213 hg w8 hbox hb; have BK213 := am (hbox); have GW213 := am (gN hg (below_size (be HB))); have GE213 := am (gN hg (below_size (be HB))); have NB212_213 := nL BK212 hg; have NB213_212 := nR BK212 hg; replace BK212 := bB BK212 hb; replace HB := am (below_step (be HB) hb); clear hb hbox hg; have hnb9 := NB213_212.out; have hnc9 := NB212_213.out; obtain ⟨hcz10_0, hcz10_1, hfz10_0, hfz10_1⟩ := bx2 BK213; have hcz11_0 : w8.cell? ⟨gb212, 0, none⟩ = some (.int .i8 a0_0) := (blk_cell BK212.out 0).trans rfl; have hcz11_1 : w8.cell? ⟨gb212, 1, none⟩ = some (.int .i8 a0_1) := (blk_cell BK212.out 1).trans rfl; have hwz11 := lv28_at BK212.out; have haz11 := at_cells BK212.out; have hyz11 := BayAt28_of BK212.out; have hvz11 := lvv_of BK212.out; have hfz11_0 := blk_frozen BK212.out 0; have hfz11_1 := blk_frozen BK212.out 1; have hfz11_2 := blk_frozen BK212.out 2)); try go_wp2_with (first | ((with_reducible refine gate_dst (N := 2) rfl ?_); refine bxe (N := 2) (cs := (csBay a0_0 a0_1 a0_2)) (t := 28) ?_; intro gb212 hg w7 hbox hb; have BK212 := am (hbox); have GW212 := am (gN hg (below_size (be HB))); have GE212 := am (gN hg (below_size (be HB))); replace HB := am (below_step (be HB) hb); clear hb hbox hg) | ((with_reducible refine gate_dst (N := 3) rfl ?_); refine bxe (N := 3) (cs := #[.int .i8 a1_0, .int .i8 a1_1]) (t := 36) ?_; intro gb213 hg w8 hbox hb; have BK213 := am (hbox); have GW213 := am (gN hg (below_size (be HB))); have GE213 := am (gN hg (below_size (be HB))); have NB212_213 := nL BK212 hg; have NB213_212 := nR BK212 hg; replace BK212 := bB BK212 hb; replace HB := am (below_step (be HB) hb); clear hb hbox hg; have hnb9 := NB213_212.out; have hnc9 := NB212_213.out; obtain ⟨hcz10_0, hcz10_1, hfz10_0, hfz10_1⟩ := bx2 BK213; have hcz11_0 : w8.cell? ⟨gb212, 0, none⟩ = some (.int .i8 a0_0) := (blk_cell BK212.out 0).trans rfl; have hcz11_1 : w8.cell? ⟨gb212, 1, none⟩ = some (.int .i8 a0_1) := (blk_cell BK212.out 1).trans rfl; have hwz11 := lv28_at BK212.out; have haz11 := at_cells BK212.out; have hyz11 := BayAt28_of BK212.out; have hvz11 := lvv_of BK212.out; have hfz11_0 := blk_frozen BK212.out 0; have hfz11_1 := blk_frozen BK212.out 1; have hfz11_2 := blk_frozen BK212.out 2)))
     go_ret
     exact ⟨by first | rfl | (simp [errW_none, errW_some] <;> rfl) | (simp [*, errW_none, errW_some] <;> rfl), be HB⟩
    ·rw [if_neg c6] at H
     exact absurd H (by simp)
   ·rw [if_neg c5] at H
    exact absurd H (by simp)
  ·rw [if_neg c4] at H
   exact absurd H (by simp)
 ·rw [if_neg c3] at H
  exact absurd H (by simp)

/-! ### impl_isPlace: function 178 -/
def impl_isPlace.f (a0_0 : Int) (a0_1 : Int) (a0_2 : (Nat → Int)) (a1_0 : Int) (a1_1 : Int) : Option (Bool) := if a1_0 ≥ 0 then (if a1_0 < a0_0 then (if a1_1 ≥ 0 then (some (decide (a1_1 < a0_1))) else (some false)) else (some false)) else (some false)
set_option maxHeartbeats 8000000 in
set_option maxRecDepth 100000 in
theorem impl_isPlace.calls (a0_0 : Int) (a0_1 : Int) (a0_2 : (Nat → Int)) (a1_0 : Int) (a1_1 : Int) (r : Bool) (w : World) (h : impl_isPlace.f a0_0 a0_1 a0_2 a1_0 a1_1 = some r) :
  Calls Try.prog 178 #[.agg (csBay a0_0 a0_1 a0_2), .agg #[.int .i8 a1_0, .int .i8 a1_1]] w fun e w' => e = .returned (.bool r) ∧ Below w.heap.size w w' := by
 have hu28 := Try.underlying28
 have hu36 := Try.underlying36
 have HB := am (Below.refl w.heap.size w)
 have H : (if a1_0 ≥ 0 then (if a1_0 < a0_0 then (if a1_1 ≥ 0 then (some (decide (a1_1 < a0_1))) else (some false)) else (some false)) else (some false)) = some r := h
 clear h
 by_cases c3 : a1_0 ≥ 0
 ·rw [if_pos c3] at H
  have c3b0 : decide (0 ≤ a1_0) = true := decide_eq_true c3
  have c3b1 : 0 ≤ a1_0 := c3
  clear c3
  by_cases c4 : a1_0 < a0_0
  ·rw [if_pos c4] at H
   have c4b0 : decide (a1_0 < a0_0) = true := decide_eq_true c4
   clear c4
   by_cases c5 : a1_1 ≥ 0
   ·rw [if_pos c5] at H
    have c5b0 : decide (0 ≤ a1_1) = true := decide_eq_true c5
    have c5b1 : 0 ≤ a1_1 := c5
    clear c5
    obtain rfl := Option.some.inj H
    go_enter Try.func178, Try.ntmps178
    go_wp2_with (first | ((with_reducible refine gate_dst (N := 2) rfl ?_); refine bxe (N := 2) (cs := (csBay a0_0 a0_1 a0_2)) (t := 28) ?_; intro gb214 hg w6 hbox hb; have BK214 := am (hbox); have GW214 := am (gN hg (below_size (be HB))); have GE214 := am (gN hg (below_size (be HB))); replace HB := am (below_step (be HB) hb); clear hb hbox hg) | ((with_reducible refine gate_dst (N := 3) rfl ?_); refine bxe (N := 3) (cs := #[.int .i8 a1_0, .int .i8 a1_1]) (t := 36) ?_; intro gb215 hg w7 hbox hb; have BK215 := am (hbox); have GW215 := am (gN hg (below_size (be HB))); have GE215 := am (gN hg (below_size (be HB))); have NB214_215 := nL BK214 hg; have NB215_214 := nR BK214 hg; replace BK214 := bB BK214 hb; replace HB := am (below_step (be HB) hb); clear hb hbox hg; have hnb8 := NB215_214.out; have hnc8 := NB214_215.out; obtain ⟨hcz9_0, hcz9_1, hfz9_0, hfz9_1⟩ := bx2 BK215; have hcz10_0 : w7.cell? ⟨gb214, 0, none⟩ = some (.int .i8 a0_0) := (blk_cell BK214.out 0).trans rfl; have hcz10_1 : w7.cell? ⟨gb214, 1, none⟩ = some (.int .i8 a0_1) := (blk_cell BK214.out 1).trans rfl; have hwz10 := lv28_at BK214.out; have haz10 := at_cells BK214.out; have hyz10 := BayAt28_of BK214.out; have hvz10 := lvv_of BK214.out; have hfz10_0 := blk_frozen BK214.out 0; have hfz10_1 := blk_frozen BK214.out 1; have hfz10_2 := blk_frozen BK214.out 2))
    go_ret
    exact ⟨by first | rfl | (simp [errW_none, errW_some] <;> rfl) | (simp [*, errW_none, errW_some] <;> rfl), be HB⟩
   ·rw [if_neg c5] at H
    have c5b0 : decide (0 ≤ a1_1) = false := decide_eq_false c5
    clear c5
    obtain rfl := Option.some.inj H
    go_enter Try.func178, Try.ntmps178
    go_wp2_with (first | ((with_reducible refine gate_dst (N := 2) rfl ?_); refine bxe (N := 2) (cs := (csBay a0_0 a0_1 a0_2)) (t := 28) ?_; intro gb214 hg w11 hbox hb; have BK214 := am (hbox); have GW214 := am (gN hg (below_size (be HB))); have GE214 := am (gN hg (below_size (be HB))); replace HB := am (below_step (be HB) hb); clear hb hbox hg) | ((with_reducible refine gate_dst (N := 3) rfl ?_); refine bxe (N := 3) (cs := #[.int .i8 a1_0, .int .i8 a1_1]) (t := 36) ?_; intro gb215 hg w12 hbox hb; have BK215 := am (hbox); have GW215 := am (gN hg (below_size (be HB))); have GE215 := am (gN hg (below_size (be HB))); have NB214_215 := nL BK214 hg; have NB215_214 := nR BK214 hg; replace BK214 := bB BK214 hb; replace HB := am (below_step (be HB) hb); clear hb hbox hg; have hnb13 := NB215_214.out; have hnc13 := NB214_215.out; obtain ⟨hcz14_0, hcz14_1, hfz14_0, hfz14_1⟩ := bx2 BK215; have hcz15_0 : w12.cell? ⟨gb214, 0, none⟩ = some (.int .i8 a0_0) := (blk_cell BK214.out 0).trans rfl; have hcz15_1 : w12.cell? ⟨gb214, 1, none⟩ = some (.int .i8 a0_1) := (blk_cell BK214.out 1).trans rfl; have hwz15 := lv28_at BK214.out; have haz15 := at_cells BK214.out; have hyz15 := BayAt28_of BK214.out; have hvz15 := lvv_of BK214.out; have hfz15_0 := blk_frozen BK214.out 0; have hfz15_1 := blk_frozen BK214.out 1; have hfz15_2 := blk_frozen BK214.out 2))
    go_ret
    exact ⟨by first | rfl | (simp [errW_none, errW_some] <;> rfl) | (simp [*, errW_none, errW_some] <;> rfl), be HB⟩
  ·rw [if_neg c4] at H
   have c4b0 : decide (a1_0 < a0_0) = false := decide_eq_false c4
   clear c4
   obtain rfl := Option.some.inj H
   go_enter Try.func178, Try.ntmps178
   go_wp2_with (first | ((with_reducible refine gate_dst (N := 2) rfl ?_); refine bxe (N := 2) (cs := (csBay a0_0 a0_1 a0_2)) (t := 28) ?_; intro gb214 hg w16 hbox hb; have BK214 := am (hbox); have GW214 := am (gN hg (below_size (be HB))); have GE214 := am (gN hg (below_size (be HB))); replace HB := am (below_step (be HB) hb); clear hb hbox hg) | ((with_reducible refine gate_dst (N := 3) rfl ?_); refine bxe (N := 3) (cs := #[.int .i8 a1_0, .int .i8 a1_1]) (t := 36) ?_; intro gb215 hg w17 hbox hb; have BK215 := am (hbox); have GW215 := am (gN hg (below_size (be HB))); have GE215 := am (gN hg (below_size (be HB))); have NB214_215 := nL BK214 hg; have NB215_214 := nR BK214 hg; replace BK214 := bB BK214 hb; replace HB := am (below_step (be HB) hb); clear hb hbox hg; have hnb18 := NB215_214.out; have hnc18 := NB214_215.out; obtain ⟨hcz19_0, hcz19_1, hfz19_0, hfz19_1⟩ := bx2 BK215; have hcz20_0 : w17.cell? ⟨gb214, 0, none⟩ = some (.int .i8 a0_0) := (blk_cell BK214.out 0).trans rfl; have hcz20_1 : w17.cell? ⟨gb214, 1, none⟩ = some (.int .i8 a0_1) := (blk_cell BK214.out 1).trans rfl; have hwz20 := lv28_at BK214.out; have haz20 := at_cells BK214.out; have hyz20 := BayAt28_of BK214.out; have hvz20 := lvv_of BK214.out; have hfz20_0 := blk_frozen BK214.out 0; have hfz20_1 := blk_frozen BK214.out 1; have hfz20_2 := blk_frozen BK214.out 2))
   go_ret
   exact ⟨by first | rfl | (simp [errW_none, errW_some] <;> rfl) | (simp [*, errW_none, errW_some] <;> rfl), be HB⟩
 ·rw [if_neg c3] at H
  have c3b0 : decide (0 ≤ a1_0) = false := decide_eq_false c3
  clear c3
  obtain rfl := Option.some.inj H
  go_enter Try.func178, Try.ntmps178
  go_wp2_with (first | ((with_reducible refine gate_dst (N := 2) rfl ?_); refine bxe (N := 2) (cs := (csBay a0_0 a0_1 a0_2)) (t := 28) ?_; intro gb214 hg w21 hbox hb; have BK214 := am (hbox); have GW214 := am (gN hg (below_size (be HB))); have GE214 := am (gN hg (below_size (be HB))); replace HB := am (below_step (be HB) hb); clear hb hbox hg) | ((with_reducible refine gate_dst (N := 3) rfl ?_); refine bxe (N := 3) (cs := #[.int .i8 a1_0, .int .i8 a1_1]) (t := 36) ?_; intro gb215 hg w22 hbox hb; have BK215 := am (hbox); have GW215 := am (gN hg (below_size (be HB))); have GE215 := am (gN hg (below_size (be HB))); have NB214_215 := nL BK214 hg; have NB215_214 := nR BK214 hg; replace BK214 := bB BK214 hb; replace HB := am (below_step (be HB) hb); clear hb hbox hg; have hnb23 := NB215_214.out; have hnc23 := NB214_215.out; obtain ⟨hcz24_0, hcz24_1, hfz24_0, hfz24_1⟩ := bx2 BK215))
  go_ret
  exact ⟨by first | rfl | (simp [errW_none, errW_some] <;> rfl) | (simp [*, errW_none, errW_some] <;> rfl), be HB⟩

/-! ### impl_isWater: function 167 -/
def impl_isWater.f (a0_0 : Int) (a0_1 : Int) (a0_2 : (Nat → Int)) (a1_0 : Int) (a1_1 : Int) : Option (Bool) := (impl_isPlace.f a0_0 a0_1 a0_2 a1_0 a1_1).bind fun t218 => (if t218 = true then ((impl_depth.f a0_0 a0_1 a0_2 a1_0 a1_1).bind fun t219 => (some (decide (t219 > 0)))) else (some false))
set_option maxHeartbeats 8000000 in
set_option maxRecDepth 100000 in
theorem impl_isWater.calls (a0_0 : Int) (a0_1 : Int) (a0_2 : (Nat → Int)) (a1_0 : Int) (a1_1 : Int) (r : Bool) (w : World) (h : impl_isWater.f a0_0 a0_1 a0_2 a1_0 a1_1 = some r) :
  Calls Try.prog 167 #[.agg (csBay a0_0 a0_1 a0_2), .agg #[.int .i8 a1_0, .int .i8 a1_1]] w fun e w' => e = .returned (.bool r) ∧ Below w.heap.size w w' := by
 have hu28 := Try.underlying28
 have hu36 := Try.underlying36
 have HB := am (Below.refl w.heap.size w)
 have H : ((impl_isPlace.f a0_0 a0_1 a0_2 a1_0 a1_1).bind fun t218 => (if t218 = true then ((impl_depth.f a0_0 a0_1 a0_2 a1_0 a1_1).bind fun t219 => (some (decide (t219 > 0)))) else (some false))) = some r := h
 clear h
 replace H := Option.bind_eq_some_iff.mp H
 obtain ⟨t218, A30, H⟩ := H
 try dsimp only at H
 have A3 := am A30
 clear A30
 by_cases c4 : t218 = true
 ·subst c4
  rw [if_pos rfl] at H
  replace H := Option.bind_eq_some_iff.mp H
  obtain ⟨t219, A50, H⟩ := H
  try dsimp only at H
  have A5 := am A50
  clear A50
  obtain rfl := Option.some.inj H
  go_enter Try.func167, Try.ntmps167
  go_wp2_with (first | ((with_reducible refine gate_dst (N := 2) rfl ?_); refine bxe (N := 2) (cs := (csBay a0_0 a0_1 a0_2)) (t := 28) ?_; intro gb216 hg w6 hbox hb; have BK216 := am (hbox); have GW216 := am (gN hg (below_size (be HB))); have GE216 := am (gN hg (below_size (be HB))); replace HB := am (below_step (be HB) hb); clear hb hbox hg) | ((with_reducible refine gate_dst (N := 3) rfl ?_); refine bxe (N := 3) (cs := #[.int .i8 a1_0, .int .i8 a1_1]) (t := 36) ?_; intro gb217 hg w7 hbox hb; have BK217 := am (hbox); have GW217 := am (gN hg (below_size (be HB))); have GE217 := am (gN hg (below_size (be HB))); have NB216_217 := nL BK216 hg; have NB217_216 := nR BK216 hg; replace BK216 := bB BK216 hb; replace HB := am (below_step (be HB) hb); clear hb hbox hg; have hnb8 := NB216_217.out; have hnc8 := NB217_216.out; have hcz9_0 : w7.cell? ⟨gb216, 0, none⟩ = some (.int .i8 a0_0) := (blk_cell BK216.out 0).trans rfl; have hcz9_1 : w7.cell? ⟨gb216, 1, none⟩ = some (.int .i8 a0_1) := (blk_cell BK216.out 1).trans rfl; have hwz9 := lv28_at BK216.out; have haz9 := at_cells BK216.out; have hyz9 := BayAt28_of BK216.out; have hvz9 := lvv_of BK216.out; have hfz9_0 := blk_frozen BK216.out 0; have hfz9_1 := blk_frozen BK216.out 1; have hfz9_2 := blk_frozen BK216.out 2; obtain ⟨hcz10_0, hcz10_1, hfz10_0, hfz10_1⟩ := bx2 BK217) | ((with_reducible refine gate_callee (f := 178) rfl ?_); refine gL (some 7) Try.func178 #[.agg (csBay a0_0 a0_1 a0_2), .agg #[.int .i8 a1_0, .int .i8 a1_1]] ?_; (with_reducible refine (impl_isPlace.calls a0_0 a0_1 a0_2 a1_0 a1_1 true _ A3.out).mono ?_); rintro e w11 ⟨rfl, hb⟩; refine ⟨_, rfl, ?_⟩; replace BK216 := bB BK216 hb; replace BK217 := bB BK217 hb; replace HB := am (below_step (be HB) hb); (try clear hb); (try clear hb2); (try clear hk); (try clear hi); have hcz12_0 : w11.cell? ⟨gb216, 0, none⟩ = some (.int .i8 a0_0) := (blk_cell BK216.out 0).trans rfl; have hcz12_1 : w11.cell? ⟨gb216, 1, none⟩ = some (.int .i8 a0_1) := (blk_cell BK216.out 1).trans rfl; have hwz12 := lv28_at BK216.out; have haz12 := at_cells BK216.out; have hyz12 := BayAt28_of BK216.out; have hvz12 := lvv_of BK216.out; have hfz12_0 := blk_frozen BK216.out 0; have hfz12_1 := blk_frozen BK216.out 1; have hfz12_2 := blk_frozen BK216.out 2; obtain ⟨hcz13_0, hcz13_1, hfz13_0, hfz13_1⟩ := bx2 BK217) | (go_at_call 112; (with_reducible refine (impl_depth.calls a0_0 a0_1 a0_2 a1_0 a1_1 t219 _ A5.out).mono ?_); rintro e w14 ⟨rfl, hb⟩; replace BK216 := bB BK216 hb; replace BK217 := bB BK217 hb; replace HB := am (below_step (be HB) hb); (try clear hb); (try clear hb2); (try clear hk); (try clear hi)))
  go_ret
  exact ⟨by first | rfl | (simp [errW_none, errW_some] <;> rfl) | (simp [*, errW_none, errW_some] <;> rfl), be HB⟩
 ·replace c4 := Bool.eq_false_iff.mpr c4
  subst c4
  have H1 : (some false) = some r := by rw [if_neg (show ¬ (false = true) by decide)] at H; exact H
  clear H
  have H := H1
  clear H1
  obtain rfl := Option.some.inj H
  go_enter Try.func167, Try.ntmps167
  go_wp2_with (first | ((with_reducible refine gate_dst (N := 2) rfl ?_); refine bxe (N := 2) (cs := (csBay a0_0 a0_1 a0_2)) (t := 28) ?_; intro gb216 hg w15 hbox hb; have BK216 := am (hbox); have GW216 := am (gN hg (below_size (be HB))); have GE216 := am (gN hg (below_size (be HB))); replace HB := am (below_step (be HB) hb); clear hb hbox hg) | ((with_reducible refine gate_dst (N := 3) rfl ?_); refine bxe (N := 3) (cs := #[.int .i8 a1_0, .int .i8 a1_1]) (t := 36) ?_; intro gb217 hg w16 hbox hb; have BK217 := am (hbox); have GW217 := am (gN hg (below_size (be HB))); have GE217 := am (gN hg (below_size (be HB))); have NB216_217 := nL BK216 hg; have NB217_216 := nR BK216 hg; replace BK216 := bB BK216 hb; replace HB := am (below_step (be HB) hb); clear hb hbox hg; have hnb17 := NB216_217.out; have hnc17 := NB217_216.out; have hcz18_0 : w16.cell? ⟨gb216, 0, none⟩ = some (.int .i8 a0_0) := (blk_cell BK216.out 0).trans rfl; have hcz18_1 : w16.cell? ⟨gb216, 1, none⟩ = some (.int .i8 a0_1) := (blk_cell BK216.out 1).trans rfl; have hwz18 := lv28_at BK216.out; have haz18 := at_cells BK216.out; have hyz18 := BayAt28_of BK216.out; have hvz18 := lvv_of BK216.out; have hfz18_0 := blk_frozen BK216.out 0; have hfz18_1 := blk_frozen BK216.out 1; have hfz18_2 := blk_frozen BK216.out 2; obtain ⟨hcz19_0, hcz19_1, hfz19_0, hfz19_1⟩ := bx2 BK217) | ((with_reducible refine gate_callee (f := 178) rfl ?_); refine gL (some 7) Try.func178 #[.agg (csBay a0_0 a0_1 a0_2), .agg #[.int .i8 a1_0, .int .i8 a1_1]] ?_; (with_reducible refine (impl_isPlace.calls a0_0 a0_1 a0_2 a1_0 a1_1 false _ A3.out).mono ?_); rintro e w20 ⟨rfl, hb⟩; refine ⟨_, rfl, ?_⟩; replace BK216 := bB BK216 hb; replace BK217 := bB BK217 hb; replace HB := am (below_step (be HB) hb); (try clear hb); (try clear hb2); (try clear hk); (try clear hi)))
  go_ret
  exact ⟨by first | rfl | (simp [errW_none, errW_some] <;> rfl) | (simp [*, errW_none, errW_some] <;> rfl), be HB⟩

/-! ### impl_isBoat: function 107 -/
def impl_isBoat.f (a0_0 : Int) (a0_1 : Int) (a0_2 : (Nat → Int)) (a1_0 : Int) (a1_1 : Int) (a1_2 : Int) (a1_3 : Int) (a1_4 : Int) (a1_5 : Int) : Option (Bool) := (impl_isWater.f a0_0 a0_1 a0_2 a1_0 a1_1).bind fun t222 => (if t222 = true then (if a1_2 ≥ 1 then (if a1_2 ≤ 60 then (if a1_3 ≥ 0 then (if a1_3 ≤ 5 then (if a1_4 ≥ 1 then (if a1_4 ≤ 30 then (if a1_5 ≥ 0 then (some (decide (a1_5 ≤ 9))) else (some false)) else (some false)) else (some false)) else (some false)) else (some false)) else (some false)) else (some false)) else (some false))
set_option maxHeartbeats 8000000 in
set_option maxRecDepth 100000 in
theorem impl_isBoat.calls (a0_0 : Int) (a0_1 : Int) (a0_2 : (Nat → Int)) (a1_0 : Int) (a1_1 : Int) (a1_2 : Int) (a1_3 : Int) (a1_4 : Int) (a1_5 : Int) (r : Bool) (w : World) (h : impl_isBoat.f a0_0 a0_1 a0_2 a1_0 a1_1 a1_2 a1_3 a1_4 a1_5 = some r) :
  Calls Try.prog 107 #[.agg (csBay a0_0 a0_1 a0_2), .agg #[.int .i8 a1_0, .int .i8 a1_1, .int .i8 a1_2, .int .i8 a1_3, .int .i8 a1_4, .int .i8 a1_5]] w fun e w' => e = .returned (.bool r) ∧ Below w.heap.size w w' := by
 have hu28 := Try.underlying28
 have hu38 := Try.underlying38
 have hu36 := Try.underlying36
 have HB := am (Below.refl w.heap.size w)
 have H : ((impl_isWater.f a0_0 a0_1 a0_2 a1_0 a1_1).bind fun t222 => (if t222 = true then (if a1_2 ≥ 1 then (if a1_2 ≤ 60 then (if a1_3 ≥ 0 then (if a1_3 ≤ 5 then (if a1_4 ≥ 1 then (if a1_4 ≤ 30 then (if a1_5 ≥ 0 then (some (decide (a1_5 ≤ 9))) else (some false)) else (some false)) else (some false)) else (some false)) else (some false)) else (some false)) else (some false)) else (some false))) = some r := h
 clear h
 replace H := Option.bind_eq_some_iff.mp H
 obtain ⟨t222, A30, H⟩ := H
 try dsimp only at H
 have A3 := am A30
 clear A30
 by_cases c4 : t222 = true
 ·subst c4
  rw [if_pos rfl] at H
  by_cases c5 : a1_2 ≥ 1
  ·rw [if_pos c5] at H
   have c5b0 : decide (1 ≤ a1_2) = true := decide_eq_true c5
   clear c5
   by_cases c6 : a1_2 ≤ 60
   ·rw [if_pos c6] at H
    have c6b0 : decide (a1_2 ≤ 60) = true := decide_eq_true c6
    clear c6
    by_cases c7 : a1_3 ≥ 0
    ·rw [if_pos c7] at H
     have c7b0 : decide (0 ≤ a1_3) = true := decide_eq_true c7
     have c7b1 : 0 ≤ a1_3 := c7
     clear c7
     by_cases c8 : a1_3 ≤ 5
     ·rw [if_pos c8] at H
      have c8b0 : decide (a1_3 ≤ 5) = true := decide_eq_true c8
      clear c8
      by_cases c9 : a1_4 ≥ 1
      ·rw [if_pos c9] at H
       have c9b0 : decide (1 ≤ a1_4) = true := decide_eq_true c9
       clear c9
       by_cases c10 : a1_4 ≤ 30
       ·rw [if_pos c10] at H
        have c10b0 : decide (a1_4 ≤ 30) = true := decide_eq_true c10
        clear c10
        by_cases c11 : a1_5 ≥ 0
        ·rw [if_pos c11] at H
         have c11b0 : decide (0 ≤ a1_5) = true := decide_eq_true c11
         have c11b1 : 0 ≤ a1_5 := c11
         clear c11
         obtain rfl := Option.some.inj H
         go_enter Try.func107, Try.ntmps107
         go_wp2_with (first | ((with_reducible refine gate_dst (N := 2) rfl ?_); refine bxe (N := 2) (cs := (csBay a0_0 a0_1 a0_2)) (t := 28) ?_; intro gb220 hg w12 hbox hb; have BK220 := am (hbox); have GW220 := am (gN hg (below_size (be HB))); have GE220 := am (gN hg (below_size (be HB))); replace HB := am (below_step (be HB) hb); clear hb hbox hg) | ((with_reducible refine gate_dst (N := 3) rfl ?_); refine bxe (N := 3) (cs := #[.int .i8 a1_0, .int .i8 a1_1, .int .i8 a1_2, .int .i8 a1_3, .int .i8 a1_4, .int .i8 a1_5]) (t := 38) ?_; intro gb221 hg w13 hbox hb; have BK221 := am (hbox); have GW221 := am (gN hg (below_size (be HB))); have GE221 := am (gN hg (below_size (be HB))); have NB220_221 := nL BK220 hg; have NB221_220 := nR BK220 hg; replace BK220 := bB BK220 hb; replace HB := am (below_step (be HB) hb); clear hb hbox hg; have hnb14 := NB220_221.out; have hnc14 := NB221_220.out; have hcz15_0 : w13.cell? ⟨gb220, 0, none⟩ = some (.int .i8 a0_0) := (blk_cell BK220.out 0).trans rfl; have hcz15_1 : w13.cell? ⟨gb220, 1, none⟩ = some (.int .i8 a0_1) := (blk_cell BK220.out 1).trans rfl; have hwz15 := lv28_at BK220.out; have haz15 := at_cells BK220.out; have hyz15 := BayAt28_of BK220.out; have hvz15 := lvv_of BK220.out; have hfz15_0 := blk_frozen BK220.out 0; have hfz15_1 := blk_frozen BK220.out 1; have hfz15_2 := blk_frozen BK220.out 2; obtain ⟨hcz16_0, hcz16_1, hcz16_2, hcz16_3, hcz16_4, hcz16_5, hfz16_0, hfz16_1, hfz16_2, hfz16_3, hfz16_4, hfz16_5⟩ := bx6 BK221) | ((with_reducible refine gate_callee (f := 167) rfl ?_); refine gL (some 8) Try.func167 #[.agg (csBay a0_0 a0_1 a0_2), .agg #[.int .i8 a1_0, .int .i8 a1_1]] ?_; (with_reducible refine (impl_isWater.calls a0_0 a0_1 a0_2 a1_0 a1_1 true _ A3.out).mono ?_); rintro e w17 ⟨rfl, hb⟩; refine ⟨_, rfl, ?_⟩; replace BK220 := bB BK220 hb; replace BK221 := bB BK221 hb; replace HB := am (below_step (be HB) hb); (try clear hb); (try clear hb2); (try clear hk); (try clear hi); obtain ⟨hcz18_0, hcz18_1, hcz18_2, hcz18_3, hcz18_4, hcz18_5, hfz18_0, hfz18_1, hfz18_2, hfz18_3, hfz18_4, hfz18_5⟩ := bx6 BK221))
         go_ret
         exact ⟨by first | rfl | (simp [errW_none, errW_some] <;> rfl) | (simp [*, errW_none, errW_some] <;> rfl), be HB⟩
        ·rw [if_neg c11] at H
         have c11b0 : decide (0 ≤ a1_5) = false := decide_eq_false c11
         clear c11
         obtain rfl := Option.some.inj H
         go_enter Try.func107, Try.ntmps107
         go_wp2_with (first | ((with_reducible refine gate_dst (N := 2) rfl ?_); refine bxe (N := 2) (cs := (csBay a0_0 a0_1 a0_2)) (t := 28) ?_; intro gb220 hg w19 hbox hb; have BK220 := am (hbox); have GW220 := am (gN hg (below_size (be HB))); have GE220 := am (gN hg (below_size (be HB))); replace HB := am (below_step (be HB) hb); clear hb hbox hg) | ((with_reducible refine gate_dst (N := 3) rfl ?_); refine bxe (N := 3) (cs := #[.int .i8 a1_0, .int .i8 a1_1, .int .i8 a1_2, .int .i8 a1_3, .int .i8 a1_4, .int .i8 a1_5]) (t := 38) ?_; intro gb221 hg w20 hbox hb; have BK221 := am (hbox); have GW221 := am (gN hg (below_size (be HB))); have GE221 := am (gN hg (below_size (be HB))); have NB220_221 := nL BK220 hg; have NB221_220 := nR BK220 hg; replace BK220 := bB BK220 hb; replace HB := am (below_step (be HB) hb); clear hb hbox hg; have hnb21 := NB220_221.out; have hnc21 := NB221_220.out; have hcz22_0 : w20.cell? ⟨gb220, 0, none⟩ = some (.int .i8 a0_0) := (blk_cell BK220.out 0).trans rfl; have hcz22_1 : w20.cell? ⟨gb220, 1, none⟩ = some (.int .i8 a0_1) := (blk_cell BK220.out 1).trans rfl; have hwz22 := lv28_at BK220.out; have haz22 := at_cells BK220.out; have hyz22 := BayAt28_of BK220.out; have hvz22 := lvv_of BK220.out; have hfz22_0 := blk_frozen BK220.out 0; have hfz22_1 := blk_frozen BK220.out 1; have hfz22_2 := blk_frozen BK220.out 2; obtain ⟨hcz23_0, hcz23_1, hcz23_2, hcz23_3, hcz23_4, hcz23_5, hfz23_0, hfz23_1, hfz23_2, hfz23_3, hfz23_4, hfz23_5⟩ := bx6 BK221) | ((with_reducible refine gate_callee (f := 167) rfl ?_); refine gL (some 8) Try.func167 #[.agg (csBay a0_0 a0_1 a0_2), .agg #[.int .i8 a1_0, .int .i8 a1_1]] ?_; (with_reducible refine (impl_isWater.calls a0_0 a0_1 a0_2 a1_0 a1_1 true _ A3.out).mono ?_); rintro e w24 ⟨rfl, hb⟩; refine ⟨_, rfl, ?_⟩; replace BK220 := bB BK220 hb; replace BK221 := bB BK221 hb; replace HB := am (below_step (be HB) hb); (try clear hb); (try clear hb2); (try clear hk); (try clear hi); obtain ⟨hcz25_0, hcz25_1, hcz25_2, hcz25_3, hcz25_4, hcz25_5, hfz25_0, hfz25_1, hfz25_2, hfz25_3, hfz25_4, hfz25_5⟩ := bx6 BK221))
         go_ret
         exact ⟨by first | rfl | (simp [errW_none, errW_some] <;> rfl) | (simp [*, errW_none, errW_some] <;> rfl), be HB⟩
       ·rw [if_neg c10] at H
        have c10b0 : decide (a1_4 ≤ 30) = false := decide_eq_false c10
        clear c10
        obtain rfl := Option.some.inj H
        go_enter Try.func107, Try.ntmps107
        go_wp2_with (first | ((with_reducible refine gate_dst (N := 2) rfl ?_); refine bxe (N := 2) (cs := (csBay a0_0 a0_1 a0_2)) (t := 28) ?_; intro gb220 hg w26 hbox hb; have BK220 := am (hbox); have GW220 := am (gN hg (below_size (be HB))); have GE220 := am (gN hg (below_size (be HB))); replace HB := am (below_step (be HB) hb); clear hb hbox hg) | ((with_reducible refine gate_dst (N := 3) rfl ?_); refine bxe (N := 3) (cs := #[.int .i8 a1_0, .int .i8 a1_1, .int .i8 a1_2, .int .i8 a1_3, .int .i8 a1_4, .int .i8 a1_5]) (t := 38) ?_; intro gb221 hg w27 hbox hb; have BK221 := am (hbox); have GW221 := am (gN hg (below_size (be HB))); have GE221 := am (gN hg (below_size (be HB))); have NB220_221 := nL BK220 hg; have NB221_220 := nR BK220 hg; replace BK220 := bB BK220 hb; replace HB := am (below_step (be HB) hb); clear hb hbox hg; have hnb28 := NB220_221.out; have hnc28 := NB221_220.out; have hcz29_0 : w27.cell? ⟨gb220, 0, none⟩ = some (.int .i8 a0_0) := (blk_cell BK220.out 0).trans rfl; have hcz29_1 : w27.cell? ⟨gb220, 1, none⟩ = some (.int .i8 a0_1) := (blk_cell BK220.out 1).trans rfl; have hwz29 := lv28_at BK220.out; have haz29 := at_cells BK220.out; have hyz29 := BayAt28_of BK220.out; have hvz29 := lvv_of BK220.out; have hfz29_0 := blk_frozen BK220.out 0; have hfz29_1 := blk_frozen BK220.out 1; have hfz29_2 := blk_frozen BK220.out 2; obtain ⟨hcz30_0, hcz30_1, hcz30_2, hcz30_3, hcz30_4, hcz30_5, hfz30_0, hfz30_1, hfz30_2, hfz30_3, hfz30_4, hfz30_5⟩ := bx6 BK221) | ((with_reducible refine gate_callee (f := 167) rfl ?_); refine gL (some 8) Try.func167 #[.agg (csBay a0_0 a0_1 a0_2), .agg #[.int .i8 a1_0, .int .i8 a1_1]] ?_; (with_reducible refine (impl_isWater.calls a0_0 a0_1 a0_2 a1_0 a1_1 true _ A3.out).mono ?_); rintro e w31 ⟨rfl, hb⟩; refine ⟨_, rfl, ?_⟩; replace BK220 := bB BK220 hb; replace BK221 := bB BK221 hb; replace HB := am (below_step (be HB) hb); (try clear hb); (try clear hb2); (try clear hk); (try clear hi); obtain ⟨hcz32_0, hcz32_1, hcz32_2, hcz32_3, hcz32_4, hcz32_5, hfz32_0, hfz32_1, hfz32_2, hfz32_3, hfz32_4, hfz32_5⟩ := bx6 BK221))
        go_ret
        exact ⟨by first | rfl | (simp [errW_none, errW_some] <;> rfl) | (simp [*, errW_none, errW_some] <;> rfl), be HB⟩
      ·rw [if_neg c9] at H
       have c9b0 : decide (1 ≤ a1_4) = false := decide_eq_false c9
       clear c9
       obtain rfl := Option.some.inj H
       go_enter Try.func107, Try.ntmps107
       go_wp2_with (first | ((with_reducible refine gate_dst (N := 2) rfl ?_); refine bxe (N := 2) (cs := (csBay a0_0 a0_1 a0_2)) (t := 28) ?_; intro gb220 hg w33 hbox hb; have BK220 := am (hbox); have GW220 := am (gN hg (below_size (be HB))); have GE220 := am (gN hg (below_size (be HB))); replace HB := am (below_step (be HB) hb); clear hb hbox hg) | ((with_reducible refine gate_dst (N := 3) rfl ?_); refine bxe (N := 3) (cs := #[.int .i8 a1_0, .int .i8 a1_1, .int .i8 a1_2, .int .i8 a1_3, .int .i8 a1_4, .int .i8 a1_5]) (t := 38) ?_; intro gb221 hg w34 hbox hb; have BK221 := am (hbox); have GW221 := am (gN hg (below_size (be HB))); have GE221 := am (gN hg (below_size (be HB))); have NB220_221 := nL BK220 hg; have NB221_220 := nR BK220 hg; replace BK220 := bB BK220 hb; replace HB := am (below_step (be HB) hb); clear hb hbox hg; have hnb35 := NB220_221.out; have hnc35 := NB221_220.out; have hcz36_0 : w34.cell? ⟨gb220, 0, none⟩ = some (.int .i8 a0_0) := (blk_cell BK220.out 0).trans rfl; have hcz36_1 : w34.cell? ⟨gb220, 1, none⟩ = some (.int .i8 a0_1) := (blk_cell BK220.out 1).trans rfl; have hwz36 := lv28_at BK220.out; have haz36 := at_cells BK220.out; have hyz36 := BayAt28_of BK220.out; have hvz36 := lvv_of BK220.out; have hfz36_0 := blk_frozen BK220.out 0; have hfz36_1 := blk_frozen BK220.out 1; have hfz36_2 := blk_frozen BK220.out 2; obtain ⟨hcz37_0, hcz37_1, hcz37_2, hcz37_3, hcz37_4, hcz37_5, hfz37_0, hfz37_1, hfz37_2, hfz37_3, hfz37_4, hfz37_5⟩ := bx6 BK221) | ((with_reducible refine gate_callee (f := 167) rfl ?_); refine gL (some 8) Try.func167 #[.agg (csBay a0_0 a0_1 a0_2), .agg #[.int .i8 a1_0, .int .i8 a1_1]] ?_; (with_reducible refine (impl_isWater.calls a0_0 a0_1 a0_2 a1_0 a1_1 true _ A3.out).mono ?_); rintro e w38 ⟨rfl, hb⟩; refine ⟨_, rfl, ?_⟩; replace BK220 := bB BK220 hb; replace BK221 := bB BK221 hb; replace HB := am (below_step (be HB) hb); (try clear hb); (try clear hb2); (try clear hk); (try clear hi); obtain ⟨hcz39_0, hcz39_1, hcz39_2, hcz39_3, hcz39_4, hcz39_5, hfz39_0, hfz39_1, hfz39_2, hfz39_3, hfz39_4, hfz39_5⟩ := bx6 BK221))
       go_ret
       exact ⟨by first | rfl | (simp [errW_none, errW_some] <;> rfl) | (simp [*, errW_none, errW_some] <;> rfl), be HB⟩
     ·rw [if_neg c8] at H
      have c8b0 : decide (a1_3 ≤ 5) = false := decide_eq_false c8
      clear c8
      obtain rfl := Option.some.inj H
      go_enter Try.func107, Try.ntmps107
      go_wp2_with (first | ((with_reducible refine gate_dst (N := 2) rfl ?_); refine bxe (N := 2) (cs := (csBay a0_0 a0_1 a0_2)) (t := 28) ?_; intro gb220 hg w40 hbox hb; have BK220 := am (hbox); have GW220 := am (gN hg (below_size (be HB))); have GE220 := am (gN hg (below_size (be HB))); replace HB := am (below_step (be HB) hb); clear hb hbox hg) | ((with_reducible refine gate_dst (N := 3) rfl ?_); refine bxe (N := 3) (cs := #[.int .i8 a1_0, .int .i8 a1_1, .int .i8 a1_2, .int .i8 a1_3, .int .i8 a1_4, .int .i8 a1_5]) (t := 38) ?_; intro gb221 hg w41 hbox hb; have BK221 := am (hbox); have GW221 := am (gN hg (below_size (be HB))); have GE221 := am (gN hg (below_size (be HB))); have NB220_221 := nL BK220 hg; have NB221_220 := nR BK220 hg; replace BK220 := bB BK220 hb; replace HB := am (below_step (be HB) hb); clear hb hbox hg; have hnb42 := NB220_221.out; have hnc42 := NB221_220.out; have hcz43_0 : w41.cell? ⟨gb220, 0, none⟩ = some (.int .i8 a0_0) := (blk_cell BK220.out 0).trans rfl; have hcz43_1 : w41.cell? ⟨gb220, 1, none⟩ = some (.int .i8 a0_1) := (blk_cell BK220.out 1).trans rfl; have hwz43 := lv28_at BK220.out; have haz43 := at_cells BK220.out; have hyz43 := BayAt28_of BK220.out; have hvz43 := lvv_of BK220.out; have hfz43_0 := blk_frozen BK220.out 0; have hfz43_1 := blk_frozen BK220.out 1; have hfz43_2 := blk_frozen BK220.out 2; obtain ⟨hcz44_0, hcz44_1, hcz44_2, hcz44_3, hcz44_4, hcz44_5, hfz44_0, hfz44_1, hfz44_2, hfz44_3, hfz44_4, hfz44_5⟩ := bx6 BK221) | ((with_reducible refine gate_callee (f := 167) rfl ?_); refine gL (some 8) Try.func167 #[.agg (csBay a0_0 a0_1 a0_2), .agg #[.int .i8 a1_0, .int .i8 a1_1]] ?_; (with_reducible refine (impl_isWater.calls a0_0 a0_1 a0_2 a1_0 a1_1 true _ A3.out).mono ?_); rintro e w45 ⟨rfl, hb⟩; refine ⟨_, rfl, ?_⟩; replace BK220 := bB BK220 hb; replace BK221 := bB BK221 hb; replace HB := am (below_step (be HB) hb); (try clear hb); (try clear hb2); (try clear hk); (try clear hi); obtain ⟨hcz46_0, hcz46_1, hcz46_2, hcz46_3, hcz46_4, hcz46_5, hfz46_0, hfz46_1, hfz46_2, hfz46_3, hfz46_4, hfz46_5⟩ := bx6 BK221))
      go_ret
      exact ⟨by first | rfl | (simp [errW_none, errW_some] <;> rfl) | (simp [*, errW_none, errW_some] <;> rfl), be HB⟩
    ·rw [if_neg c7] at H
     have c7b0 : decide (0 ≤ a1_3) = false := decide_eq_false c7
     clear c7
     obtain rfl := Option.some.inj H
     go_enter Try.func107, Try.ntmps107
     go_wp2_with (first | ((with_reducible refine gate_dst (N := 2) rfl ?_); refine bxe (N := 2) (cs := (csBay a0_0 a0_1 a0_2)) (t := 28) ?_; intro gb220 hg w47 hbox hb; have BK220 := am (hbox); have GW220 := am (gN hg (below_size (be HB))); have GE220 := am (gN hg (below_size (be HB))); replace HB := am (below_step (be HB) hb); clear hb hbox hg) | ((with_reducible refine gate_dst (N := 3) rfl ?_); refine bxe (N := 3) (cs := #[.int .i8 a1_0, .int .i8 a1_1, .int .i8 a1_2, .int .i8 a1_3, .int .i8 a1_4, .int .i8 a1_5]) (t := 38) ?_; intro gb221 hg w48 hbox hb; have BK221 := am (hbox); have GW221 := am (gN hg (below_size (be HB))); have GE221 := am (gN hg (below_size (be HB))); have NB220_221 := nL BK220 hg; have NB221_220 := nR BK220 hg; replace BK220 := bB BK220 hb; replace HB := am (below_step (be HB) hb); clear hb hbox hg; have hnb49 := NB220_221.out; have hnc49 := NB221_220.out; have hcz50_0 : w48.cell? ⟨gb220, 0, none⟩ = some (.int .i8 a0_0) := (blk_cell BK220.out 0).trans rfl; have hcz50_1 : w48.cell? ⟨gb220, 1, none⟩ = some (.int .i8 a0_1) := (blk_cell BK220.out 1).trans rfl; have hwz50 := lv28_at BK220.out; have haz50 := at_cells BK220.out; have hyz50 := BayAt28_of BK220.out; have hvz50 := lvv_of BK220.out; have hfz50_0 := blk_frozen BK220.out 0; have hfz50_1 := blk_frozen BK220.out 1; have hfz50_2 := blk_frozen BK220.out 2; obtain ⟨hcz51_0, hcz51_1, hcz51_2, hcz51_3, hcz51_4, hcz51_5, hfz51_0, hfz51_1, hfz51_2, hfz51_3, hfz51_4, hfz51_5⟩ := bx6 BK221) | ((with_reducible refine gate_callee (f := 167) rfl ?_); refine gL (some 8) Try.func167 #[.agg (csBay a0_0 a0_1 a0_2), .agg #[.int .i8 a1_0, .int .i8 a1_1]] ?_; (with_reducible refine (impl_isWater.calls a0_0 a0_1 a0_2 a1_0 a1_1 true _ A3.out).mono ?_); rintro e w52 ⟨rfl, hb⟩; refine ⟨_, rfl, ?_⟩; replace BK220 := bB BK220 hb; replace BK221 := bB BK221 hb; replace HB := am (below_step (be HB) hb); (try clear hb); (try clear hb2); (try clear hk); (try clear hi); obtain ⟨hcz53_0, hcz53_1, hcz53_2, hcz53_3, hcz53_4, hcz53_5, hfz53_0, hfz53_1, hfz53_2, hfz53_3, hfz53_4, hfz53_5⟩ := bx6 BK221))
     go_ret
     exact ⟨by first | rfl | (simp [errW_none, errW_some] <;> rfl) | (simp [*, errW_none, errW_some] <;> rfl), be HB⟩
   ·rw [if_neg c6] at H
    have c6b0 : decide (a1_2 ≤ 60) = false := decide_eq_false c6
    clear c6
    obtain rfl := Option.some.inj H
    go_enter Try.func107, Try.ntmps107
    go_wp2_with (first | ((with_reducible refine gate_dst (N := 2) rfl ?_); refine bxe (N := 2) (cs := (csBay a0_0 a0_1 a0_2)) (t := 28) ?_; intro gb220 hg w54 hbox hb; have BK220 := am (hbox); have GW220 := am (gN hg (below_size (be HB))); have GE220 := am (gN hg (below_size (be HB))); replace HB := am (below_step (be HB) hb); clear hb hbox hg) | ((with_reducible refine gate_dst (N := 3) rfl ?_); refine bxe (N := 3) (cs := #[.int .i8 a1_0, .int .i8 a1_1, .int .i8 a1_2, .int .i8 a1_3, .int .i8 a1_4, .int .i8 a1_5]) (t := 38) ?_; intro gb221 hg w55 hbox hb; have BK221 := am (hbox); have GW221 := am (gN hg (below_size (be HB))); have GE221 := am (gN hg (below_size (be HB))); have NB220_221 := nL BK220 hg; have NB221_220 := nR BK220 hg; replace BK220 := bB BK220 hb; replace HB := am (below_step (be HB) hb); clear hb hbox hg; have hnb56 := NB220_221.out; have hnc56 := NB221_220.out; have hcz57_0 : w55.cell? ⟨gb220, 0, none⟩ = some (.int .i8 a0_0) := (blk_cell BK220.out 0).trans rfl; have hcz57_1 : w55.cell? ⟨gb220, 1, none⟩ = some (.int .i8 a0_1) := (blk_cell BK220.out 1).trans rfl; have hwz57 := lv28_at BK220.out; have haz57 := at_cells BK220.out; have hyz57 := BayAt28_of BK220.out; have hvz57 := lvv_of BK220.out; have hfz57_0 := blk_frozen BK220.out 0; have hfz57_1 := blk_frozen BK220.out 1; have hfz57_2 := blk_frozen BK220.out 2; obtain ⟨hcz58_0, hcz58_1, hcz58_2, hcz58_3, hcz58_4, hcz58_5, hfz58_0, hfz58_1, hfz58_2, hfz58_3, hfz58_4, hfz58_5⟩ := bx6 BK221) | ((with_reducible refine gate_callee (f := 167) rfl ?_); refine gL (some 8) Try.func167 #[.agg (csBay a0_0 a0_1 a0_2), .agg #[.int .i8 a1_0, .int .i8 a1_1]] ?_; (with_reducible refine (impl_isWater.calls a0_0 a0_1 a0_2 a1_0 a1_1 true _ A3.out).mono ?_); rintro e w59 ⟨rfl, hb⟩; refine ⟨_, rfl, ?_⟩; replace BK220 := bB BK220 hb; replace BK221 := bB BK221 hb; replace HB := am (below_step (be HB) hb); (try clear hb); (try clear hb2); (try clear hk); (try clear hi); obtain ⟨hcz60_0, hcz60_1, hcz60_2, hcz60_3, hcz60_4, hcz60_5, hfz60_0, hfz60_1, hfz60_2, hfz60_3, hfz60_4, hfz60_5⟩ := bx6 BK221))
    go_ret
    exact ⟨by first | rfl | (simp [errW_none, errW_some] <;> rfl) | (simp [*, errW_none, errW_some] <;> rfl), be HB⟩
  ·rw [if_neg c5] at H
   have c5b0 : decide (1 ≤ a1_2) = false := decide_eq_false c5
   clear c5
   obtain rfl := Option.some.inj H
   go_enter Try.func107, Try.ntmps107
   go_wp2_with (first | ((with_reducible refine gate_dst (N := 2) rfl ?_); refine bxe (N := 2) (cs := (csBay a0_0 a0_1 a0_2)) (t := 28) ?_; intro gb220 hg w61 hbox hb; have BK220 := am (hbox); have GW220 := am (gN hg (below_size (be HB))); have GE220 := am (gN hg (below_size (be HB))); replace HB := am (below_step (be HB) hb); clear hb hbox hg) | ((with_reducible refine gate_dst (N := 3) rfl ?_); refine bxe (N := 3) (cs := #[.int .i8 a1_0, .int .i8 a1_1, .int .i8 a1_2, .int .i8 a1_3, .int .i8 a1_4, .int .i8 a1_5]) (t := 38) ?_; intro gb221 hg w62 hbox hb; have BK221 := am (hbox); have GW221 := am (gN hg (below_size (be HB))); have GE221 := am (gN hg (below_size (be HB))); have NB220_221 := nL BK220 hg; have NB221_220 := nR BK220 hg; replace BK220 := bB BK220 hb; replace HB := am (below_step (be HB) hb); clear hb hbox hg; have hnb63 := NB220_221.out; have hnc63 := NB221_220.out; have hcz64_0 : w62.cell? ⟨gb220, 0, none⟩ = some (.int .i8 a0_0) := (blk_cell BK220.out 0).trans rfl; have hcz64_1 : w62.cell? ⟨gb220, 1, none⟩ = some (.int .i8 a0_1) := (blk_cell BK220.out 1).trans rfl; have hwz64 := lv28_at BK220.out; have haz64 := at_cells BK220.out; have hyz64 := BayAt28_of BK220.out; have hvz64 := lvv_of BK220.out; have hfz64_0 := blk_frozen BK220.out 0; have hfz64_1 := blk_frozen BK220.out 1; have hfz64_2 := blk_frozen BK220.out 2; obtain ⟨hcz65_0, hcz65_1, hcz65_2, hcz65_3, hcz65_4, hcz65_5, hfz65_0, hfz65_1, hfz65_2, hfz65_3, hfz65_4, hfz65_5⟩ := bx6 BK221) | ((with_reducible refine gate_callee (f := 167) rfl ?_); refine gL (some 8) Try.func167 #[.agg (csBay a0_0 a0_1 a0_2), .agg #[.int .i8 a1_0, .int .i8 a1_1]] ?_; (with_reducible refine (impl_isWater.calls a0_0 a0_1 a0_2 a1_0 a1_1 true _ A3.out).mono ?_); rintro e w66 ⟨rfl, hb⟩; refine ⟨_, rfl, ?_⟩; replace BK220 := bB BK220 hb; replace BK221 := bB BK221 hb; replace HB := am (below_step (be HB) hb); (try clear hb); (try clear hb2); (try clear hk); (try clear hi); obtain ⟨hcz67_0, hcz67_1, hcz67_2, hcz67_3, hcz67_4, hcz67_5, hfz67_0, hfz67_1, hfz67_2, hfz67_3, hfz67_4, hfz67_5⟩ := bx6 BK221))
   go_ret
   exact ⟨by first | rfl | (simp [errW_none, errW_some] <;> rfl) | (simp [*, errW_none, errW_some] <;> rfl), be HB⟩
 ·replace c4 := Bool.eq_false_iff.mpr c4
  subst c4
  have H1 : (some false) = some r := by rw [if_neg (show ¬ (false = true) by decide)] at H; exact H
  clear H
  have H := H1
  clear H1
  obtain rfl := Option.some.inj H
  go_enter Try.func107, Try.ntmps107
  go_wp2_with (first | ((with_reducible refine gate_dst (N := 2) rfl ?_); refine bxe (N := 2) (cs := (csBay a0_0 a0_1 a0_2)) (t := 28) ?_; intro gb220 hg w68 hbox hb; have BK220 := am (hbox); have GW220 := am (gN hg (below_size (be HB))); have GE220 := am (gN hg (below_size (be HB))); replace HB := am (below_step (be HB) hb); clear hb hbox hg) | ((with_reducible refine gate_dst (N := 3) rfl ?_); refine bxe (N := 3) (cs := #[.int .i8 a1_0, .int .i8 a1_1, .int .i8 a1_2, .int .i8 a1_3, .int .i8 a1_4, .int .i8 a1_5]) (t := 38) ?_; intro gb221 hg w69 hbox hb; have BK221 := am (hbox); have GW221 := am (gN hg (below_size (be HB))); have GE221 := am (gN hg (below_size (be HB))); have NB220_221 := nL BK220 hg; have NB221_220 := nR BK220 hg; replace BK220 := bB BK220 hb; replace HB := am (below_step (be HB) hb); clear hb hbox hg; have hnb70 := NB220_221.out; have hnc70 := NB221_220.out; have hcz71_0 : w69.cell? ⟨gb220, 0, none⟩ = some (.int .i8 a0_0) := (blk_cell BK220.out 0).trans rfl; have hcz71_1 : w69.cell? ⟨gb220, 1, none⟩ = some (.int .i8 a0_1) := (blk_cell BK220.out 1).trans rfl; have hwz71 := lv28_at BK220.out; have haz71 := at_cells BK220.out; have hyz71 := BayAt28_of BK220.out; have hvz71 := lvv_of BK220.out; have hfz71_0 := blk_frozen BK220.out 0; have hfz71_1 := blk_frozen BK220.out 1; have hfz71_2 := blk_frozen BK220.out 2; obtain ⟨hcz72_0, hcz72_1, hcz72_2, hcz72_3, hcz72_4, hcz72_5, hfz72_0, hfz72_1, hfz72_2, hfz72_3, hfz72_4, hfz72_5⟩ := bx6 BK221) | ((with_reducible refine gate_callee (f := 167) rfl ?_); refine gL (some 8) Try.func167 #[.agg (csBay a0_0 a0_1 a0_2), .agg #[.int .i8 a1_0, .int .i8 a1_1]] ?_; (with_reducible refine (impl_isWater.calls a0_0 a0_1 a0_2 a1_0 a1_1 false _ A3.out).mono ?_); rintro e w73 ⟨rfl, hb⟩; refine ⟨_, rfl, ?_⟩; replace BK220 := bB BK220 hb; replace BK221 := bB BK221 hb; replace HB := am (below_step (be HB) hb); (try clear hb); (try clear hb2); (try clear hk); (try clear hi)))
  go_ret
  exact ⟨by first | rfl | (simp [errW_none, errW_some] <;> rfl) | (simp [*, errW_none, errW_some] <;> rfl), be HB⟩

/-! ### impl_ValidBoat: function 30 -/
def impl_ValidBoat.f (a0_0 : Int) (a0_1 : Int) (a0_2 : (Nat → Int)) (a1_0 : Int) (a1_1 : Int) (a1_2 : Int) (a1_3 : Int) (a1_4 : Int) (a1_5 : Int) : Option (Bool) := (impl_ValidBay.f a0_0 a0_1 a0_2).bind fun t225 => (if t225 = true then ((impl_isBoat.f a0_0 a0_1 a0_2 a1_0 a1_1 a1_2 a1_3 a1_4 a1_5).bind fun t226 => (some t226)) else (some false))
set_option maxHeartbeats 8000000 in
set_option maxRecDepth 100000 in
theorem impl_ValidBoat.calls (a0_0 : Int) (a0_1 : Int) (a0_2 : (Nat → Int)) (a1_0 : Int) (a1_1 : Int) (a1_2 : Int) (a1_3 : Int) (a1_4 : Int) (a1_5 : Int) (r : Bool) (w : World) (h : impl_ValidBoat.f a0_0 a0_1 a0_2 a1_0 a1_1 a1_2 a1_3 a1_4 a1_5 = some r) :
  Calls Try.prog 30 #[.agg (csBay a0_0 a0_1 a0_2), .agg #[.int .i8 a1_0, .int .i8 a1_1, .int .i8 a1_2, .int .i8 a1_3, .int .i8 a1_4, .int .i8 a1_5]] w fun e w' => e = .returned (.bool r) ∧ Below w.heap.size w w' := by
 have hu28 := Try.underlying28
 have hu38 := Try.underlying38
 have HB := am (Below.refl w.heap.size w)
 have H : ((impl_ValidBay.f a0_0 a0_1 a0_2).bind fun t225 => (if t225 = true then ((impl_isBoat.f a0_0 a0_1 a0_2 a1_0 a1_1 a1_2 a1_3 a1_4 a1_5).bind fun t226 => (some t226)) else (some false))) = some r := h
 clear h
 replace H := Option.bind_eq_some_iff.mp H
 obtain ⟨t225, A30, H⟩ := H
 try dsimp only at H
 have A3 := am A30
 clear A30
 by_cases c4 : t225 = true
 ·subst c4
  rw [if_pos rfl] at H
  replace H := Option.bind_eq_some_iff.mp H
  obtain ⟨t226, A50, H⟩ := H
  try dsimp only at H
  have A5 := am A50
  clear A50
  obtain rfl := Option.some.inj H
  go_enter Try.func30, Try.ntmps30
  go_wp2_with (first | ((with_reducible refine gate_dst (N := 2) rfl ?_); refine bxe (N := 2) (cs := (csBay a0_0 a0_1 a0_2)) (t := 28) ?_; intro gb223 hg w6 hbox hb; have BK223 := am (hbox); have GW223 := am (gN hg (below_size (be HB))); have GE223 := am (gN hg (below_size (be HB))); replace HB := am (below_step (be HB) hb); clear hb hbox hg) | ((with_reducible refine gate_dst (N := 3) rfl ?_); refine bxe (N := 3) (cs := #[.int .i8 a1_0, .int .i8 a1_1, .int .i8 a1_2, .int .i8 a1_3, .int .i8 a1_4, .int .i8 a1_5]) (t := 38) ?_; intro gb224 hg w7 hbox hb; have BK224 := am (hbox); have GW224 := am (gN hg (below_size (be HB))); have GE224 := am (gN hg (below_size (be HB))); have NB223_224 := nL BK223 hg; have NB224_223 := nR BK223 hg; replace BK223 := bB BK223 hb; replace HB := am (below_step (be HB) hb); clear hb hbox hg; have hnb8 := NB223_224.out; have hnc8 := NB224_223.out; have hcz9_0 : w7.cell? ⟨gb223, 0, none⟩ = some (.int .i8 a0_0) := (blk_cell BK223.out 0).trans rfl; have hcz9_1 : w7.cell? ⟨gb223, 1, none⟩ = some (.int .i8 a0_1) := (blk_cell BK223.out 1).trans rfl; have hwz9 := lv28_at BK223.out; have haz9 := at_cells BK223.out; have hyz9 := BayAt28_of BK223.out; have hvz9 := lvv_of BK223.out; have hfz9_0 := blk_frozen BK223.out 0; have hfz9_1 := blk_frozen BK223.out 1; have hfz9_2 := blk_frozen BK223.out 2) | ((with_reducible refine gate_callee (f := 27) rfl ?_); refine gL (some 6) Try.func27 #[.agg (csBay a0_0 a0_1 a0_2)] ?_; (with_reducible refine (impl_ValidBay.calls a0_0 a0_1 a0_2 true _ A3.out).mono ?_); rintro e w10 ⟨rfl, hb⟩; refine ⟨_, rfl, ?_⟩; replace BK223 := bB BK223 hb; replace BK224 := bB BK224 hb; replace HB := am (below_step (be HB) hb); (try clear hb); (try clear hb2); (try clear hk); (try clear hi); have hcz11_0 : w10.cell? ⟨gb223, 0, none⟩ = some (.int .i8 a0_0) := (blk_cell BK223.out 0).trans rfl; have hcz11_1 : w10.cell? ⟨gb223, 1, none⟩ = some (.int .i8 a0_1) := (blk_cell BK223.out 1).trans rfl; have hwz11 := lv28_at BK223.out; have haz11 := at_cells BK223.out; have hyz11 := BayAt28_of BK223.out; have hvz11 := lvv_of BK223.out; have hfz11_0 := blk_frozen BK223.out 0; have hfz11_1 := blk_frozen BK223.out 1; have hfz11_2 := blk_frozen BK223.out 2; obtain ⟨hcz12_0, hcz12_1, hcz12_2, hcz12_3, hcz12_4, hcz12_5, hfz12_0, hfz12_1, hfz12_2, hfz12_3, hfz12_4, hfz12_5⟩ := bx6 BK224) | (go_at_call 107; (with_reducible refine (impl_isBoat.calls a0_0 a0_1 a0_2 a1_0 a1_1 a1_2 a1_3 a1_4 a1_5 t226 _ A5.out).mono ?_); rintro e w13 ⟨rfl, hb⟩; replace BK223 := bB BK223 hb; replace BK224 := bB BK224 hb; replace HB := am (below_step (be HB) hb); (try clear hb); (try clear hb2); (try clear hk); (try clear hi)))
  go_ret
  exact ⟨by first | rfl | (simp [errW_none, errW_some] <;> rfl) | (simp [*, errW_none, errW_some] <;> rfl), be HB⟩
 ·replace c4 := Bool.eq_false_iff.mpr c4
  subst c4
  have H1 : (some false) = some r := by rw [if_neg (show ¬ (false = true) by decide)] at H; exact H
  clear H
  have H := H1
  clear H1
  obtain rfl := Option.some.inj H
  go_enter Try.func30, Try.ntmps30
  go_wp2_with (first | ((with_reducible refine gate_dst (N := 2) rfl ?_); refine bxe (N := 2) (cs := (csBay a0_0 a0_1 a0_2)) (t := 28) ?_; intro gb223 hg w14 hbox hb; have BK223 := am (hbox); have GW223 := am (gN hg (below_size (be HB))); have GE223 := am (gN hg (below_size (be HB))); replace HB := am (below_step (be HB) hb); clear hb hbox hg) | ((with_reducible refine gate_dst (N := 3) rfl ?_); refine bxe (N := 3) (cs := #[.int .i8 a1_0, .int .i8 a1_1, .int .i8 a1_2, .int .i8 a1_3, .int .i8 a1_4, .int .i8 a1_5]) (t := 38) ?_; intro gb224 hg w15 hbox hb; have BK224 := am (hbox); have GW224 := am (gN hg (below_size (be HB))); have GE224 := am (gN hg (below_size (be HB))); have NB223_224 := nL BK223 hg; have NB224_223 := nR BK223 hg; replace BK223 := bB BK223 hb; replace HB := am (below_step (be HB) hb); clear hb hbox hg; have hnb16 := NB223_224.out; have hnc16 := NB224_223.out; have hcz17_0 : w15.cell? ⟨gb223, 0, none⟩ = some (.int .i8 a0_0) := (blk_cell BK223.out 0).trans rfl; have hcz17_1 : w15.cell? ⟨gb223, 1, none⟩ = some (.int .i8 a0_1) := (blk_cell BK223.out 1).trans rfl; have hwz17 := lv28_at BK223.out; have haz17 := at_cells BK223.out; have hyz17 := BayAt28_of BK223.out; have hvz17 := lvv_of BK223.out; have hfz17_0 := blk_frozen BK223.out 0; have hfz17_1 := blk_frozen BK223.out 1; have hfz17_2 := blk_frozen BK223.out 2) | ((with_reducible refine gate_callee (f := 27) rfl ?_); refine gL (some 6) Try.func27 #[.agg (csBay a0_0 a0_1 a0_2)] ?_; (with_reducible refine (impl_ValidBay.calls a0_0 a0_1 a0_2 false _ A3.out).mono ?_); rintro e w18 ⟨rfl, hb⟩; refine ⟨_, rfl, ?_⟩; replace BK223 := bB BK223 hb; replace BK224 := bB BK224 hb; replace HB := am (below_step (be HB) hb); (try clear hb); (try clear hb2); (try clear hk); (try clear hi)))
  go_ret
  exact ⟨by first | rfl | (simp [errW_none, errW_some] <;> rfl) | (simp [*, errW_none, errW_some] <;> rfl), be HB⟩

end Go.Proofs.Ytcollbifdfhfoaa.PFnExactDryMinutes
