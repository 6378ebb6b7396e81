-- Written by a program out of this seat's translation (functions, and that the code comes to them).
import Derived.Test.YtcollbifdfhfoaaPFnExactLongestChainx0
import Derived.Test.YtcollbifdfhfoaaPFnExactLongestChainx2
import Derived.Test.YtcollbifdfhfoaaPFnExactLongestChainx5
import Derived.Test.YtcollbifdfhfoaaPFnExactLongestChainx6
namespace Go.Proofs.Ytcollbifdfhfoaa.PFnExactLongestChain
open Go.RowKit Go.Proofs.YtcollbifdfhfoaaW.PrintWords Go.Proofs.YtcollbifdfhfoaaW.PrintLast Go.Proofs.YtcollbifdfhfoaaW.PrintMore
attribute [local go_sem] max2_int min2_int max_two min_two max_three min_three max_four min_four   -- for this text's walks alone
open Go.Proofs.Ytcollbifdfhfoaa.Bay Go.Proofs.Ytcollbifdfhfoaa.Short
attribute [local go_sem ↓] lv26_eq lv28_eq
attribute [local go_sem] lvv_set lvv_drewN lvv_drew lv26_run BayAt26_set BayAt26_drewN BayAt26_drew lv28_run BayAt28_set BayAt28_drewN BayAt28_drew
set_option linter.unusedVariables false
set_option linter.unusedSimpArgs false

/-! ### spec_LongestChain: function 62 -/
def spec_LongestChain.l0 : Nat → List (S38) → Int → Int → Int → (Nat → Int) → Int → Int → Int → Int → Int → Int → Option (Int × Int)
 | 0, _, _, _, _, _, _, _, _, _, _, _ => none
 | k + 1, x1, x9, x246000, x246001, x246002, x247000, x247001, x247002, x247003, x247004, x247005 => if x9 ≥ 1 then ((some (([] : List (S38)) : List (S38))).bind fun y251 => (if y251.length + x1.length < 23456248059221 then ((some (y251 ++ x1 : List (S38))).bind fun y254 => ((some (([(⟨(⟨x247000, x247001⟩ : S36), IntKind.i8.wrap (x9), x247003, x247004, x247005⟩ : S38)] : List (S38)) : List (S38))).bind fun y257 => (if y254.length + y257.length < 23456248059221 then ((spec_l01Right.f k x246000 x246001 x246002 (y254 ++ y257)).bind fun bt263 => (if bt263.1 = true then (some (x9, 0)) else (spec_LongestChain.l0 k x1 (wrap64 (x9 - 1)) bt263.2.1 bt263.2.2.1 bt263.2.2.2 x247000 x247001 (IntKind.i8.wrap (x9)) x247003 x247004 x247005))) else (none)))) else (none))) else (some (0, 6))
def spec_LongestChain.f (k : Nat) (a0_0 : Int) (a0_1 : Int) (a0_2 : (Nat → Int)) (l1 : List (S38)) (a2_0 : Int) (a2_1 : Int) (a2_2 : Int) (a2_3 : Int) (a2_4 : Int) (a2_5 : Int) : Option (Int × Int) := (spec_l01With.f k a0_0 a0_1 a0_2 l1 a2_0 a2_1 a2_2 a2_3 a2_4 a2_5).bind fun bt247 => (if bt247.1 = 0 then (spec_LongestChain.l0 k l1 60 bt247.2.1 bt247.2.2.1 bt247.2.2.2 a2_0 a2_1 a2_2 a2_3 a2_4 a2_5) else (some (0, bt247.1)))
set_option maxHeartbeats 8000000 in
set_option maxRecDepth 100000 in
theorem spec_LongestChain.calls (k : Nat) (a0_0 : Int) (a0_1 : Int) (a0_2 : (Nat → Int)) (A1 : Option Addr) (c1 : Nat) (l1 : List (S38)) (a2_0 : Int) (a2_1 : Int) (a2_2 : Int) (a2_3 : Int) (a2_4 : Int) (a2_5 : Int) (r1 : Int) (r2 : Int) (w : World) (hr1 : Kd.C k38 w A1 l1.length l1) (hc1 : l1.length ≤ c1) (h : spec_LongestChain.f k a0_0 a0_1 a0_2 l1 a2_0 a2_1 a2_2 a2_3 a2_4 a2_5 = some (r1, r2)) :
  Calls Try.prog 62 #[.agg (csBay a0_0 a0_1 a0_2), .slice A1 l1.length c1, .agg #[.int .i8 a2_0, .int .i8 a2_1, .int .i8 a2_2, .int .i8 a2_3, .int .i8 a2_4, .int .i8 a2_5]] w fun e w' => e = .returned (.tuple #[.int .i64 r1, .int .i64 r2]) ∧ Below w.heap.size w w' := by
 have hu28 := Try.underlying28
 have hu38 := Try.underlying38
 have HR1 := am hr1
 have HC1 := am hc1
 clear hr1 hc1
 have HB := am (Below.refl w.heap.size w)
 have H : ((spec_l01With.f k a0_0 a0_1 a0_2 l1 a2_0 a2_1 a2_2 a2_3 a2_4 a2_5).bind fun bt247 => (if bt247.1 = 0 then (spec_LongestChain.l0 k l1 60 bt247.2.1 bt247.2.2.1 bt247.2.2.2 a2_0 a2_1 a2_2 a2_3 a2_4 a2_5) else (some (0, bt247.1)))) = some (r1, r2) := h
 clear h
 replace H := Option.bind_eq_some_iff.mp H
 obtain ⟨⟨t247, t248, t249, t250⟩, A40, H⟩ := H
 try dsimp only at H
 have A4 := am A40
 clear A40
 by_cases c5 : t247 = 0
 ·rw [if_pos c5] at H
  have c5b0 : (t247 == 0) = true := beq_iff_eq.mpr c5
  have c5b1 : (t247 != 0) = false := bne_eq_false_iff_eq.mpr c5
  clear c5
  have H' := am H
  clear H
  go_enter Try.func62, Try.ntmps62
  go_wp2_with (first | ((with_reducible refine gate_dst (N := 3) rfl ?_); refine bxe (N := 3) (cs := (csBay a0_0 a0_1 a0_2)) (t := 28) ?_; intro gb245 hg w6 hbox hb; have HI245 := am ((show IsS28 w w6 gb245 a0_0 a0_1 a0_2 from ⟨hbox, by rw [hg]; exact (below_size (be HB))⟩)); have GW245 := am (gN hg (below_size (be HB))); have GE245 := am (gN hg (below_size (be HB))); replace HB := am (below_step (be HB) hb); clear hb hbox hg) | ((with_reducible refine gate_dst (N := 5) rfl ?_); refine bxe (N := 5) (cs := #[.int .i8 a2_0, .int .i8 a2_1, .int .i8 a2_2, .int .i8 a2_3, .int .i8 a2_4, .int .i8 a2_5]) (t := 38) ?_; intro gb246 hg w7 hbox hb; have BK246 := am (hbox); have GW246 := am (gN hg (below_size (be HB))); have GE246 := am (gN hg (below_size (be HB))); have NB245_246 := am (nLi hg (IsS28.lt (show IsS28 w _ gb245 a0_0 a0_1 a0_2 from si28 HI245))); have NB246_245 := am (nRi hg (IsS28.lt (show IsS28 w _ gb245 a0_0 a0_1 a0_2 from si28 HI245))); replace HI245 := am (IsS28.below (si28 HI245) hb); replace HB := am (below_step (be HB) hb); clear hb hbox hg; have hnb8 := NB246_245.out; have hnc8 := NB245_246.out; obtain ⟨hcz9_0, hcz9_1, hcz9_2, hcz9_3, hcz9_4, hcz9_5, hfz9_0, hfz9_1, hfz9_2, hfz9_3, hfz9_4, hfz9_5⟩ := bx6 BK246) | ((with_reducible refine gate_callee (f := 130) rfl ?_); refine gL (some 12) Try.func130 #[.pointer (some ⟨gb245, 0, none⟩), .slice A1 l1.length c1, .agg #[.int .i8 a2_0, .int .i8 a2_1, .int .i8 a2_2, .int .i8 a2_3, .int .i8 a2_4, .int .i8 a2_5]] ?_; (with_reducible refine (spec_l01With.calls k gb245 a0_0 a0_1 a0_2 _ _ l1 a2_0 a2_1 a2_2 a2_3 a2_4 a2_5 t247 t248 t249 t250 w _ ?side1 ?side2 ?side3 ?side4 A4.out).mono ?_); (case side1 => exact si28 HI245); (case side2 => exact be HB); (case side3 => exact Kd.C_foot_came k38_heap HR1.out (be HB) (IsS28.ge HI245.out)); (case side4 => exact HC1.out); rintro e w10 ⟨rfl, hi, hb, hk⟩; refine ⟨_, rfl, ?_⟩; replace BK246 := am (KeepBut.blk hk (g' := gb246) (o := .cells #[.int .i8 a2_0, .int .i8 a2_1, .int .i8 a2_2, .int .i8 a2_3, .int .i8 a2_4, .int .i8 a2_5] 38 (0, 0)) (kb BK246) NB246_245.out (by simp)); replace HB := am (hb); replace HI245 := am (hi); (try clear hb); (try clear hb2); (try clear hk); (try clear hi)))
  go_loopg [9] k (fun kq v9 w' => ∃ (x9_1 : Int) (x246000_1 : Int) (x246001_1 : Int) (x246002_1 : (Nat → Int)) (x247002_1 : Int), v9 = .int .i64 x9_1 ∧ Aside0 (spec_LongestChain.l0 kq l1 x9_1 x246000_1 x246001_1 x246002_1 a2_0 a2_1 x247002_1 a2_3 a2_4 a2_5 = some (r1, r2)) ∧ Aside0 (kq ≤ k) ∧ Aside0 (w'.heap[gb246]? = some (.cells #[.int .i8 a2_0, .int .i8 a2_1, .int .i8 x247002_1, .int .i8 a2_3, .int .i8 a2_4, .int .i8 a2_5] 38 (0, 0))) ∧ Aside0 (IsS28 w w' gb245 x246000_1 x246001_1 x246002_1) ∧ Aside0 (Below w.heap.size w w'))
  case atStart => exact ⟨(60), (t248), (t249), (t250), (a2_2), vv, H', ⟨Nat.le_refl _⟩, ⟨kb BK246⟩, ⟨si28 HI245⟩, ⟨be HB⟩⟩
  case round =>
   clear H'
   try clear c1
   try clear p2
   try clear c5
   try clear c5b0
   try clear c5b1
   try clear c6
   try clear c8
   try clear hcz9_0
   try clear hcz9_1
   try clear hcz9_2
   try clear hcz9_3
   try clear hcz9_4
   try clear hcz9_5
   try clear hfz9_0
   try clear hfz9_1
   try clear hfz9_2
   try clear hfz9_3
   try clear hfz9_4
   try clear hfz9_5
   obtain ⟨x9_1, x246000_1, x246001_1, x246002_1, x247002_1, rfl, HA, HK1, BK246, HI245, HB⟩ := hrel
   cases gk with
   | zero => exact absurd HA.out (by simp [spec_LongestChain.l0])
   | succ k1 =>
    have H := HA.out
    clear HA
    simp only [spec_LongestChain.l0] at H
    by_cases c11 : x9_1 ≥ 1
    ·rw [if_pos c11] at H
     have c11b0 : decide (1 ≤ x9_1) = true := decide_eq_true c11
     clear c11
     obtain ⟨y251, hy251⟩ : ∃ y_ : List (S38), y_ = (([] : List (S38))) := ⟨_, rfl⟩
     replace H : (if y251.length + l1.length < 23456248059221 then ((some (y251 ++ l1 : List (S38))).bind fun y254 => ((some (([(⟨(⟨a2_0, a2_1⟩ : S36), IntKind.i8.wrap (x9_1), a2_3, a2_4, a2_5⟩ : S38)] : List (S38)) : List (S38))).bind fun y257 => (if y254.length + y257.length < 23456248059221 then ((spec_l01Right.f k1 x246000_1 x246001_1 x246002_1 (y254 ++ y257)).bind fun bt263 => (if bt263.1 = true then (some (x9_1, 0)) else (spec_LongestChain.l0 k1 l1 (wrap64 (x9_1 - 1)) bt263.2.1 bt263.2.2.1 bt263.2.2.2 a2_0 a2_1 (IntKind.i8.wrap (x9_1)) a2_3 a2_4 a2_5))) else (none)))) else (none)) = some (r1, r2) := by first | (rw [hy251]; with_reducible exact H) | (have H2_ := (Option.bind_some _ _).symm.trans H; rw [hy251]; with_reducible exact H2_) | (have H2_ := (Option.bind_some _ _).symm.trans H; with_reducible exact H2_) | with_reducible exact H | (rw [hy251]; exact H) | exact H
     have Ny251 := am hy251
     clear hy251
     by_cases c12 : y251.length + l1.length < 23456248059221
     ·rw [if_pos c12] at H
      have LMc12 := am c12
      clear c12
      obtain ⟨y254, hy254⟩ : ∃ y_ : List (S38), y_ = (y251 ++ l1) := ⟨_, rfl⟩
      replace H : ((some (([(⟨(⟨a2_0, a2_1⟩ : S36), IntKind.i8.wrap (x9_1), a2_3, a2_4, a2_5⟩ : S38)] : List (S38)) : List (S38))).bind fun y257 => (if y254.length + y257.length < 23456248059221 then ((spec_l01Right.f k1 x246000_1 x246001_1 x246002_1 (y254 ++ y257)).bind fun bt263 => (if bt263.1 = true then (some (x9_1, 0)) else (spec_LongestChain.l0 k1 l1 (wrap64 (x9_1 - 1)) bt263.2.1 bt263.2.2.1 bt263.2.2.2 a2_0 a2_1 (IntKind.i8.wrap (x9_1)) a2_3 a2_4 a2_5))) else (none))) = some (r1, r2) := by first | (rw [hy254]; with_reducible exact H) | (have H2_ := (Option.bind_some _ _).symm.trans H; rw [hy254]; with_reducible exact H2_) | (have H2_ := (Option.bind_some _ _).symm.trans H; with_reducible exact H2_) | with_reducible exact H | (rw [hy254]; exact H) | exact H
      have Ny254 := am hy254
      clear hy254
      obtain ⟨y257, hy257⟩ : ∃ y_ : List (S38), y_ = (([(⟨(⟨a2_0, a2_1⟩ : S36), IntKind.i8.wrap (x9_1), a2_3, a2_4, a2_5⟩ : S38)] : List (S38))) := ⟨_, rfl⟩
      replace H : (if y254.length + y257.length < 23456248059221 then ((spec_l01Right.f k1 x246000_1 x246001_1 x246002_1 (y254 ++ y257)).bind fun bt263 => (if bt263.1 = true then (some (x9_1, 0)) else (spec_LongestChain.l0 k1 l1 (wrap64 (x9_1 - 1)) bt263.2.1 bt263.2.2.1 bt263.2.2.2 a2_0 a2_1 (IntKind.i8.wrap (x9_1)) a2_3 a2_4 a2_5))) else (none)) = some (r1, r2) := by first | (rw [hy257]; with_reducible exact H) | (have H2_ := (Option.bind_some _ _).symm.trans H; rw [hy257]; with_reducible exact H2_) | (have H2_ := (Option.bind_some _ _).symm.trans H; with_reducible exact H2_) | with_reducible exact H | (rw [hy257]; exact H) | exact H
      have Ny257 := am hy257
      clear hy257
      by_cases c13 : y254.length + y257.length < 23456248059221
      ·rw [if_pos c13] at H
       have LMc13 := am c13
       clear c13
       obtain ⟨y260, hy260⟩ : ∃ y_ : List (S38), y_ = (y254 ++ y257) := ⟨_, rfl⟩
       replace H : ((spec_l01Right.f k1 x246000_1 x246001_1 x246002_1 y260).bind fun bt263 => (if bt263.1 = true then (some (x9_1, 0)) else (spec_LongestChain.l0 k1 l1 (wrap64 (x9_1 - 1)) bt263.2.1 bt263.2.2.1 bt263.2.2.2 a2_0 a2_1 (IntKind.i8.wrap (x9_1)) a2_3 a2_4 a2_5))) = some (r1, r2) := by first | (rw [hy260]; with_reducible exact H) | (have H2_ := (Option.bind_some _ _).symm.trans H; rw [hy260]; with_reducible exact H2_) | (have H2_ := (Option.bind_some _ _).symm.trans H; with_reducible exact H2_) | with_reducible exact H | (rw [hy260]; exact H) | exact H
       have Ny260 := am hy260
       clear hy260
       replace H := Option.bind_eq_some_iff.mp H
       obtain ⟨⟨t263, t264, t265, t266⟩, A140, H⟩ := H
       try dsimp only at H
       have A14 := am A140
       clear A140
       by_cases c15 : t263 = true
       ·subst c15
        rw [if_pos rfl] at H
        simp only [Option.some.injEq, Prod.mk.injEq] at H
        obtain ⟨rfl, rfl⟩ := H
        have hnb16 := NB246_245.out
        have hnc16 := NB245_246.out
        obtain ⟨hcz17_0, hcz17_1, hcz17_2, hcz17_3, hcz17_4, hcz17_5, hfz17_0, hfz17_1, hfz17_2, hfz17_3, hfz17_4, hfz17_5⟩ := bx6 BK246
        try go_wp2
        have n0_ : Aside0 ((wr.setCell ⟨gb246, 2, none⟩ (.int .i8 (IntKind.i8.wrap (x9_1)))).heap[gb246]? = some (.cells #[.int .i8 a2_0, .int .i8 a2_1, .int .i8 (IntKind.i8.wrap (x9_1)), .int .i8 a2_3, .int .i8 a2_4, .int .i8 a2_5] 38 (0, 0))) := ⟨by (with_reducible repeat (first | refine blk_drewN ?_ _ | refine blk_drew ?_ | refine blk_alloc ?_ _)); refine blk_put (cs := #[.int .i8 a2_0, .int .i8 a2_1, .int .i8 x247002_1, .int .i8 a2_3, .int .i8 a2_4, .int .i8 a2_5]) ?_ 2 _ rfl; exact kb BK246⟩
        have n1_ : Aside0 (IsS28 w (wr.setCell ⟨gb246, 2, none⟩ (.int .i8 (IntKind.i8.wrap (x9_1)))) gb245 x246000_1 x246001_1 x246002_1) := ⟨si28 HI245⟩
        have n2_ : Aside0 (Below w.heap.size w (wr.setCell ⟨gb246, 2, none⟩ (.int .i8 (IntKind.i8.wrap (x9_1))))) := ⟨be HB⟩
        (try clear BK246)
        (try clear HI245)
        (try clear HB)
        generalize (wr.setCell ⟨gb246, 2, none⟩ (.int .i8 (IntKind.i8.wrap (x9_1)))) = w18 at n0_ n1_ n2_ ⊢
        have BK246 := n0_
        have HI245 := n1_
        have HB := n2_
        clear n0_ n1_ n2_
        have n0_ := am (blk_drew BK246.out)
        have n1_ := am (IsS28.drew HI245.out)
        have n2_ := am (below_drew1 HB.out)
        clear BK246
        clear HI245
        clear HB
        have BK246 := n0_
        have HI245 := n1_
        have HB := n2_
        clear n0_ n1_ n2_
        refine start_ (n := 7) (S := fun w' => w'.cell? ⟨gb246, 0, none⟩ = some (.int .i8 a2_0) ∧ w'.cell? ⟨gb246, 1, none⟩ = some (.int .i8 a2_1) ∧ w'.cell? ⟨gb246, 2, none⟩ = some (.int .i8 (IntKind.i8.wrap (x9_1))) ∧ w'.cell? ⟨gb246, 3, none⟩ = some (.int .i8 a2_3) ∧ w'.cell? ⟨gb246, 4, none⟩ = some (.int .i8 a2_4) ∧ w'.cell? ⟨gb246, 5, none⟩ = some (.int .i8 a2_5)) (ds := []) #[false, false, false, false, false, false, false] (by kernel_rfl) rfl rfl ⟨(blk_cell BK246.out 0).trans rfl, (blk_cell BK246.out 1).trans rfl, (blk_cell BK246.out 2).trans rfl, (blk_cell BK246.out 3).trans rfl, (blk_cell BK246.out 4).trans rfl, (blk_cell BK246.out 5).trans rfl⟩ (fun hHeld => ?_)
        generalize w18.drew = w19 at BK246 HI245 HB hHeld ⊢
        refine pure_ (i := 1) (N := some 24) (v := ?_) (a' := ?_) #[false, true, false, false, false, false, false] rfl rfl (by kernel_rfl) (fun _ _ _ h => h) (Or.inl ⟨by rfl, ?_⟩) ?_ ?_
        rotate_left
        ·intro w'
         go_simp
         with_reducible rfl
        rotate_left
        ·simp only [Act.put, List.setIfInBounds_toArray, List.set_cons_zero, List.set_cons_succ, i64_w, i32_w]
         rfl
        refine take_ (i := 3) (N := some 26) (v := ?_) (a' := ?_) #[false, true, false, true, false, false, false] rfl rfl (by kernel_rfl) (fun _ _ _ h => h) (Or.inl ⟨by rfl, ?_⟩) hHeld ?_ ?_
        rotate_left
        ·rintro w' ⟨s0, s1, s2, s3, s4, s5⟩
         go_simp
         with_reducible rfl
        rotate_left
        ·simp only [Act.put, List.setIfInBounds_toArray, List.set_cons_zero, List.set_cons_succ, i64_w, i32_w]
         rfl
        refine join_ (σ := Value × Value × Value) 2 #[true, true, true, true, true, false, false] (fun s_ => [(23, s_.1), (25, s_.2.1), (27, s_.2.2)]) (fun s_ w' => (w'.cell? ⟨gb246, 0, none⟩ = some (.int .i8 a2_0) ∧ w'.cell? ⟨gb246, 1, none⟩ = some (.int .i8 a2_1) ∧ w'.cell? ⟨gb246, 2, none⟩ = some (.int .i8 (IntKind.i8.wrap (x9_1))) ∧ w'.cell? ⟨gb246, 3, none⟩ = some (.int .i8 a2_3) ∧ w'.cell? ⟨gb246, 4, none⟩ = some (.int .i8 a2_4) ∧ w'.cell? ⟨gb246, 5, none⟩ = some (.int .i8 a2_5)) ∧ (Kd.R k38 38 w' w.heap.size (fun k_ => some k_ ≠ (s_.2.2 : Value).ownBlock ∧ k_ ≠ gb246) s_.2.1 y254) ∧ (Kd.R k38 38 w' w.heap.size (fun k_ => some k_ ≠ (s_.2.1 : Value).ownBlock ∧ k_ ≠ gb246) s_.2.2 y257) ∧ (w'.heap[gb246]? = some (.cells #[.int .i8 a2_0, .int .i8 a2_1, .int .i8 (IntKind.i8.wrap (x9_1)), .int .i8 a2_3, .int .i8 a2_4, .int .i8 a2_5] 38 (0, 0))) ∧ (IsS28 w w' gb245 x246000_1 x246001_1 x246002_1) ∧ (Below w.heap.size w w')) ?_ ?_
        rotate_left
        ·intro hCont
         refine two_ (i := 0) (j := 4) (Ni := some 23) (Nj := some 27) #[true, true, false, true, false, false, false] #[false, true, false, true, true, false, false] rfl rfl rfl rfl (by kernel_rfl) (by decide) (by decide) (fun K hK => ?_) (fun K hK => ?_)
         ·skip
          refine Kd.R_lit_step k38 _ 38 ?hg (N := 23) ?hd (xs := ([] : List (S38))) (inner := []) (ok := fun _ => True) (okp := fun _ => True) ?hr ?hp (fun _ hk => hk) trivial (Below.refl _ _) (Nat.le_refl _) (by simp) ?_; (case hd => rfl); (case hg => rfl); (case hr => first | (go_simp; done) | (go_simp; rfl)); (case hp => exact (Reps.none _ _))
          intro v252 w20 ho21 hb hg_ hnew_
          clear hg_ hnew_
          (first | rw [← Ny251.out] at ho21 | (simp only [Int.reduceToNat] at ho21; rw [← Ny251.out] at ho21))
          have n0_ := am (Kd.R_lower (Kd.R_newB ho21 (g := gb246) (o := .cells #[.int .i8 a2_0, .int .i8 a2_1, .int .i8 (IntKind.i8.wrap (x9_1)), .int .i8 a2_3, .int .i8 a2_4, .int .i8 a2_5] 38 (0, 0)) (kb BK246)) (below_size (be HB)))
          have n1_ := bB BK246 hb
          have n2_ := am (IsS28.below (si28 HI245) hb)
          have n3_ := am (below_step (be HB) hb)
          clear BK246
          clear HI245
          clear HB
          have HO253 := n0_
          have BK246 := n1_
          have HI245 := n2_
          have HB := n3_
          clear n0_ n1_ n2_ n3_
          clear hb ho21
          refine hK.out _ _ ⟨(blk_cell BK246.out 0).trans rfl, (blk_cell BK246.out 1).trans rfl, (blk_cell BK246.out 2).trans rfl, (blk_cell BK246.out 3).trans rfl, (blk_cell BK246.out 4).trans rfl, (blk_cell BK246.out 5).trans rfl⟩ (fun hHeld => ?_)
          clear hK K
          refine norm_ (a' := ?_) ?_ ?_
          rotate_left
          ·show Act.put _ (some 23) _ = _
           simp only [Act.put, List.setIfInBounds_toArray, List.set_cons_zero, List.set_cons_succ, i64_w, i32_w]
           rfl
          refine two_ (i := 2) (j := 4) (Ni := some 25) (Nj := some 27) #[true, true, true, true, false, false, false] #[true, true, false, true, true, false, false] rfl rfl rfl rfl (by kernel_rfl) (by decide) (by decide) (fun K hK => ?_) (fun K hK => ?_)
          ·skip
           refine Kd.R_append_rows_step k38 (w0 := w) w.heap.size (by rfl) (.tmp 23) (.tmp 24) 44 38 (.agg #[(.int .i8 0), (.int .i8 0), (.int .i8 0), (.int .i8 0), (.int .i8 0), (.int .i8 0)]) 6 rfl Try.underlying44 info38 rfl (by decide) (by omega) v252 y251 l1 _ _ _ (fun k_ => k_ ≠ gb246) (fun _ => False) rfl rfl ?aO ?aR (fun _ _ h => h) (fun _ h => h.elim) ?aF ?aB ?aS ?aL ?_
           (case aR => repeat (first | exact (Kd.C_below HR1.out HB.out) | (with_reducible refine Kd.C_alloc ?_ _) | (with_reducible refine Kd.C_drewN ?_ _) | (with_reducible refine Kd.C_drew ?_)))
           (case aB => exact (be HB))
           (case aF => exact (fun k_ hk => Kd.freshB (g := gb246) (o := .cells #[.int .i8 a2_0, .int .i8 a2_1, .int .i8 (IntKind.i8.wrap (x9_1)), .int .i8 a2_3, .int .i8 a2_4, .int .i8 a2_5] 38 (0, 0)) (kb BK246) k_ hk))
           (case aO => exact (by (with_reducible repeat (first | apply Kd.R_alloc | apply Kd.R_drewN | apply Kd.R_drew)); exact Kd.R_mono HO253.out (fun _ hk => hk.2)))
           (case aS => exact (below_size (be HB)))
           (case aL => have := LMc12.out; omega)
           intro v255 w22 ho hb hg hat
           rw [← Ny254.out] at ho
           have n0_ := am (blk_grown (g := gb246) (o := .cells #[.int .i8 a2_0, .int .i8 a2_1, .int .i8 (IntKind.i8.wrap (x9_1)), .int .i8 a2_3, .int .i8 a2_4, .int .i8 a2_5] 38 (0, 0)) (kb BK246) hg (Kd.R_away HO253.out (fun _ hk => hk.2)))
           have n1_ := am (IsS28.grown (si28 HI245) hg (IsS28.own_ne HI245.out HO253.out (by decide)))
           have n2_ := am (hb)
           have n3_ := am (ho)
           clear BK246
           clear HI245
           clear HB
           clear HO253
           have BK246 := n0_
           have HI245 := n1_
           have HB := n2_
           have HO256 := n3_
           clear n0_ n1_ n2_ n3_
           clear ho hb hg hat
           refine hK.out _ _ ⟨(blk_cell BK246.out 0).trans rfl, (blk_cell BK246.out 1).trans rfl, (blk_cell BK246.out 2).trans rfl, (blk_cell BK246.out 3).trans rfl, (blk_cell BK246.out 4).trans rfl, (blk_cell BK246.out 5).trans rfl⟩ (fun hHeld => ?_)
           clear hK K
           refine norm_ (a' := ?_) ?_ ?_
           rotate_left
           ·show Act.put _ (some 25) _ = _
            simp only [Act.put, List.setIfInBounds_toArray, List.set_cons_zero, List.set_cons_succ, i64_w, i32_w]
            rfl
           refine one_ (i := 4) (N := some 27) #[true, true, true, true, true, false, false] rfl rfl (by kernel_rfl) (by decide) (fun K hK => ?_)
           refine Kd.R_lit_step k38 _ 38 ?hg (N := 27) ?hd (xs := ([(⟨(⟨a2_0, a2_1⟩ : S36), IntKind.i8.wrap (x9_1), a2_3, a2_4, a2_5⟩ : S38)] : List (S38))) (inner := [.int .i8 a2_0, .int .i8 a2_1, .int .i8 (IntKind.i8.wrap (x9_1)), .int .i8 a2_3, .int .i8 a2_4, .int .i8 a2_5]) (ok := fun _ => True) (okp := fun _ => True) ?hr ?hp (fun _ hk => hk) trivial (Below.refl _ _) (Nat.le_refl _) (by simp) ?_; (case hd => rfl); (case hg => rfl); (case hr => first | (go_simp; done) | (go_simp; rfl)); (case hp => exact (Reps.c6 (show Kd.M k38 _ _ _ (⟨(⟨a2_0, a2_1⟩ : S36), IntKind.i8.wrap (x9_1), a2_3, a2_4, a2_5⟩ : S38) [.int .i8 a2_0, .int .i8 a2_1, .int .i8 (IntKind.i8.wrap (x9_1)), .int .i8 a2_3, .int .i8 a2_4, .int .i8 a2_5] from (k38_mkM _ _ _ (⟨(⟨a2_0, a2_1⟩ : S36), IntKind.i8.wrap (x9_1), a2_3, a2_4, a2_5⟩ : S38) )) (Reps.none _ _)))
           intro v258 w23 ho24 hb hg_ hnew_
           clear hg_ hnew_
           (first | rw [← Ny257.out] at ho24 | (simp only [Int.reduceToNat] at ho24; rw [← Ny257.out] at ho24))
           have n0_ := am (Kd.R_elder' (kr HO256) (Kd.R_base ho24) hb)
           have n1_ := am (Kd.R_lower (Kd.R_newB (Kd.R_new' ho24 (Kd.R_lt (kr HO256))) (g := gb246) (o := .cells #[.int .i8 a2_0, .int .i8 a2_1, .int .i8 (IntKind.i8.wrap (x9_1)), .int .i8 a2_3, .int .i8 a2_4, .int .i8 a2_5] 38 (0, 0)) (kb BK246)) (below_size (be HB)))
           have n2_ := bB BK246 hb
           have n3_ := am (IsS28.below (si28 HI245) hb)
           have n4_ := am (below_step (be HB) hb)
           clear HO256
           clear BK246
           clear HI245
           clear HB
           have HO256 := n0_
           have HO259 := n1_
           have BK246 := n2_
           have HI245 := n3_
           have HB := n4_
           clear n0_ n1_ n2_ n3_ n4_
           clear hb ho24
           refine hK.out _ _ ⟨(blk_cell BK246.out 0).trans rfl, (blk_cell BK246.out 1).trans rfl, (blk_cell BK246.out 2).trans rfl, (blk_cell BK246.out 3).trans rfl, (blk_cell BK246.out 4).trans rfl, (blk_cell BK246.out 5).trans rfl⟩ (fun hHeld => ?_)
           clear hK K
           refine norm_ (a' := ?_) ?_ ?_
           rotate_left
           ·show Act.put _ (some 27) _ = _
            simp only [Act.put, List.setIfInBounds_toArray, List.set_cons_zero, List.set_cons_succ, i64_w, i32_w]
            rfl
           exact norm_ (by simp only [putAll, Act.put, List.setIfInBounds_toArray, List.set_cons_zero, List.set_cons_succ]) (hCont (v252, v255, v258) _ ⟨hHeld, (by (with_reducible repeat (first | apply Kd.R_alloc | apply Kd.R_drewN | apply Kd.R_drew)); exact Kd.R_mono HO256.out (fun _ hk => ⟨hk.2, hk.1⟩)), (by (with_reducible repeat (first | apply Kd.R_alloc | apply Kd.R_drewN | apply Kd.R_drew)); exact Kd.R_mono HO259.out (fun _ hk => ⟨hk.1.2, hk.2⟩)), (kb BK246), (si28 HI245), (be HB)⟩)
          ·skip
           refine Kd.R_lit_step k38 _ 38 ?hg (N := 27) ?hd (xs := ([(⟨(⟨a2_0, a2_1⟩ : S36), IntKind.i8.wrap (x9_1), a2_3, a2_4, a2_5⟩ : S38)] : List (S38))) (inner := [.int .i8 a2_0, .int .i8 a2_1, .int .i8 (IntKind.i8.wrap (x9_1)), .int .i8 a2_3, .int .i8 a2_4, .int .i8 a2_5]) (ok := fun _ => True) (okp := fun _ => True) ?hr ?hp (fun _ hk => hk) trivial (Below.refl _ _) (Nat.le_refl _) (by simp) ?_; (case hd => rfl); (case hg => rfl); (case hr => first | (go_simp; done) | (go_simp; rfl)); (case hp => exact (Reps.c6 (show Kd.M k38 _ _ _ (⟨(⟨a2_0, a2_1⟩ : S36), IntKind.i8.wrap (x9_1), a2_3, a2_4, a2_5⟩ : S38) [.int .i8 a2_0, .int .i8 a2_1, .int .i8 (IntKind.i8.wrap (x9_1)), .int .i8 a2_3, .int .i8 a2_4, .int .i8 a2_5] from (k38_mkM _ _ _ (⟨(⟨a2_0, a2_1⟩ : S36), IntKind.i8.wrap (x9_1), a2_3, a2_4, a2_5⟩ : S38) )) (Reps.none _ _)))
           intro v258 w22 ho23 hb hg_ hnew_
           clear hg_ hnew_
           (first | rw [← Ny257.out] at ho23 | (simp only [Int.reduceToNat] at ho23; rw [← Ny257.out] at ho23))
           have n0_ := am (Kd.R_elder' (kr HO253) (Kd.R_base ho23) hb)
           have n1_ := am (Kd.R_lower (Kd.R_newB (Kd.R_new' ho23 (Kd.R_lt (kr HO253))) (g := gb246) (o := .cells #[.int .i8 a2_0, .int .i8 a2_1, .int .i8 (IntKind.i8.wrap (x9_1)), .int .i8 a2_3, .int .i8 a2_4, .int .i8 a2_5] 38 (0, 0)) (kb BK246)) (below_size (be HB)))
           have n2_ := bB BK246 hb
           have n3_ := am (IsS28.below (si28 HI245) hb)
           have n4_ := am (below_step (be HB) hb)
           clear HO253
           clear BK246
           clear HI245
           clear HB
           have HO253 := n0_
           have HO259 := n1_
           have BK246 := n2_
           have HI245 := n3_
           have HB := n4_
           clear n0_ n1_ n2_ n3_ n4_
           clear hb ho23
           refine hK.out _ _ ⟨(blk_cell BK246.out 0).trans rfl, (blk_cell BK246.out 1).trans rfl, (blk_cell BK246.out 2).trans rfl, (blk_cell BK246.out 3).trans rfl, (blk_cell BK246.out 4).trans rfl, (blk_cell BK246.out 5).trans rfl⟩ (fun hHeld => ?_)
           clear hK K
           refine norm_ (a' := ?_) ?_ ?_
           rotate_left
           ·show Act.put _ (some 27) _ = _
            simp only [Act.put, List.setIfInBounds_toArray, List.set_cons_zero, List.set_cons_succ, i64_w, i32_w]
            rfl
           refine one_ (i := 2) (N := some 25) #[true, true, true, true, true, false, false] rfl rfl (by kernel_rfl) (by decide) (fun K hK => ?_)
           refine Kd.R_append_rows_step k38 (w0 := w) w.heap.size (by rfl) (.tmp 23) (.tmp 24) 44 38 (.agg #[(.int .i8 0), (.int .i8 0), (.int .i8 0), (.int .i8 0), (.int .i8 0), (.int .i8 0)]) 6 rfl Try.underlying44 info38 rfl (by decide) (by omega) v252 y251 l1 _ _ _ (fun k_ => some k_ ≠ (v258 : Value).ownBlock ∧ k_ ≠ gb246) (fun _ => False) rfl rfl ?aO ?aR (fun _ _ h => h) (fun _ h => h.elim) ?aF ?aB ?aS ?aL ?_
           (case aR => repeat (first | exact (Kd.C_below HR1.out HB.out) | (with_reducible refine Kd.C_alloc ?_ _) | (with_reducible refine Kd.C_drewN ?_ _) | (with_reducible refine Kd.C_drew ?_)))
           (case aB => exact (be HB))
           (case aF => exact (fun k_ hk => ⟨Kd.fresh' (Kd.R_lt (kr HO259)) k_ hk, Kd.freshB (g := gb246) (o := .cells #[.int .i8 a2_0, .int .i8 a2_1, .int .i8 (IntKind.i8.wrap (x9_1)), .int .i8 a2_3, .int .i8 a2_4, .int .i8 a2_5] 38 (0, 0)) (kb BK246) k_ hk⟩))
           (case aO => exact (by (with_reducible repeat (first | apply Kd.R_alloc | apply Kd.R_drewN | apply Kd.R_drew)); exact Kd.R_mono HO253.out (fun _ hk => ⟨hk.2, hk.1.2⟩)))
           (case aS => exact (below_size (be HB)))
           (case aL => have := LMc12.out; omega)
           intro v255 w24 ho hb hg hat
           rw [← Ny254.out] at ho
           have n0_ := am (blk_grown (g := gb246) (o := .cells #[.int .i8 a2_0, .int .i8 a2_1, .int .i8 (IntKind.i8.wrap (x9_1)), .int .i8 a2_3, .int .i8 a2_4, .int .i8 a2_5] 38 (0, 0)) (kb BK246) hg (Kd.R_away HO253.out (fun _ hk => hk.1.2)))
           have n1_ := am (IsS28.grown (si28 HI245) hg (IsS28.own_ne HI245.out HO253.out (by decide)))
           have n2_ := am (Kd.R_after (ok := (fun k_ => k_ ≠ gb246)) (by (with_reducible repeat (first | apply Kd.R_alloc | apply Kd.R_drewN | apply Kd.R_drew)); exact Kd.R_mono HO259.out (fun _ hk => ⟨hk.2, hk.1.2⟩)) hg hat)
           have n3_ := am (hb)
           have n4_ := am (ho)
           clear BK246
           clear HI245
           clear HO259
           clear HB
           clear HO253
           have BK246 := n0_
           have HI245 := n1_
           have HO259 := n2_
           have HB := n3_
           have HO256 := n4_
           clear n0_ n1_ n2_ n3_ n4_
           clear ho hb hg hat
           refine hK.out _ _ ⟨(blk_cell BK246.out 0).trans rfl, (blk_cell BK246.out 1).trans rfl, (blk_cell BK246.out 2).trans rfl, (blk_cell BK246.out 3).trans rfl, (blk_cell BK246.out 4).trans rfl, (blk_cell BK246.out 5).trans rfl⟩ (fun hHeld => ?_)
           clear hK K
           refine norm_ (a' := ?_) ?_ ?_
           rotate_left
           ·show Act.put _ (some 25) _ = _
            simp only [Act.put, List.setIfInBounds_toArray, List.set_cons_zero, List.set_cons_succ, i64_w, i32_w]
            rfl
           exact norm_ (by simp only [putAll, Act.put, List.setIfInBounds_toArray, List.set_cons_zero, List.set_cons_succ]) (hCont (v252, v255, v258) _ ⟨hHeld, (kr HO256), (by (with_reducible repeat (first | apply Kd.R_alloc | apply Kd.R_drewN | apply Kd.R_drew)); exact Kd.R_mono HO259.out (fun _ hk => ⟨hk.2, hk.1⟩)), (kb BK246), (si28 HI245), (be HB)⟩)
         ·skip
          refine Kd.R_lit_step k38 _ 38 ?hg (N := 27) ?hd (xs := ([(⟨(⟨a2_0, a2_1⟩ : S36), IntKind.i8.wrap (x9_1), a2_3, a2_4, a2_5⟩ : S38)] : List (S38))) (inner := [.int .i8 a2_0, .int .i8 a2_1, .int .i8 (IntKind.i8.wrap (x9_1)), .int .i8 a2_3, .int .i8 a2_4, .int .i8 a2_5]) (ok := fun _ => True) (okp := fun _ => True) ?hr ?hp (fun _ hk => hk) trivial (Below.refl _ _) (Nat.le_refl _) (by simp) ?_; (case hd => rfl); (case hg => rfl); (case hr => first | (go_simp; done) | (go_simp; rfl)); (case hp => exact (Reps.c6 (show Kd.M k38 _ _ _ (⟨(⟨a2_0, a2_1⟩ : S36), IntKind.i8.wrap (x9_1), a2_3, a2_4, a2_5⟩ : S38) [.int .i8 a2_0, .int .i8 a2_1, .int .i8 (IntKind.i8.wrap (x9_1)), .int .i8 a2_3, .int .i8 a2_4, .int .i8 a2_5] from (k38_mkM _ _ _ (⟨(⟨a2_0, a2_1⟩ : S36), IntKind.i8.wrap (x9_1), a2_3, a2_4, a2_5⟩ : S38) )) (Reps.none _ _)))
          intro v258 w20 ho21 hb hg_ hnew_
          clear hg_ hnew_
          (first | rw [← Ny257.out] at ho21 | (simp only [Int.reduceToNat] at ho21; rw [← Ny257.out] at ho21))
          have n0_ := am (Kd.R_lower (Kd.R_newB ho21 (g := gb246) (o := .cells #[.int .i8 a2_0, .int .i8 a2_1, .int .i8 (IntKind.i8.wrap (x9_1)), .int .i8 a2_3, .int .i8 a2_4, .int .i8 a2_5] 38 (0, 0)) (kb BK246)) (below_size (be HB)))
          have n1_ := bB BK246 hb
          have n2_ := am (IsS28.below (si28 HI245) hb)
          have n3_ := am (below_step (be HB) hb)
          clear BK246
          clear HI245
          clear HB
          have HO259 := n0_
          have BK246 := n1_
          have HI245 := n2_
          have HB := n3_
          clear n0_ n1_ n2_ n3_
          clear hb ho21
          refine hK.out _ _ ⟨(blk_cell BK246.out 0).trans rfl, (blk_cell BK246.out 1).trans rfl, (blk_cell BK246.out 2).trans rfl, (blk_cell BK246.out 3).trans rfl, (blk_cell BK246.out 4).trans rfl, (blk_cell BK246.out 5).trans rfl⟩ (fun hHeld => ?_)
          clear hK K
          refine norm_ (a' := ?_) ?_ ?_
          rotate_left
          ·show Act.put _ (some 27) _ = _
           simp only [Act.put, List.setIfInBounds_toArray, List.set_cons_zero, List.set_cons_succ, i64_w, i32_w]
           rfl
          refine one_ (i := 0) (N := some 23) #[true, true, false, true, true, false, false] rfl rfl (by kernel_rfl) (by decide) (fun K hK => ?_)
          refine Kd.R_lit_step k38 _ 38 ?hg (N := 23) ?hd (xs := ([] : List (S38))) (inner := []) (ok := fun _ => True) (okp := fun _ => True) ?hr ?hp (fun _ hk => hk) trivial (Below.refl _ _) (Nat.le_refl _) (by simp) ?_; (case hd => rfl); (case hg => rfl); (case hr => first | (go_simp; done) | (go_simp; rfl)); (case hp => exact (Reps.none _ _))
          intro v252 w22 ho23 hb hg_ hnew_
          clear hg_ hnew_
          (first | rw [← Ny251.out] at ho23 | (simp only [Int.reduceToNat] at ho23; rw [← Ny251.out] at ho23))
          have n0_ := am (Kd.R_elder' (kr HO259) (Kd.R_base ho23) hb)
          have n1_ := am (Kd.R_lower (Kd.R_newB (Kd.R_new' ho23 (Kd.R_lt (kr HO259))) (g := gb246) (o := .cells #[.int .i8 a2_0, .int .i8 a2_1, .int .i8 (IntKind.i8.wrap (x9_1)), .int .i8 a2_3, .int .i8 a2_4, .int .i8 a2_5] 38 (0, 0)) (kb BK246)) (below_size (be HB)))
          have n2_ := bB BK246 hb
          have n3_ := am (IsS28.below (si28 HI245) hb)
          have n4_ := am (below_step (be HB) hb)
          clear HO259
          clear BK246
          clear HI245
          clear HB
          have HO259 := n0_
          have HO253 := n1_
          have BK246 := n2_
          have HI245 := n3_
          have HB := n4_
          clear n0_ n1_ n2_ n3_ n4_
          clear hb ho23
          refine hK.out _ _ ⟨(blk_cell BK246.out 0).trans rfl, (blk_cell BK246.out 1).trans rfl, (blk_cell BK246.out 2).trans rfl, (blk_cell BK246.out 3).trans rfl, (blk_cell BK246.out 4).trans rfl, (blk_cell BK246.out 5).trans rfl⟩ (fun hHeld => ?_)
          clear hK K
          refine norm_ (a' := ?_) ?_ ?_
          rotate_left
          ·show Act.put _ (some 23) _ = _
           simp only [Act.put, List.setIfInBounds_toArray, List.set_cons_zero, List.set_cons_succ, i64_w, i32_w]
           rfl
          refine one_ (i := 2) (N := some 25) #[true, true, true, true, true, false, false] rfl rfl (by kernel_rfl) (by decide) (fun K hK => ?_)
          refine Kd.R_append_rows_step k38 (w0 := w) w.heap.size (by rfl) (.tmp 23) (.tmp 24) 44 38 (.agg #[(.int .i8 0), (.int .i8 0), (.int .i8 0), (.int .i8 0), (.int .i8 0), (.int .i8 0)]) 6 rfl Try.underlying44 info38 rfl (by decide) (by omega) v252 y251 l1 _ _ _ (fun k_ => some k_ ≠ (v258 : Value).ownBlock ∧ k_ ≠ gb246) (fun _ => False) rfl rfl ?aO ?aR (fun _ _ h => h) (fun _ h => h.elim) ?aF ?aB ?aS ?aL ?_
          (case aR => repeat (first | exact (Kd.C_below HR1.out HB.out) | (with_reducible refine Kd.C_alloc ?_ _) | (with_reducible refine Kd.C_drewN ?_ _) | (with_reducible refine Kd.C_drew ?_)))
          (case aB => exact (be HB))
          (case aF => exact (fun k_ hk => ⟨Kd.fresh' (Kd.R_lt (kr HO259)) k_ hk, Kd.freshB (g := gb246) (o := .cells #[.int .i8 a2_0, .int .i8 a2_1, .int .i8 (IntKind.i8.wrap (x9_1)), .int .i8 a2_3, .int .i8 a2_4, .int .i8 a2_5] 38 (0, 0)) (kb BK246) k_ hk⟩))
          (case aO => exact (by (with_reducible repeat (first | apply Kd.R_alloc | apply Kd.R_drewN | apply Kd.R_drew)); exact Kd.R_mono HO253.out (fun _ hk => ⟨hk.1.2, hk.2⟩)))
          (case aS => exact (below_size (be HB)))
          (case aL => have := LMc12.out; omega)
          intro v255 w24 ho hb hg hat
          rw [← Ny254.out] at ho
          have n0_ := am (blk_grown (g := gb246) (o := .cells #[.int .i8 a2_0, .int .i8 a2_1, .int .i8 (IntKind.i8.wrap (x9_1)), .int .i8 a2_3, .int .i8 a2_4, .int .i8 a2_5] 38 (0, 0)) (kb BK246) hg (Kd.R_away HO253.out (fun _ hk => hk.2)))
          have n1_ := am (IsS28.grown (si28 HI245) hg (IsS28.own_ne HI245.out HO253.out (by decide)))
          have n2_ := am (Kd.R_after (ok := (fun k_ => k_ ≠ gb246)) (by (with_reducible repeat (first | apply Kd.R_alloc | apply Kd.R_drewN | apply Kd.R_drew)); exact Kd.R_mono HO259.out (fun _ hk => ⟨hk.1.2, hk.2⟩)) hg hat)
          have n3_ := am (hb)
          have n4_ := am (ho)
          clear BK246
          clear HI245
          clear HO259
          clear HB
          clear HO253
          have BK246 := n0_
          have HI245 := n1_
          have HO259 := n2_
          have HB := n3_
          have HO256 := n4_
          clear n0_ n1_ n2_ n3_ n4_
          clear ho hb hg hat
          refine hK.out _ _ ⟨(blk_cell BK246.out 0).trans rfl, (blk_cell BK246.out 1).trans rfl, (blk_cell BK246.out 2).trans rfl, (blk_cell BK246.out 3).trans rfl, (blk_cell BK246.out 4).trans rfl, (blk_cell BK246.out 5).trans rfl⟩ (fun hHeld => ?_)
          clear hK K
          refine norm_ (a' := ?_) ?_ ?_
          rotate_left
          ·show Act.put _ (some 25) _ = _
           simp only [Act.put, List.setIfInBounds_toArray, List.set_cons_zero, List.set_cons_succ, i64_w, i32_w]
           rfl
          exact norm_ (by simp only [putAll, Act.put, List.setIfInBounds_toArray, List.set_cons_zero, List.set_cons_succ]) (hCont (v252, v255, v258) _ ⟨hHeld, (kr HO256), (by (with_reducible repeat (first | apply Kd.R_alloc | apply Kd.R_drewN | apply Kd.R_drew)); exact Kd.R_mono HO259.out (fun _ hk => ⟨hk.2, hk.1⟩)), (kb BK246), (si28 HI245), (be HB)⟩)
        rintro ⟨v252, v255, v258⟩ w25 ⟨hS_, h0_, h1_, h2_, h3_, h4_⟩
        have n0_ : Aside0 (Kd.R k38 38 w25 w.heap.size (fun k_ => some k_ ≠ (v258 : Value).ownBlock ∧ k_ ≠ gb246) v255 y254) := ⟨h0_⟩
        have n1_ : Aside0 (Kd.R k38 38 w25 w.heap.size (fun k_ => some k_ ≠ (v255 : Value).ownBlock ∧ k_ ≠ gb246) v258 y257) := ⟨h1_⟩
        have n2_ : Aside0 (w25.heap[gb246]? = some (.cells #[.int .i8 a2_0, .int .i8 a2_1, .int .i8 (IntKind.i8.wrap (x9_1)), .int .i8 a2_3, .int .i8 a2_4, .int .i8 a2_5] 38 (0, 0))) := ⟨h2_⟩
        have n3_ : Aside0 (IsS28 w w25 gb245 x246000_1 x246001_1 x246002_1) := ⟨h3_⟩
        have n4_ : Aside0 (Below w.heap.size w w25) := ⟨h4_⟩
        clear BK246
        clear HI245
        clear HB
        clear h0_ h1_ h2_ h3_ h4_
        have HO256 := n0_
        have HO259 := n1_
        have BK246 := n2_
        have HI245 := n3_
        have HB := n4_
        clear n0_ n1_ n2_ n3_ n4_
        have hHeld : w25.cell? ⟨gb246, 0, none⟩ = some (.int .i8 a2_0) ∧ w25.cell? ⟨gb246, 1, none⟩ = some (.int .i8 a2_1) ∧ w25.cell? ⟨gb246, 2, none⟩ = some (.int .i8 (IntKind.i8.wrap (x9_1))) ∧ w25.cell? ⟨gb246, 3, none⟩ = some (.int .i8 a2_3) ∧ w25.cell? ⟨gb246, 4, none⟩ = some (.int .i8 a2_4) ∧ w25.cell? ⟨gb246, 5, none⟩ = some (.int .i8 a2_5) := hS_
        obtain ⟨Ao27, co27, eo27⟩ := Kd.R_slice HO259.out
        (first | subst eo27 | (injection eo27 with f1_ f2_ f3_; have f4_ := f1_.symm; have f5_ := f3_.symm; clear f1_ f2_ f3_; subst f4_; subst f5_))
        refine norm_ (a' := ?_) ?_ ?_
        rotate_left
        ·simp only [putAll, Act.put, List.setIfInBounds_toArray, List.set_cons_zero, List.set_cons_succ]
         rfl
        refine one_ (i := 5) (N := some 28) #[true, true, true, true, true, true, false] rfl rfl (by kernel_rfl) (by decide) (fun K hK => ?_)
        refine Kd.R_append_rows_step k38 (w0 := w) w.heap.size (by rfl) (.tmp 25) (.tmp 27) 44 38 (.agg #[(.int .i8 0), (.int .i8 0), (.int .i8 0), (.int .i8 0), (.int .i8 0), (.int .i8 0)]) 6 rfl Try.underlying44 info38 rfl (by decide) (by omega) v255 y254 y257 _ _ _ (fun k_ => some k_ ≠ (.slice Ao27 y257.length co27 : Value).ownBlock ∧ k_ ≠ gb246) (fun _ => False) rfl rfl ?aO ?aR (fun _ _ h => h) (fun _ h => h.elim) ?aF ?aB ?aS ?aL ?_
        (case aR => repeat (first | exact (Kd.R_reads' HO259.out).2.2 | (with_reducible refine Kd.C_alloc ?_ _) | (with_reducible refine Kd.C_drewN ?_ _) | (with_reducible refine Kd.C_drew ?_)))
        (case aB => exact (be HB))
        (case aF => exact (fun k_ hk => ⟨Kd.fresh' (Kd.R_lt (kr HO259)) k_ hk, Kd.freshB (g := gb246) (o := .cells #[.int .i8 a2_0, .int .i8 a2_1, .int .i8 (IntKind.i8.wrap (x9_1)), .int .i8 a2_3, .int .i8 a2_4, .int .i8 a2_5] 38 (0, 0)) (kb BK246) k_ hk⟩))
        (case aO => exact (kr HO256))
        (case aS => exact (below_size (be HB)))
        (case aL => have := LMc13.out; omega)
        intro v261 w26 ho hb hg hat
        rw [← Ny260.out] at ho
        have n0_ := am (blk_grown (g := gb246) (o := .cells #[.int .i8 a2_0, .int .i8 a2_1, .int .i8 (IntKind.i8.wrap (x9_1)), .int .i8 a2_3, .int .i8 a2_4, .int .i8 a2_5] 38 (0, 0)) (kb BK246) hg (Kd.R_away HO256.out (fun _ hk => hk.2)))
        have n1_ := am (IsS28.grown (si28 HI245) hg (IsS28.own_ne HI245.out HO256.out (by decide)))
        have n2_ := am (Kd.R_after (ok := (fun k_ => k_ ≠ gb246)) (by (with_reducible repeat (first | apply Kd.R_alloc | apply Kd.R_drewN | apply Kd.R_drew)); exact Kd.R_mono HO259.out (fun _ hk => ⟨hk.2, hk.1⟩)) hg hat)
        have n3_ := am (hb)
        have n4_ := am (ho)
        clear BK246
        clear HI245
        clear HO259
        clear HB
        clear HO256
        have BK246 := n0_
        have HI245 := n1_
        have HO259 := n2_
        have HB := n3_
        have HO262 := n4_
        clear n0_ n1_ n2_ n3_ n4_
        clear ho hb hg hat
        obtain ⟨Ao28, co28, eo28⟩ := Kd.R_slice HO262.out
        (first | subst eo28 | (injection eo28 with f1_ f2_ f3_; have f4_ := f1_.symm; have f5_ := f3_.symm; clear f1_ f2_ f3_; subst f4_; subst f5_))
        refine hK.out _ _ ⟨(blk_cell BK246.out 0).trans rfl, (blk_cell BK246.out 1).trans rfl, (blk_cell BK246.out 2).trans rfl, (blk_cell BK246.out 3).trans rfl, (blk_cell BK246.out 4).trans rfl, (blk_cell BK246.out 5).trans rfl⟩ (fun hHeld => ?_)
        clear hK K
        refine norm_ (a' := ?_) ?_ ?_
        rotate_left
        ·show Act.put _ (some 28) _ = _
         simp only [Act.put, List.setIfInBounds_toArray, List.set_cons_zero, List.set_cons_succ, i64_w, i32_w]
         rfl
        refine one_ (i := 6) (N := some 29) #[true, true, true, true, true, true, true] rfl rfl (by kernel_rfl) (by decide) (fun K hK => ?_)
        refine goes_ Try.func128 (by kernel_rfl) rfl #[.pointer (some ⟨gb245, 0, none⟩), .slice Ao28 y260.length co28] (by rfl) rfl rfl (by (try simp only [List.map_toArray, List.map_cons, List.map_nil]); first | done | rfl | (simp only [List.length_drop, List.length_take]; rfl)) ?_
        with_reducible refine (spec_l01Right.calls k1 gb245 x246000_1 x246001_1 x246002_1 _ _ y260 true t264 t265 t266 w _ ?side1 ?side2 ?side3 ?side4 A14.out).mono ?_
        (case side1 => exact si28 HI245)
        (case side2 => exact be HB)
        (case side3 => exact Kd.C_foot_own (IsS28.apart (show IsS28 w _ gb245 x246000_1 x246001_1 x246002_1 from si28 HI245) (kr HO262) (by decide)) (fun _ h_ => h_.2))
        (case side4 => exact (Kd.R_reads' HO262.out).2.1)
        rintro e w29 ⟨rfl, hi, hb, hk⟩
        refine ⟨_, rfl, ?_⟩
        have n0_ := am (KeepBut.blk hk (g' := gb246) (o := .cells #[.int .i8 a2_0, .int .i8 a2_1, .int .i8 (IntKind.i8.wrap (x9_1)), .int .i8 a2_3, .int .i8 a2_4, .int .i8 a2_5] 38 (0, 0)) (kb BK246) NB246_245.out (by simp))
        have n1_ := am (Kd.R_mono (Kd.R_keep (IsS28.apart (show IsS28 w _ gb245 x246000_1 x246001_1 x246002_1 from si28 HI245) (kr HO259) (by decide)) hk (fun _ h => h.2)) (fun _ h => h.1))
        have n2_ := am (Kd.R_mono (Kd.R_keep (IsS28.apart (show IsS28 w _ gb245 x246000_1 x246001_1 x246002_1 from si28 HI245) (kr HO262) (by decide)) hk (fun _ h => h.2)) (fun _ h => h.1))
        have n3_ := am (hb)
        have n4_ := am (hi)
        clear BK246
        clear HO259
        clear HO262
        clear HB
        clear HI245
        have BK246 := n0_
        have HO259 := n1_
        have HO262 := n2_
        have HB := n3_
        have HI245 := n4_
        clear n0_ n1_ n2_ n3_ n4_
        (try clear hb)
        (try clear hb2)
        (try clear hk)
        (try clear hi)
        refine hK.out _ _ ⟨(blk_cell BK246.out 0).trans rfl, (blk_cell BK246.out 1).trans rfl, (blk_cell BK246.out 2).trans rfl, (blk_cell BK246.out 3).trans rfl, (blk_cell BK246.out 4).trans rfl, (blk_cell BK246.out 5).trans rfl⟩ (fun hHeld => ?_)
        clear hK K
        refine norm_ (a' := ?_) ?_ ?_
        rotate_left
        ·show Act.put _ (some 29) _ = _
         simp only [Act.put, List.setIfInBounds_toArray, List.set_cons_zero, List.set_cons_succ, i64_w, i32_w]
         rfl
        refine done_ (by kernel_rfl) ?_
        try go_wp2
        go_ret2
        exact ⟨by first | rfl | (simp [errW_none, errW_some] <;> rfl) | (simp [*, errW_none, errW_some] <;> rfl), be HB⟩
       ·replace c15 := Bool.eq_false_iff.mpr c15
        subst c15
        have H1 : (spec_LongestChain.l0 k1 l1 (wrap64 (x9_1 - 1)) t264 t265 t266 a2_0 a2_1 (IntKind.i8.wrap (x9_1)) a2_3 a2_4 a2_5) = some (r1, r2) := by rw [if_neg (show ¬ (false = true) by decide)] at H; exact H
        clear H
        have H := H1
        clear H1
        have H' := am H
        clear H
        have hnb30 := NB246_245.out
        have hnc30 := NB245_246.out
        obtain ⟨hcz31_0, hcz31_1, hcz31_2, hcz31_3, hcz31_4, hcz31_5, hfz31_0, hfz31_1, hfz31_2, hfz31_3, hfz31_4, hfz31_5⟩ := bx6 BK246
        try go_wp2
        have n0_ : Aside0 ((wr.setCell ⟨gb246, 2, none⟩ (.int .i8 (IntKind.i8.wrap (x9_1)))).heap[gb246]? = some (.cells #[.int .i8 a2_0, .int .i8 a2_1, .int .i8 (IntKind.i8.wrap (x9_1)), .int .i8 a2_3, .int .i8 a2_4, .int .i8 a2_5] 38 (0, 0))) := ⟨by (with_reducible repeat (first | refine blk_drewN ?_ _ | refine blk_drew ?_ | refine blk_alloc ?_ _)); refine blk_put (cs := #[.int .i8 a2_0, .int .i8 a2_1, .int .i8 x247002_1, .int .i8 a2_3, .int .i8 a2_4, .int .i8 a2_5]) ?_ 2 _ rfl; exact kb BK246⟩
        have n1_ : Aside0 (IsS28 w (wr.setCell ⟨gb246, 2, none⟩ (.int .i8 (IntKind.i8.wrap (x9_1)))) gb245 x246000_1 x246001_1 x246002_1) := ⟨si28 HI245⟩
        have n2_ : Aside0 (Below w.heap.size w (wr.setCell ⟨gb246, 2, none⟩ (.int .i8 (IntKind.i8.wrap (x9_1))))) := ⟨be HB⟩
        (try clear BK246)
        (try clear HI245)
        (try clear HB)
        generalize (wr.setCell ⟨gb246, 2, none⟩ (.int .i8 (IntKind.i8.wrap (x9_1)))) = w32 at n0_ n1_ n2_ ⊢
        have BK246 := n0_
        have HI245 := n1_
        have HB := n2_
        clear n0_ n1_ n2_
        have n0_ := am (blk_drew BK246.out)
        have n1_ := am (IsS28.drew HI245.out)
        have n2_ := am (below_drew1 HB.out)
        clear BK246
        clear HI245
        clear HB
        have BK246 := n0_
        have HI245 := n1_
        have HB := n2_
        clear n0_ n1_ n2_
        refine start_ (n := 7) (S := fun w' => w'.cell? ⟨gb246, 0, none⟩ = some (.int .i8 a2_0) ∧ w'.cell? ⟨gb246, 1, none⟩ = some (.int .i8 a2_1) ∧ w'.cell? ⟨gb246, 2, none⟩ = some (.int .i8 (IntKind.i8.wrap (x9_1))) ∧ w'.cell? ⟨gb246, 3, none⟩ = some (.int .i8 a2_3) ∧ w'.cell? ⟨gb246, 4, none⟩ = some (.int .i8 a2_4) ∧ w'.cell? ⟨gb246, 5, none⟩ = some (.int .i8 a2_5)) (ds := []) #[false, false, false, false, false, false, false] (by kernel_rfl) rfl rfl ⟨(blk_cell BK246.out 0).trans rfl, (blk_cell BK246.out 1).trans rfl, (blk_cell BK246.out 2).trans rfl, (blk_cell BK246.out 3).trans rfl, (blk_cell BK246.out 4).trans rfl, (blk_cell BK246.out 5).trans rfl⟩ (fun hHeld => ?_)
        generalize w32.drew = w33 at BK246 HI245 HB hHeld ⊢
        refine pure_ (i := 1) (N := some 24) (v := ?_) (a' := ?_) #[false, true, false, false, false, false, false] rfl rfl (by kernel_rfl) (fun _ _ _ h => h) (Or.inl ⟨by rfl, ?_⟩) ?_ ?_
        rotate_left
        ·intro w'
         go_simp
         with_reducible rfl
        rotate_left
        ·simp only [Act.put, List.setIfInBounds_toArray, List.set_cons_zero, List.set_cons_succ, i64_w, i32_w]
         rfl
        refine take_ (i := 3) (N := some 26) (v := ?_) (a' := ?_) #[false, true, false, true, false, false, false] rfl rfl (by kernel_rfl) (fun _ _ _ h => h) (Or.inl ⟨by rfl, ?_⟩) hHeld ?_ ?_
        rotate_left
        ·rintro w' ⟨s0, s1, s2, s3, s4, s5⟩
         go_simp
         with_reducible rfl
        rotate_left
        ·simp only [Act.put, List.setIfInBounds_toArray, List.set_cons_zero, List.set_cons_succ, i64_w, i32_w]
         rfl
        refine join_ (σ := Value × Value × Value) 2 #[true, true, true, true, true, false, false] (fun s_ => [(23, s_.1), (25, s_.2.1), (27, s_.2.2)]) (fun s_ w' => (w'.cell? ⟨gb246, 0, none⟩ = some (.int .i8 a2_0) ∧ w'.cell? ⟨gb246, 1, none⟩ = some (.int .i8 a2_1) ∧ w'.cell? ⟨gb246, 2, none⟩ = some (.int .i8 (IntKind.i8.wrap (x9_1))) ∧ w'.cell? ⟨gb246, 3, none⟩ = some (.int .i8 a2_3) ∧ w'.cell? ⟨gb246, 4, none⟩ = some (.int .i8 a2_4) ∧ w'.cell? ⟨gb246, 5, none⟩ = some (.int .i8 a2_5)) ∧ (Kd.R k38 38 w' w.heap.size (fun k_ => some k_ ≠ (s_.2.2 : Value).ownBlock ∧ k_ ≠ gb246) s_.2.1 y254) ∧ (Kd.R k38 38 w' w.heap.size (fun k_ => some k_ ≠ (s_.2.1 : Value).ownBlock ∧ k_ ≠ gb246) s_.2.2 y257) ∧ (w'.heap[gb246]? = some (.cells #[.int .i8 a2_0, .int .i8 a2_1, .int .i8 (IntKind.i8.wrap (x9_1)), .int .i8 a2_3, .int .i8 a2_4, .int .i8 a2_5] 38 (0, 0))) ∧ (IsS28 w w' gb245 x246000_1 x246001_1 x246002_1) ∧ (Below w.heap.size w w')) ?_ ?_
        rotate_left
        ·intro hCont
         refine two_ (i := 0) (j := 4) (Ni := some 23) (Nj := some 27) #[true, true, false, true, false, false, false] #[false, true, false, true, true, false, false] rfl rfl rfl rfl (by kernel_rfl) (by decide) (by decide) (fun K hK => ?_) (fun K hK => ?_)
         ·skip
          refine Kd.R_lit_step k38 _ 38 ?hg (N := 23) ?hd (xs := ([] : List (S38))) (inner := []) (ok := fun _ => True) (okp := fun _ => True) ?hr ?hp (fun _ hk => hk) trivial (Below.refl _ _) (Nat.le_refl _) (by simp) ?_; (case hd => rfl); (case hg => rfl); (case hr => first | (go_simp; done) | (go_simp; rfl)); (case hp => exact (Reps.none _ _))
          intro v252 w34 ho35 hb hg_ hnew_
          clear hg_ hnew_
          (first | rw [← Ny251.out] at ho35 | (simp only [Int.reduceToNat] at ho35; rw [← Ny251.out] at ho35))
          have n0_ := am (Kd.R_lower (Kd.R_newB ho35 (g := gb246) (o := .cells #[.int .i8 a2_0, .int .i8 a2_1, .int .i8 (IntKind.i8.wrap (x9_1)), .int .i8 a2_3, .int .i8 a2_4, .int .i8 a2_5] 38 (0, 0)) (kb BK246)) (below_size (be HB)))
          have n1_ := bB BK246 hb
          have n2_ := am (IsS28.below (si28 HI245) hb)
          have n3_ := am (below_step (be HB) hb)
          clear BK246
          clear HI245
          clear HB
          have HO253 := n0_
          have BK246 := n1_
          have HI245 := n2_
          have HB := n3_
          clear n0_ n1_ n2_ n3_
          clear hb ho35
          refine hK.out _ _ ⟨(blk_cell BK246.out 0).trans rfl, (blk_cell BK246.out 1).trans rfl, (blk_cell BK246.out 2).trans rfl, (blk_cell BK246.out 3).trans rfl, (blk_cell BK246.out 4).trans rfl, (blk_cell BK246.out 5).trans rfl⟩ (fun hHeld => ?_)
          clear hK K
          refine norm_ (a' := ?_) ?_ ?_
          rotate_left
          ·show Act.put _ (some 23) _ = _
           simp only [Act.put, List.setIfInBounds_toArray, List.set_cons_zero, List.set_cons_succ, i64_w, i32_w]
           rfl
          refine two_ (i := 2) (j := 4) (Ni := some 25) (Nj := some 27) #[true, true, true, true, false, false, false] #[true, true, false, true, true, false, false] rfl rfl rfl rfl (by kernel_rfl) (by decide) (by decide) (fun K hK => ?_) (fun K hK => ?_)
          ·skip
           refine Kd.R_append_rows_step k38 (w0 := w) w.heap.size (by rfl) (.tmp 23) (.tmp 24) 44 38 (.agg #[(.int .i8 0), (.int .i8 0), (.int .i8 0), (.int .i8 0), (.int .i8 0), (.int .i8 0)]) 6 rfl Try.underlying44 info38 rfl (by decide) (by omega) v252 y251 l1 _ _ _ (fun k_ => k_ ≠ gb246) (fun _ => False) rfl rfl ?aO ?aR (fun _ _ h => h) (fun _ h => h.elim) ?aF ?aB ?aS ?aL ?_
           (case aR => repeat (first | exact (Kd.C_below HR1.out HB.out) | (with_reducible refine Kd.C_alloc ?_ _) | (with_reducible refine Kd.C_drewN ?_ _) | (with_reducible refine Kd.C_drew ?_)))
           (case aB => exact (be HB))
           (case aF => exact (fun k_ hk => Kd.freshB (g := gb246) (o := .cells #[.int .i8 a2_0, .int .i8 a2_1, .int .i8 (IntKind.i8.wrap (x9_1)), .int .i8 a2_3, .int .i8 a2_4, .int .i8 a2_5] 38 (0, 0)) (kb BK246) k_ hk))
           (case aO => exact (by (with_reducible repeat (first | apply Kd.R_alloc | apply Kd.R_drewN | apply Kd.R_drew)); exact Kd.R_mono HO253.out (fun _ hk => hk.2)))
           (case aS => exact (below_size (be HB)))
           (case aL => have := LMc12.out; omega)
           intro v255 w36 ho hb hg hat
           rw [← Ny254.out] at ho
           have n0_ := am (blk_grown (g := gb246) (o := .cells #[.int .i8 a2_0, .int .i8 a2_1, .int .i8 (IntKind.i8.wrap (x9_1)), .int .i8 a2_3, .int .i8 a2_4, .int .i8 a2_5] 38 (0, 0)) (kb BK246) hg (Kd.R_away HO253.out (fun _ hk => hk.2)))
           have n1_ := am (IsS28.grown (si28 HI245) hg (IsS28.own_ne HI245.out HO253.out (by decide)))
           have n2_ := am (hb)
           have n3_ := am (ho)
           clear BK246
           clear HI245
           clear HB
           clear HO253
           have BK246 := n0_
           have HI245 := n1_
           have HB := n2_
           have HO256 := n3_
           clear n0_ n1_ n2_ n3_
           clear ho hb hg hat
           refine hK.out _ _ ⟨(blk_cell BK246.out 0).trans rfl, (blk_cell BK246.out 1).trans rfl, (blk_cell BK246.out 2).trans rfl, (blk_cell BK246.out 3).trans rfl, (blk_cell BK246.out 4).trans rfl, (blk_cell BK246.out 5).trans rfl⟩ (fun hHeld => ?_)
           clear hK K
           refine norm_ (a' := ?_) ?_ ?_
           rotate_left
           ·show Act.put _ (some 25) _ = _
            simp only [Act.put, List.setIfInBounds_toArray, List.set_cons_zero, List.set_cons_succ, i64_w, i32_w]
            rfl
           refine one_ (i := 4) (N := some 27) #[true, true, true, true, true, false, false] rfl rfl (by kernel_rfl) (by decide) (fun K hK => ?_)
           refine Kd.R_lit_step k38 _ 38 ?hg (N := 27) ?hd (xs := ([(⟨(⟨a2_0, a2_1⟩ : S36), IntKind.i8.wrap (x9_1), a2_3, a2_4, a2_5⟩ : S38)] : List (S38))) (inner := [.int .i8 a2_0, .int .i8 a2_1, .int .i8 (IntKind.i8.wrap (x9_1)), .int .i8 a2_3, .int .i8 a2_4, .int .i8 a2_5]) (ok := fun _ => True) (okp := fun _ => True) ?hr ?hp (fun _ hk => hk) trivial (Below.refl _ _) (Nat.le_refl _) (by simp) ?_; (case hd => rfl); (case hg => rfl); (case hr => first | (go_simp; done) | (go_simp; rfl)); (case hp => exact (Reps.c6 (show Kd.M k38 _ _ _ (⟨(⟨a2_0, a2_1⟩ : S36), IntKind.i8.wrap (x9_1), a2_3, a2_4, a2_5⟩ : S38) [.int .i8 a2_0, .int .i8 a2_1, .int .i8 (IntKind.i8.wrap (x9_1)), .int .i8 a2_3, .int .i8 a2_4, .int .i8 a2_5] from (k38_mkM _ _ _ (⟨(⟨a2_0, a2_1⟩ : S36), IntKind.i8.wrap (x9_1), a2_3, a2_4, a2_5⟩ : S38) )) (Reps.none _ _)))
           intro v258 w37 ho38 hb hg_ hnew_
           clear hg_ hnew_
           (first | rw [← Ny257.out] at ho38 | (simp only [Int.reduceToNat] at ho38; rw [← Ny257.out] at ho38))
           have n0_ := am (Kd.R_elder' (kr HO256) (Kd.R_base ho38) hb)
           have n1_ := am (Kd.R_lower (Kd.R_newB (Kd.R_new' ho38 (Kd.R_lt (kr HO256))) (g := gb246) (o := .cells #[.int .i8 a2_0, .int .i8 a2_1, .int .i8 (IntKind.i8.wrap (x9_1)), .int .i8 a2_3, .int .i8 a2_4, .int .i8 a2_5] 38 (0, 0)) (kb BK246)) (below_size (be HB)))
           have n2_ := bB BK246 hb
           have n3_ := am (IsS28.below (si28 HI245) hb)
           have n4_ := am (below_step (be HB) hb)
           clear HO256
           clear BK246
           clear HI245
           clear HB
           have HO256 := n0_
           have HO259 := n1_
           have BK246 := n2_
           have HI245 := n3_
           have HB := n4_
           clear n0_ n1_ n2_ n3_ n4_
           clear hb ho38
           refine hK.out _ _ ⟨(blk_cell BK246.out 0).trans rfl, (blk_cell BK246.out 1).trans rfl, (blk_cell BK246.out 2).trans rfl, (blk_cell BK246.out 3).trans rfl, (blk_cell BK246.out 4).trans rfl, (blk_cell BK246.out 5).trans rfl⟩ (fun hHeld => ?_)
           clear hK K
           refine norm_ (a' := ?_) ?_ ?_
           rotate_left
           ·show Act.put _ (some 27) _ = _
            simp only [Act.put, List.setIfInBounds_toArray, List.set_cons_zero, List.set_cons_succ, i64_w, i32_w]
            rfl
           exact norm_ (by simp only [putAll, Act.put, List.setIfInBounds_toArray, List.set_cons_zero, List.set_cons_succ]) (hCont (v252, v255, v258) _ ⟨hHeld, (by (with_reducible repeat (first | apply Kd.R_alloc | apply Kd.R_drewN | apply Kd.R_drew)); exact Kd.R_mono HO256.out (fun _ hk => ⟨hk.2, hk.1⟩)), (by (with_reducible repeat (first | apply Kd.R_alloc | apply Kd.R_drewN | apply Kd.R_drew)); exact Kd.R_mono HO259.out (fun _ hk => ⟨hk.1.2, hk.2⟩)), (kb BK246), (si28 HI245), (be HB)⟩)
          ·skip
           refine Kd.R_lit_step k38 _ 38 ?hg (N := 27) ?hd (xs := ([(⟨(⟨a2_0, a2_1⟩ : S36), IntKind.i8.wrap (x9_1), a2_3, a2_4, a2_5⟩ : S38)] : List (S38))) (inner := [.int .i8 a2_0, .int .i8 a2_1, .int .i8 (IntKind.i8.wrap (x9_1)), .int .i8 a2_3, .int .i8 a2_4, .int .i8 a2_5]) (ok := fun _ => True) (okp := fun _ => True) ?hr ?hp (fun _ hk => hk) trivial (Below.refl _ _) (Nat.le_refl _) (by simp) ?_; (case hd => rfl); (case hg => rfl); (case hr => first | (go_simp; done) | (go_simp; rfl)); (case hp => exact (Reps.c6 (show Kd.M k38 _ _ _ (⟨(⟨a2_0, a2_1⟩ : S36), IntKind.i8.wrap (x9_1), a2_3, a2_4, a2_5⟩ : S38) [.int .i8 a2_0, .int .i8 a2_1, .int .i8 (IntKind.i8.wrap (x9_1)), .int .i8 a2_3, .int .i8 a2_4, .int .i8 a2_5] from (k38_mkM _ _ _ (⟨(⟨a2_0, a2_1⟩ : S36), IntKind.i8.wrap (x9_1), a2_3, a2_4, a2_5⟩ : S38) )) (Reps.none _ _)))
           intro v258 w36 ho37 hb hg_ hnew_
           clear hg_ hnew_
           (first | rw [← Ny257.out] at ho37 | (simp only [Int.reduceToNat] at ho37; rw [← Ny257.out] at ho37))
           have n0_ := am (Kd.R_elder' (kr HO253) (Kd.R_base ho37) hb)
           have n1_ := am (Kd.R_lower (Kd.R_newB (Kd.R_new' ho37 (Kd.R_lt (kr HO253))) (g := gb246) (o := .cells #[.int .i8 a2_0, .int .i8 a2_1, .int .i8 (IntKind.i8.wrap (x9_1)), .int .i8 a2_3, .int .i8 a2_4, .int .i8 a2_5] 38 (0, 0)) (kb BK246)) (below_size (be HB)))
           have n2_ := bB BK246 hb
           have n3_ := am (IsS28.below (si28 HI245) hb)
           have n4_ := am (below_step (be HB) hb)
           clear HO253
           clear BK246
           clear HI245
           clear HB
           have HO253 := n0_
           have HO259 := n1_
           have BK246 := n2_
           have HI245 := n3_
           have HB := n4_
           clear n0_ n1_ n2_ n3_ n4_
           clear hb ho37
           refine hK.out _ _ ⟨(blk_cell BK246.out 0).trans rfl, (blk_cell BK246.out 1).trans rfl, (blk_cell BK246.out 2).trans rfl, (blk_cell BK246.out 3).trans rfl, (blk_cell BK246.out 4).trans rfl, (blk_cell BK246.out 5).trans rfl⟩ (fun hHeld => ?_)
           clear hK K
           refine norm_ (a' := ?_) ?_ ?_
           rotate_left
           ·show Act.put _ (some 27) _ = _
            simp only [Act.put, List.setIfInBounds_toArray, List.set_cons_zero, List.set_cons_succ, i64_w, i32_w]
            rfl
           refine one_ (i := 2) (N := some 25) #[true, true, true, true, true, false, false] rfl rfl (by kernel_rfl) (by decide) (fun K hK => ?_)
           refine Kd.R_append_rows_step k38 (w0 := w) w.heap.size (by rfl) (.tmp 23) (.tmp 24) 44 38 (.agg #[(.int .i8 0), (.int .i8 0), (.int .i8 0), (.int .i8 0), (.int .i8 0), (.int .i8 0)]) 6 rfl Try.underlying44 info38 rfl (by decide) (by omega) v252 y251 l1 _ _ _ (fun k_ => some k_ ≠ (v258 : Value).ownBlock ∧ k_ ≠ gb246) (fun _ => False) rfl rfl ?aO ?aR (fun _ _ h => h) (fun _ h => h.elim) ?aF ?aB ?aS ?aL ?_
           (case aR => repeat (first | exact (Kd.C_below HR1.out HB.out) | (with_reducible refine Kd.C_alloc ?_ _) | (with_reducible refine Kd.C_drewN ?_ _) | (with_reducible refine Kd.C_drew ?_)))
           (case aB => exact (be HB))
           (case aF => exact (fun k_ hk => ⟨Kd.fresh' (Kd.R_lt (kr HO259)) k_ hk, Kd.freshB (g := gb246) (o := .cells #[.int .i8 a2_0, .int .i8 a2_1, .int .i8 (IntKind.i8.wrap (x9_1)), .int .i8 a2_3, .int .i8 a2_4, .int .i8 a2_5] 38 (0, 0)) (kb BK246) k_ hk⟩))
           (case aO => exact (by (with_reducible repeat (first | apply Kd.R_alloc | apply Kd.R_drewN | apply Kd.R_drew)); exact Kd.R_mono HO253.out (fun _ hk => ⟨hk.2, hk.1.2⟩)))
           (case aS => exact (below_size (be HB)))
           (case aL => have := LMc12.out; omega)
           intro v255 w38 ho hb hg hat
           rw [← Ny254.out] at ho
           have n0_ := am (blk_grown (g := gb246) (o := .cells #[.int .i8 a2_0, .int .i8 a2_1, .int .i8 (IntKind.i8.wrap (x9_1)), .int .i8 a2_3, .int .i8 a2_4, .int .i8 a2_5] 38 (0, 0)) (kb BK246) hg (Kd.R_away HO253.out (fun _ hk => hk.1.2)))
           have n1_ := am (IsS28.grown (si28 HI245) hg (IsS28.own_ne HI245.out HO253.out (by decide)))
           have n2_ := am (Kd.R_after (ok := (fun k_ => k_ ≠ gb246)) (by (with_reducible repeat (first | apply Kd.R_alloc | apply Kd.R_drewN | apply Kd.R_drew)); exact Kd.R_mono HO259.out (fun _ hk => ⟨hk.2, hk.1.2⟩)) hg hat)
           have n3_ := am (hb)
           have n4_ := am (ho)
           clear BK246
           clear HI245
           clear HO259
           clear HB
           clear HO253
           have BK246 := n0_
           have HI245 := n1_
           have HO259 := n2_
           have HB := n3_
           have HO256 := n4_
           clear n0_ n1_ n2_ n3_ n4_
           clear ho hb hg hat
           refine hK.out _ _ ⟨(blk_cell BK246.out 0).trans rfl, (blk_cell BK246.out 1).trans rfl, (blk_cell BK246.out 2).trans rfl, (blk_cell BK246.out 3).trans rfl, (blk_cell BK246.out 4).trans rfl, (blk_cell BK246.out 5).trans rfl⟩ (fun hHeld => ?_)
           clear hK K
           refine norm_ (a' := ?_) ?_ ?_
           rotate_left
           ·show Act.put _ (some 25) _ = _
            simp only [Act.put, List.setIfInBounds_toArray, List.set_cons_zero, List.set_cons_succ, i64_w, i32_w]
            rfl
           exact norm_ (by simp only [putAll, Act.put, List.setIfInBounds_toArray, List.set_cons_zero, List.set_cons_succ]) (hCont (v252, v255, v258) _ ⟨hHeld, (kr HO256), (by (with_reducible repeat (first | apply Kd.R_alloc | apply Kd.R_drewN | apply Kd.R_drew)); exact Kd.R_mono HO259.out (fun _ hk => ⟨hk.2, hk.1⟩)), (kb BK246), (si28 HI245), (be HB)⟩)
         ·skip
          refine Kd.R_lit_step k38 _ 38 ?hg (N := 27) ?hd (xs := ([(⟨(⟨a2_0, a2_1⟩ : S36), IntKind.i8.wrap (x9_1), a2_3, a2_4, a2_5⟩ : S38)] : List (S38))) (inner := [.int .i8 a2_0, .int .i8 a2_1, .int .i8 (IntKind.i8.wrap (x9_1)), .int .i8 a2_3, .int .i8 a2_4, .int .i8 a2_5]) (ok := fun _ => True) (okp := fun _ => True) ?hr ?hp (fun _ hk => hk) trivial (Below.refl _ _) (Nat.le_refl _) (by simp) ?_; (case hd => rfl); (case hg => rfl); (case hr => first | (go_simp; done) | (go_simp; rfl)); (case hp => exact (Reps.c6 (show Kd.M k38 _ _ _ (⟨(⟨a2_0, a2_1⟩ : S36), IntKind.i8.wrap (x9_1), a2_3, a2_4, a2_5⟩ : S38) [.int .i8 a2_0, .int .i8 a2_1, .int .i8 (IntKind.i8.wrap (x9_1)), .int .i8 a2_3, .int .i8 a2_4, .int .i8 a2_5] from (k38_mkM _ _ _ (⟨(⟨a2_0, a2_1⟩ : S36), IntKind.i8.wrap (x9_1), a2_3, a2_4, a2_5⟩ : S38) )) (Reps.none _ _)))
          intro v258 w34 ho35 hb hg_ hnew_
          clear hg_ hnew_
          (first | rw [← Ny257.out] at ho35 | (simp only [Int.reduceToNat] at ho35; rw [← Ny257.out] at ho35))
          have n0_ := am (Kd.R_lower (Kd.R_newB ho35 (g := gb246) (o := .cells #[.int .i8 a2_0, .int .i8 a2_1, .int .i8 (IntKind.i8.wrap (x9_1)), .int .i8 a2_3, .int .i8 a2_4, .int .i8 a2_5] 38 (0, 0)) (kb BK246)) (below_size (be HB)))
          have n1_ := bB BK246 hb
          have n2_ := am (IsS28.below (si28 HI245) hb)
          have n3_ := am (below_step (be HB) hb)
          clear BK246
          clear HI245
          clear HB
          have HO259 := n0_
          have BK246 := n1_
          have HI245 := n2_
          have HB := n3_
          clear n0_ n1_ n2_ n3_
          clear hb ho35
          refine hK.out _ _ ⟨(blk_cell BK246.out 0).trans rfl, (blk_cell BK246.out 1).trans rfl, (blk_cell BK246.out 2).trans rfl, (blk_cell BK246.out 3).trans rfl, (blk_cell BK246.out 4).trans rfl, (blk_cell BK246.out 5).trans rfl⟩ (fun hHeld => ?_)
          clear hK K
          refine norm_ (a' := ?_) ?_ ?_
          rotate_left
          ·show Act.put _ (some 27) _ = _
           simp only [Act.put, List.setIfInBounds_toArray, List.set_cons_zero, List.set_cons_succ, i64_w, i32_w]
           rfl
          refine one_ (i := 0) (N := some 23) #[true, true, false, true, true, false, false] rfl rfl (by kernel_rfl) (by decide) (fun K hK => ?_)
          refine Kd.R_lit_step k38 _ 38 ?hg (N := 23) ?hd (xs := ([] : List (S38))) (inner := []) (ok := fun _ => True) (okp := fun _ => True) ?hr ?hp (fun _ hk => hk) trivial (Below.refl _ _) (Nat.le_refl _) (by simp) ?_; (case hd => rfl); (case hg => rfl); (case hr => first | (go_simp; done) | (go_simp; rfl)); (case hp => exact (Reps.none _ _))
          intro v252 w36 ho37 hb hg_ hnew_
          clear hg_ hnew_
          (first | rw [← Ny251.out] at ho37 | (simp only [Int.reduceToNat] at ho37; rw [← Ny251.out] at ho37))
          have n0_ := am (Kd.R_elder' (kr HO259) (Kd.R_base ho37) hb)
          have n1_ := am (Kd.R_lower (Kd.R_newB (Kd.R_new' ho37 (Kd.R_lt (kr HO259))) (g := gb246) (o := .cells #[.int .i8 a2_0, .int .i8 a2_1, .int .i8 (IntKind.i8.wrap (x9_1)), .int .i8 a2_3, .int .i8 a2_4, .int .i8 a2_5] 38 (0, 0)) (kb BK246)) (below_size (be HB)))
          have n2_ := bB BK246 hb
          have n3_ := am (IsS28.below (si28 HI245) hb)
          have n4_ := am (below_step (be HB) hb)
          clear HO259
          clear BK246
          clear HI245
          clear HB
          have HO259 := n0_
          have HO253 := n1_
          have BK246 := n2_
          have HI245 := n3_
          have HB := n4_
          clear n0_ n1_ n2_ n3_ n4_
          clear hb ho37
          refine hK.out _ _ ⟨(blk_cell BK246.out 0).trans rfl, (blk_cell BK246.out 1).trans rfl, (blk_cell BK246.out 2).trans rfl, (blk_cell BK246.out 3).trans rfl, (blk_cell BK246.out 4).trans rfl, (blk_cell BK246.out 5).trans rfl⟩ (fun hHeld => ?_)
          clear hK K
          refine norm_ (a' := ?_) ?_ ?_
          rotate_left
          ·show Act.put _ (some 23) _ = _
           simp only [Act.put, List.setIfInBounds_toArray, List.set_cons_zero, List.set_cons_succ, i64_w, i32_w]
           rfl
          refine one_ (i := 2) (N := some 25) #[true, true, true, true, true, false, false] rfl rfl (by kernel_rfl) (by decide) (fun K hK => ?_)
          refine Kd.R_append_rows_step k38 (w0 := w) w.heap.size (by rfl) (.tmp 23) (.tmp 24) 44 38 (.agg #[(.int .i8 0), (.int .i8 0), (.int .i8 0), (.int .i8 0), (.int .i8 0), (.int .i8 0)]) 6 rfl Try.underlying44 info38 rfl (by decide) (by omega) v252 y251 l1 _ _ _ (fun k_ => some k_ ≠ (v258 : Value).ownBlock ∧ k_ ≠ gb246) (fun _ => False) rfl rfl ?aO ?aR (fun _ _ h => h) (fun _ h => h.elim) ?aF ?aB ?aS ?aL ?_
          (case aR => repeat (first | exact (Kd.C_below HR1.out HB.out) | (with_reducible refine Kd.C_alloc ?_ _) | (with_reducible refine Kd.C_drewN ?_ _) | (with_reducible refine Kd.C_drew ?_)))
          (case aB => exact (be HB))
          (case aF => exact (fun k_ hk => ⟨Kd.fresh' (Kd.R_lt (kr HO259)) k_ hk, Kd.freshB (g := gb246) (o := .cells #[.int .i8 a2_0, .int .i8 a2_1, .int .i8 (IntKind.i8.wrap (x9_1)), .int .i8 a2_3, .int .i8 a2_4, .int .i8 a2_5] 38 (0, 0)) (kb BK246) k_ hk⟩))
          (case aO => exact (by (with_reducible repeat (first | apply Kd.R_alloc | apply Kd.R_drewN | apply Kd.R_drew)); exact Kd.R_mono HO253.out (fun _ hk => ⟨hk.1.2, hk.2⟩)))
          (case aS => exact (below_size (be HB)))
          (case aL => have := LMc12.out; omega)
          intro v255 w38 ho hb hg hat
          rw [← Ny254.out] at ho
          have n0_ := am (blk_grown (g := gb246) (o := .cells #[.int .i8 a2_0, .int .i8 a2_1, .int .i8 (IntKind.i8.wrap (x9_1)), .int .i8 a2_3, .int .i8 a2_4, .int .i8 a2_5] 38 (0, 0)) (kb BK246) hg (Kd.R_away HO253.out (fun _ hk => hk.2)))
          have n1_ := am (IsS28.grown (si28 HI245) hg (IsS28.own_ne HI245.out HO253.out (by decide)))
          have n2_ := am (Kd.R_after (ok := (fun k_ => k_ ≠ gb246)) (by (with_reducible repeat (first | apply Kd.R_alloc | apply Kd.R_drewN | apply Kd.R_drew)); exact Kd.R_mono HO259.out (fun _ hk => ⟨hk.1.2, hk.2⟩)) hg hat)
          have n3_ := am (hb)
          have n4_ := am (ho)
          clear BK246
          clear HI245
          clear HO259
          clear HB
          clear HO253
          have BK246 := n0_
          have HI245 := n1_
          have HO259 := n2_
          have HB := n3_
          have HO256 := n4_
          clear n0_ n1_ n2_ n3_ n4_
          clear ho hb hg hat
          refine hK.out _ _ ⟨(blk_cell BK246.out 0).trans rfl, (blk_cell BK246.out 1).trans rfl, (blk_cell BK246.out 2).trans rfl, (blk_cell BK246.out 3).trans rfl, (blk_cell BK246.out 4).trans rfl, (blk_cell BK246.out 5).trans rfl⟩ (fun hHeld => ?_)
          clear hK K
          refine norm_ (a' := ?_) ?_ ?_
          rotate_left
          ·show Act.put _ (some 25) _ = _
           simp only [Act.put, List.setIfInBounds_toArray, List.set_cons_zero, List.set_cons_succ, i64_w, i32_w]
           rfl
          exact norm_ (by simp only [putAll, Act.put, List.setIfInBounds_toArray, List.set_cons_zero, List.set_cons_succ]) (hCont (v252, v255, v258) _ ⟨hHeld, (kr HO256), (by (with_reducible repeat (first | apply Kd.R_alloc | apply Kd.R_drewN | apply Kd.R_drew)); exact Kd.R_mono HO259.out (fun _ hk => ⟨hk.2, hk.1⟩)), (kb BK246), (si28 HI245), (be HB)⟩)
        rintro ⟨v252, v255, v258⟩ w39 ⟨hS_, h0_, h1_, h2_, h3_, h4_⟩
        have n0_ : Aside0 (Kd.R k38 38 w39 w.heap.size (fun k_ => some k_ ≠ (v258 : Value).ownBlock ∧ k_ ≠ gb246) v255 y254) := ⟨h0_⟩
        have n1_ : Aside0 (Kd.R k38 38 w39 w.heap.size (fun k_ => some k_ ≠ (v255 : Value).ownBlock ∧ k_ ≠ gb246) v258 y257) := ⟨h1_⟩
        have n2_ : Aside0 (w39.heap[gb246]? = some (.cells #[.int .i8 a2_0, .int .i8 a2_1, .int .i8 (IntKind.i8.wrap (x9_1)), .int .i8 a2_3, .int .i8 a2_4, .int .i8 a2_5] 38 (0, 0))) := ⟨h2_⟩
        have n3_ : Aside0 (IsS28 w w39 gb245 x246000_1 x246001_1 x246002_1) := ⟨h3_⟩
        have n4_ : Aside0 (Below w.heap.size w w39) := ⟨h4_⟩
        clear BK246
        clear HI245
        clear HB
        clear h0_ h1_ h2_ h3_ h4_
        have HO256 := n0_
        have HO259 := n1_
        have BK246 := n2_
        have HI245 := n3_
        have HB := n4_
        clear n0_ n1_ n2_ n3_ n4_
        have hHeld : w39.cell? ⟨gb246, 0, none⟩ = some (.int .i8 a2_0) ∧ w39.cell? ⟨gb246, 1, none⟩ = some (.int .i8 a2_1) ∧ w39.cell? ⟨gb246, 2, none⟩ = some (.int .i8 (IntKind.i8.wrap (x9_1))) ∧ w39.cell? ⟨gb246, 3, none⟩ = some (.int .i8 a2_3) ∧ w39.cell? ⟨gb246, 4, none⟩ = some (.int .i8 a2_4) ∧ w39.cell? ⟨gb246, 5, none⟩ = some (.int .i8 a2_5) := hS_
        obtain ⟨Ao41, co41, eo41⟩ := Kd.R_slice HO259.out
        (first | subst eo41 | (injection eo41 with f1_ f2_ f3_; have f4_ := f1_.symm; have f5_ := f3_.symm; clear f1_ f2_ f3_; subst f4_; subst f5_))
        refine norm_ (a' := ?_) ?_ ?_
        rotate_left
        ·simp only [putAll, Act.put, List.setIfInBounds_toArray, List.set_cons_zero, List.set_cons_succ]
         rfl
        refine one_ (i := 5) (N := some 28) #[true, true, true, true, true, true, false] rfl rfl (by kernel_rfl) (by decide) (fun K hK => ?_)
        refine Kd.R_append_rows_step k38 (w0 := w) w.heap.size (by rfl) (.tmp 25) (.tmp 27) 44 38 (.agg #[(.int .i8 0), (.int .i8 0), (.int .i8 0), (.int .i8 0), (.int .i8 0), (.int .i8 0)]) 6 rfl Try.underlying44 info38 rfl (by decide) (by omega) v255 y254 y257 _ _ _ (fun k_ => some k_ ≠ (.slice Ao41 y257.length co41 : Value).ownBlock ∧ k_ ≠ gb246) (fun _ => False) rfl rfl ?aO ?aR (fun _ _ h => h) (fun _ h => h.elim) ?aF ?aB ?aS ?aL ?_
        (case aR => repeat (first | exact (Kd.R_reads' HO259.out).2.2 | (with_reducible refine Kd.C_alloc ?_ _) | (with_reducible refine Kd.C_drewN ?_ _) | (with_reducible refine Kd.C_drew ?_)))
        (case aB => exact (be HB))
        (case aF => exact (fun k_ hk => ⟨Kd.fresh' (Kd.R_lt (kr HO259)) k_ hk, Kd.freshB (g := gb246) (o := .cells #[.int .i8 a2_0, .int .i8 a2_1, .int .i8 (IntKind.i8.wrap (x9_1)), .int .i8 a2_3, .int .i8 a2_4, .int .i8 a2_5] 38 (0, 0)) (kb BK246) k_ hk⟩))
        (case aO => exact (kr HO256))
        (case aS => exact (below_size (be HB)))
        (case aL => have := LMc13.out; omega)
        intro v261 w40 ho hb hg hat
        rw [← Ny260.out] at ho
        have n0_ := am (blk_grown (g := gb246) (o := .cells #[.int .i8 a2_0, .int .i8 a2_1, .int .i8 (IntKind.i8.wrap (x9_1)), .int .i8 a2_3, .int .i8 a2_4, .int .i8 a2_5] 38 (0, 0)) (kb BK246) hg (Kd.R_away HO256.out (fun _ hk => hk.2)))
        have n1_ := am (IsS28.grown (si28 HI245) hg (IsS28.own_ne HI245.out HO256.out (by decide)))
        have n2_ := am (Kd.R_after (ok := (fun k_ => k_ ≠ gb246)) (by (with_reducible repeat (first | apply Kd.R_alloc | apply Kd.R_drewN | apply Kd.R_drew)); exact Kd.R_mono HO259.out (fun _ hk => ⟨hk.2, hk.1⟩)) hg hat)
        have n3_ := am (hb)
        have n4_ := am (ho)
        clear BK246
        clear HI245
        clear HO259
        clear HB
        clear HO256
        have BK246 := n0_
        have HI245 := n1_
        have HO259 := n2_
        have HB := n3_
        have HO262 := n4_
        clear n0_ n1_ n2_ n3_ n4_
        clear ho hb hg hat
        obtain ⟨Ao42, co42, eo42⟩ := Kd.R_slice HO262.out
        (first | subst eo42 | (injection eo42 with f1_ f2_ f3_; have f4_ := f1_.symm; have f5_ := f3_.symm; clear f1_ f2_ f3_; subst f4_; subst f5_))
        refine hK.out _ _ ⟨(blk_cell BK246.out 0).trans rfl, (blk_cell BK246.out 1).trans rfl, (blk_cell BK246.out 2).trans rfl, (blk_cell BK246.out 3).trans rfl, (blk_cell BK246.out 4).trans rfl, (blk_cell BK246.out 5).trans rfl⟩ (fun hHeld => ?_)
        clear hK K
        refine norm_ (a' := ?_) ?_ ?_
        rotate_left
        ·show Act.put _ (some 28) _ = _
         simp only [Act.put, List.setIfInBounds_toArray, List.set_cons_zero, List.set_cons_succ, i64_w, i32_w]
         rfl
        refine one_ (i := 6) (N := some 29) #[true, true, true, true, true, true, true] rfl rfl (by kernel_rfl) (by decide) (fun K hK => ?_)
        refine goes_ Try.func128 (by kernel_rfl) rfl #[.pointer (some ⟨gb245, 0, none⟩), .slice Ao42 y260.length co42] (by rfl) rfl rfl (by (try simp only [List.map_toArray, List.map_cons, List.map_nil]); first | done | rfl | (simp only [List.length_drop, List.length_take]; rfl)) ?_
        with_reducible refine (spec_l01Right.calls k1 gb245 x246000_1 x246001_1 x246002_1 _ _ y260 false t264 t265 t266 w _ ?side1 ?side2 ?side3 ?side4 A14.out).mono ?_
        (case side1 => exact si28 HI245)
        (case side2 => exact be HB)
        (case side3 => exact Kd.C_foot_own (IsS28.apart (show IsS28 w _ gb245 x246000_1 x246001_1 x246002_1 from si28 HI245) (kr HO262) (by decide)) (fun _ h_ => h_.2))
        (case side4 => exact (Kd.R_reads' HO262.out).2.1)
        rintro e w43 ⟨rfl, hi, hb, hk⟩
        refine ⟨_, rfl, ?_⟩
        have n0_ := am (KeepBut.blk hk (g' := gb246) (o := .cells #[.int .i8 a2_0, .int .i8 a2_1, .int .i8 (IntKind.i8.wrap (x9_1)), .int .i8 a2_3, .int .i8 a2_4, .int .i8 a2_5] 38 (0, 0)) (kb BK246) NB246_245.out (by simp))
        have n1_ := am (Kd.R_mono (Kd.R_keep (IsS28.apart (show IsS28 w _ gb245 x246000_1 x246001_1 x246002_1 from si28 HI245) (kr HO259) (by decide)) hk (fun _ h => h.2)) (fun _ h => h.1))
        have n2_ := am (Kd.R_mono (Kd.R_keep (IsS28.apart (show IsS28 w _ gb245 x246000_1 x246001_1 x246002_1 from si28 HI245) (kr HO262) (by decide)) hk (fun _ h => h.2)) (fun _ h => h.1))
        have n3_ := am (hb)
        have n4_ := am (hi)
        clear BK246
        clear HO259
        clear HO262
        clear HB
        clear HI245
        have BK246 := n0_
        have HO259 := n1_
        have HO262 := n2_
        have HB := n3_
        have HI245 := n4_
        clear n0_ n1_ n2_ n3_ n4_
        (try clear hb)
        (try clear hb2)
        (try clear hk)
        (try clear hi)
        refine hK.out _ _ ⟨(blk_cell BK246.out 0).trans rfl, (blk_cell BK246.out 1).trans rfl, (blk_cell BK246.out 2).trans rfl, (blk_cell BK246.out 3).trans rfl, (blk_cell BK246.out 4).trans rfl, (blk_cell BK246.out 5).trans rfl⟩ (fun hHeld => ?_)
        clear hK K
        refine norm_ (a' := ?_) ?_ ?_
        rotate_left
        ·show Act.put _ (some 29) _ = _
         simp only [Act.put, List.setIfInBounds_toArray, List.set_cons_zero, List.set_cons_succ, i64_w, i32_w]
         rfl
        refine done_ (by kernel_rfl) ?_
        try go_wp2
        go_roundg k1
        case measure => have := HK1.out; omega
        case rel => exact ⟨(wrap64 (x9_1 - 1)), (t264), (t265), (t266), (IntKind.i8.wrap (x9_1)), vv, H', ⟨by have := HK1.out; omega⟩, ⟨kb BK246⟩, ⟨si28 HI245⟩, ⟨be HB⟩⟩
      ·rw [if_neg c13] at H
       exact absurd H (by simp)
     ·rw [if_neg c12] at H
      exact absurd H (by simp)
    ·rw [if_neg c11] at H
     have c11b0 : decide (1 ≤ x9_1) = false := decide_eq_false c11
     clear c11
     simp only [Option.some.injEq, Prod.mk.injEq] at H
     obtain ⟨rfl, rfl⟩ := H
     go_wp2
     go_ret2
     exact ⟨by first | rfl | (simp [errW_none, errW_some] <;> rfl) | (simp [*, errW_none, errW_some] <;> rfl), be HB⟩
 ·rw [if_neg c5] at H
  have c5b0 : (t247 == 0) = false := beq_eq_false_iff_ne.mpr c5
  have c5b1 : (t247 != 0) = true := bne_iff_ne.mpr c5
  simp only [Option.some.injEq, Prod.mk.injEq] at H
  obtain ⟨rfl, rfl⟩ := H
  go_enter Try.func62, Try.ntmps62
  go_wp2_with (first | ((with_reducible refine gate_dst (N := 3) rfl ?_); refine bxe (N := 3) (cs := (csBay a0_0 a0_1 a0_2)) (t := 28) ?_; intro gb245 hg w44 hbox hb; have HI245 := am ((show IsS28 w w44 gb245 a0_0 a0_1 a0_2 from ⟨hbox, by rw [hg]; exact (below_size (be HB))⟩)); have GW245 := am (gN hg (below_size (be HB))); have GE245 := am (gN hg (below_size (be HB))); replace HB := am (below_step (be HB) hb); clear hb hbox hg) | ((with_reducible refine gate_dst (N := 5) rfl ?_); refine bxe (N := 5) (cs := #[.int .i8 a2_0, .int .i8 a2_1, .int .i8 a2_2, .int .i8 a2_3, .int .i8 a2_4, .int .i8 a2_5]) (t := 38) ?_; intro gb246 hg w45 hbox hb; have BK246 := am (hbox); have GW246 := am (gN hg (below_size (be HB))); have GE246 := am (gN hg (below_size (be HB))); have NB245_246 := am (nLi hg (IsS28.lt (show IsS28 w _ gb245 a0_0 a0_1 a0_2 from si28 HI245))); have NB246_245 := am (nRi hg (IsS28.lt (show IsS28 w _ gb245 a0_0 a0_1 a0_2 from si28 HI245))); replace HI245 := am (IsS28.below (si28 HI245) hb); replace HB := am (below_step (be HB) hb); clear hb hbox hg; have hnb46 := NB246_245.out; have hnc46 := NB245_246.out; obtain ⟨hcz47_0, hcz47_1, hcz47_2, hcz47_3, hcz47_4, hcz47_5, hfz47_0, hfz47_1, hfz47_2, hfz47_3, hfz47_4, hfz47_5⟩ := bx6 BK246) | ((with_reducible refine gate_callee (f := 130) rfl ?_); refine gL (some 12) Try.func130 #[.pointer (some ⟨gb245, 0, none⟩), .slice A1 l1.length c1, .agg #[.int .i8 a2_0, .int .i8 a2_1, .int .i8 a2_2, .int .i8 a2_3, .int .i8 a2_4, .int .i8 a2_5]] ?_; (with_reducible refine (spec_l01With.calls k gb245 a0_0 a0_1 a0_2 _ _ l1 a2_0 a2_1 a2_2 a2_3 a2_4 a2_5 t247 t248 t249 t250 w _ ?side1 ?side2 ?side3 ?side4 A4.out).mono ?_); (case side1 => exact si28 HI245); (case side2 => exact be HB); (case side3 => exact Kd.C_foot_came k38_heap HR1.out (be HB) (IsS28.ge HI245.out)); (case side4 => exact HC1.out); rintro e w48 ⟨rfl, hi, hb, hk⟩; refine ⟨_, rfl, ?_⟩; replace BK246 := am (KeepBut.blk hk (g' := gb246) (o := .cells #[.int .i8 a2_0, .int .i8 a2_1, .int .i8 a2_2, .int .i8 a2_3, .int .i8 a2_4, .int .i8 a2_5] 38 (0, 0)) (kb BK246) NB246_245.out (by simp)); replace HB := am (hb); replace HI245 := am (hi); (try clear hb); (try clear hb2); (try clear hk); (try clear hi)))
  go_ret2
  exact ⟨by first | rfl | (simp [errW_none, errW_some] <;> rfl) | (simp [*, errW_none, errW_some] <;> rfl), be HB⟩

end Go.Proofs.Ytcollbifdfhfoaa.PFnExactLongestChain
