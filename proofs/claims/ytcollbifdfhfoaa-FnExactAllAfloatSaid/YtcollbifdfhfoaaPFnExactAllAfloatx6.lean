-- Written by a program out of this seat's translation (functions, and that the code comes to them).
import Derived.Test.YtcollbifdfhfoaaPFnExactAllAfloatx0
import Derived.Test.YtcollbifdfhfoaaPFnExactAllAfloatx4
import Derived.Test.YtcollbifdfhfoaaPFnExactAllAfloatx5
namespace Go.Proofs.Ytcollbifdfhfoaa.PFnExactAllAfloat
open Go.RowKit Go.Proofs.YtcollbifdfhfoaaW.PrintWords Go.Proofs.YtcollbifdfhfoaaW.PrintLast Go.Proofs.YtcollbifdfhfoaaW.PrintMore
attribute [local go_sem] max2_int min2_int max_two min_two max_three min_three max_four min_four   -- for this text's walks alone
open Go.Proofs.Ytcollbifdfhfoaa.Bay Go.Proofs.Ytcollbifdfhfoaa.Short
attribute [local go_sem ↓] lv26_eq lv28_eq
attribute [local go_sem] lvv_set lvv_drewN lvv_drew lv26_run BayAt26_set BayAt26_drewN BayAt26_drew lv28_run BayAt28_set BayAt28_drewN BayAt28_drew
set_option linter.unusedVariables false
set_option linter.unusedSimpArgs false

/-! ### spec_l02Tides: function 173 -/
mutual
def spec_l02Tides.l0 : Nat → List (S103) → Int → Option (Bool)
 | 0, _, _ => none
 | k + 1, x0, x3 => if x3 < (x0.length : Int) then (if 0 ≤ x3 then ((spec_l00In.f (wrap64 ((rd_T103 x0 x3).f0)) 0 3000).bind fun t195 => (if t195 = true then ((spec_l00In.f (wrap64 ((rd_T103 x0 x3).f1)) 0 100).bind fun t196 => (spec_l02Tides.j1 k x0 x3 (!t196) ((rd_T103 x0 x3).f0) ((rd_T103 x0 x3).f1))) else (spec_l02Tides.j1 k x0 x3 true ((rd_T103 x0 x3).f0) ((rd_T103 x0 x3).f1)))) else (none)) else ((spec_l00In.f (x0.length : Int) 2 8).bind fun t192 => (some t192))
def spec_l02Tides.j1 : Nat → List (S103) → Int → Bool → Int → Int → Option (Bool)
 | 0, _, _, _, _, _ => none
 | k + 1, x0, x3, x26, x195000, x195001 => if x26 = true then (some false) else (if x3 > 0 then (if 0 ≤ (wrap64 (x3 - 1)) then (if (wrap64 (x3 - 1)) < (x0.length : Int) then (if (wrap64 (x195000)) < (wrap64 ((wrap64 ((rd_T103 x0 (wrap64 (x3 - 1))).f0)) + 6)) then (spec_l02Tides.j2 k x0 x3 true x195000 x195001) else (spec_l02Tides.j2 k x0 x3 (x195001 == ((rd_T103 x0 (wrap64 (x3 - 1))).f1)) x195000 x195001)) else (none)) else (none)) else (spec_l02Tides.j2 k x0 x3 false x195000 x195001))
def spec_l02Tides.j2 : Nat → List (S103) → Int → Bool → Int → Int → Option (Bool)
 | 0, _, _, _, _, _ => none
 | k + 1, x0, x3, x53, x195000, x195001 => if x53 = true then (some false) else (if x3 > 1 then (if 0 ≤ (wrap64 (x3 - 1)) then (if (wrap64 (x3 - 1)) < (x0.length : Int) then (if 0 ≤ (wrap64 (x3 - 2)) then (if (wrap64 (x3 - 2)) < (x0.length : Int) then (if ((decide (x195001 > ((rd_T103 x0 (wrap64 (x3 - 1))).f1))) == (decide (((rd_T103 x0 (wrap64 (x3 - 1))).f1) > ((rd_T103 x0 (wrap64 (x3 - 2))).f1)))) = true then (some false) else (spec_l02Tides.l0 k x0 (wrap64 (x3 + 1)))) else (none)) else (none)) else (none)) else (none)) else (spec_l02Tides.l0 k x0 (wrap64 (x3 + 1))))
end
def spec_l02Tides.f (k : Nat) (l0 : List (S103)) : Option (Bool) := spec_l02Tides.l0 k l0 0
set_option maxHeartbeats 8000000 in
set_option maxRecDepth 100000 in
theorem spec_l02Tides.calls (k : Nat) (A0 : Option Addr) (c0 : Nat) (l0 : List (S103)) (r : Bool) (w : World) (hr0 : Kd.C k103 w A0 l0.length l0) (hc0 : l0.length ≤ c0) (h : spec_l02Tides.f k l0 = some r) :
  Calls Try.prog 173 #[.slice A0 l0.length c0] w fun e w' => e = .returned (.bool r) ∧ Below w.heap.size w w' := by
 have hu103 := Try.underlying103
 have HR0 := am hr0
 have HC0 := am hc0
 clear hr0 hc0
 have HB := am (Below.refl w.heap.size w)
 have H : (spec_l02Tides.l0 k l0 0) = some r := h
 clear h
 have H' := am H
 clear H
 go_enter Try.func173, Try.ntmps173
 go_wp2
 repeat (go_quiet (fail); try go_wp2)
 go_loopg [3] k (fun kq v3 w' => ∃ (x3_1 : Int), v3 = .int .i64 x3_1 ∧ Aside0 (spec_l02Tides.l0 kq l0 x3_1 = some r) ∧ Aside0 (kq ≤ k) ∧ Aside0 (Below w.heap.size w w'))
 case atStart => exact ⟨(0), vx, H', ⟨Nat.le_refl _⟩, ⟨be HB⟩⟩
 case round =>
  clear H'
  try clear c1
  obtain ⟨x3_1, rfl, HA, HK1, HB⟩ := hrel
  cases gk with
  | zero => exact absurd HA.out (by simp [spec_l02Tides.l0])
  | succ k1 =>
   have H := HA.out
   clear HA
   simp only [spec_l02Tides.l0] at H
   by_cases c2 : x3_1 < (l0.length : Int)
   ·rw [if_pos c2] at H
    have c2b0 : decide (x3_1 < (l0.length : Int)) = true := decide_eq_true c2
    clear c2
    by_cases c3 : 0 ≤ x3_1
    ·rw [if_pos c3] at H
     have c3b0 : decide (0 ≤ x3_1) = true := decide_eq_true c3
     have c3b1 : 0 ≤ x3_1 := c3
     clear c3
     have HC4 := am H
     clear H
     have p193 : 0 ≤ (x3_1 : Int) := of_decide_eq_true (by first | (with_reducible assumption) | assumption)
     have q193 : x3_1 < (l0.length : Int) := of_decide_eq_true (by first | (with_reducible assumption) | assumption)
     obtain ⟨ad193, e193, hx193_0, hx193_1⟩ := at_T103 HR0.out x3_1 p193 q193
     cases e193
     replace hx193_0 := (HB.out.cell (World.block_lt_of_cell? w _ hx193_0)).trans hx193_0
     replace hx193_1 := (HB.out.cell (World.block_lt_of_cell? w _ hx193_1)).trans hx193_1
     replace p193 := eq_true p193
     replace q193 := eq_true q193
     go_upto_region 5 with (first | ((with_reducible refine gate_dst (N := 4) rfl ?_); refine bxe (N := 4) (cs := #[.int .i16 0, .int .i8 0]) (t := 103) ?_; intro gb194 hg w5 hbox hb; have BK194 := am (hbox); have GW194 := am (gN hg (below_size (be HB))); have GE194 := am (gN hg (below_size (be HB))); replace HB := am (below_step (be HB) hb); clear hb hbox hg; obtain ⟨hcz6_0, hcz6_1, hfz6_0, hfz6_1⟩ := bx2 BK194))
     repeat (go_quiet (first | ((with_reducible refine gate_dst (N := 4) rfl ?_); refine bxe (N := 4) (cs := #[.int .i16 0, .int .i8 0]) (t := 103) ?_; intro gb194 hg w5 hbox hb; have BK194 := am (hbox); have GW194 := am (gN hg (below_size (be HB))); have GE194 := am (gN hg (below_size (be HB))); replace HB := am (below_step (be HB) hb); clear hb hbox hg; obtain ⟨hcz6_0, hcz6_1, hfz6_0, hfz6_1⟩ := bx2 BK194)); go_upto_region 5 with (first | ((with_reducible refine gate_dst (N := 4) rfl ?_); refine bxe (N := 4) (cs := #[.int .i16 0, .int .i8 0]) (t := 103) ?_; intro gb194 hg w5 hbox hb; have BK194 := am (hbox); have GW194 := am (gN hg (below_size (be HB))); have GE194 := am (gN hg (below_size (be HB))); replace HB := am (below_step (be HB) hb); clear hb hbox hg; obtain ⟨hcz6_0, hcz6_1, hfz6_0, hfz6_1⟩ := bx2 BK194)))
     (try simp only [Act.put, List.setIfInBounds_toArray, List.set_cons_zero, List.set_cons_succ])
     go_cut [26] (fun v26 wc => ∃ (kq : Nat) (x26_3 : Bool), v26 = .bool x26_3 ∧ Aside0 (spec_l02Tides.j1 kq l0 x3_1 x26_3 ((rd_T103 l0 x3_1).f0) ((rd_T103 l0 x3_1).f1) = some r) ∧ Aside0 (kq ≤ k1) ∧ Aside0 (wc.heap[gb194]? = some (.cells #[.int .i16 ((rd_T103 l0 x3_1).f0), .int .i8 ((rd_T103 l0 x3_1).f1)] 103 (0, 0))) ∧ Aside0 (Below w.heap.size w wc))
     case first =>
      have H := HC4.out
      clear HC4
      replace H := Option.bind_eq_some_iff.mp H
      obtain ⟨t195, A70, H⟩ := H
      try dsimp only at H
      have A7 := am A70
      clear A70
      by_cases c8 : t195 = true
      ·subst c8
       rw [if_pos rfl] at H
       replace H := Option.bind_eq_some_iff.mp H
       obtain ⟨t196, A90, H⟩ := H
       try dsimp only at H
       have A9 := am A90
       clear A90
       have H' := am H
       clear H
       obtain ⟨hcz10_0, hcz10_1, hfz10_0, hfz10_1⟩ := bx2 BK194
       go_wp2_with (first | (go_at_call 164; (with_reducible refine (spec_l00In.calls (wrap64 ((rd_T103 l0 x3_1).f0)) 0 3000 true _ A7.out).mono ?_); rintro e w' ⟨rfl, ⟨nd, rfl⟩⟩; (try first | exact ⟨rfl, _, World.drewN_drewN _ _ _⟩ | exact ⟨rfl, _, Eq.trans (World.drewN_drewN _ _ _) (congrArg (World.drewN _) (Nat.add_assoc _ _ _))⟩)) | (go_at_call 164; (with_reducible refine (spec_l00In.calls (wrap64 ((rd_T103 l0 x3_1).f1)) 0 100 t196 _ A9.out).mono ?_); rintro e w' ⟨rfl, ⟨nd, rfl⟩⟩; (try first | exact ⟨rfl, _, World.drewN_drewN _ _ _⟩ | exact ⟨rfl, _, Eq.trans (World.drewN_drewN _ _ _) (congrArg (World.drewN _) (Nat.add_assoc _ _ _))⟩)))
       repeat (go_quiet (first | (go_at_call 164; (with_reducible refine (spec_l00In.calls (wrap64 ((rd_T103 l0 x3_1).f0)) 0 3000 true _ A7.out).mono ?_); rintro e w' ⟨rfl, ⟨nd, rfl⟩⟩; (try first | exact ⟨rfl, _, World.drewN_drewN _ _ _⟩ | exact ⟨rfl, _, Eq.trans (World.drewN_drewN _ _ _) (congrArg (World.drewN _) (Nat.add_assoc _ _ _))⟩)) | (go_at_call 164; (with_reducible refine (spec_l00In.calls (wrap64 ((rd_T103 l0 x3_1).f1)) 0 100 t196 _ A9.out).mono ?_); rintro e w' ⟨rfl, ⟨nd, rfl⟩⟩; (try first | exact ⟨rfl, _, World.drewN_drewN _ _ _⟩ | exact ⟨rfl, _, Eq.trans (World.drewN_drewN _ _ _) (congrArg (World.drewN _) (Nat.add_assoc _ _ _))⟩))); try go_wp2_with (first | (go_at_call 164; (with_reducible refine (spec_l00In.calls (wrap64 ((rd_T103 l0 x3_1).f0)) 0 3000 true _ A7.out).mono ?_); rintro e w' ⟨rfl, ⟨nd, rfl⟩⟩; (try first | exact ⟨rfl, _, World.drewN_drewN _ _ _⟩ | exact ⟨rfl, _, Eq.trans (World.drewN_drewN _ _ _) (congrArg (World.drewN _) (Nat.add_assoc _ _ _))⟩)) | (go_at_call 164; (with_reducible refine (spec_l00In.calls (wrap64 ((rd_T103 l0 x3_1).f1)) 0 100 t196 _ A9.out).mono ?_); rintro e w' ⟨rfl, ⟨nd, rfl⟩⟩; (try first | exact ⟨rfl, _, World.drewN_drewN _ _ _⟩ | exact ⟨rfl, _, Eq.trans (World.drewN_drewN _ _ _) (congrArg (World.drewN _) (Nat.add_assoc _ _ _))⟩))))
       go_meet
       case rel => exact ⟨_, (!t196), vx, H', ⟨by have := HK1.out; first | omega | exact Nat.le_refl _⟩, ⟨by (with_reducible repeat (first | refine blk_drewN ?_ _ | refine blk_drew ?_ | refine blk_alloc ?_ _)); refine blk_put (cs := #[.int .i16 ((rd_T103 l0 x3_1).f0), .int .i8 0]) ?_ 1 _ rfl; (with_reducible repeat (first | refine blk_drewN ?_ _ | refine blk_drew ?_ | refine blk_alloc ?_ _)); refine blk_put (cs := #[.int .i16 0, .int .i8 0]) ?_ 0 _ rfl; exact kb BK194⟩, ⟨be HB⟩⟩
      ·replace c8 := Bool.eq_false_iff.mpr c8
       subst c8
       have H1 : (spec_l02Tides.j1 k1 l0 x3_1 true ((rd_T103 l0 x3_1).f0) ((rd_T103 l0 x3_1).f1)) = some r := by rw [if_neg (show ¬ (false = true) by decide)] at H; exact H
       clear H
       have H := H1
       clear H1
       have H' := am H
       clear H
       obtain ⟨hcz11_0, hcz11_1, hfz11_0, hfz11_1⟩ := bx2 BK194
       go_wp2_with (first | (go_at_call 164; (with_reducible refine (spec_l00In.calls (wrap64 ((rd_T103 l0 x3_1).f0)) 0 3000 false _ A7.out).mono ?_); rintro e w' ⟨rfl, ⟨nd, rfl⟩⟩; (try first | exact ⟨rfl, _, World.drewN_drewN _ _ _⟩ | exact ⟨rfl, _, Eq.trans (World.drewN_drewN _ _ _) (congrArg (World.drewN _) (Nat.add_assoc _ _ _))⟩)))
       repeat (go_quiet (first | (go_at_call 164; (with_reducible refine (spec_l00In.calls (wrap64 ((rd_T103 l0 x3_1).f0)) 0 3000 false _ A7.out).mono ?_); rintro e w' ⟨rfl, ⟨nd, rfl⟩⟩; (try first | exact ⟨rfl, _, World.drewN_drewN _ _ _⟩ | exact ⟨rfl, _, Eq.trans (World.drewN_drewN _ _ _) (congrArg (World.drewN _) (Nat.add_assoc _ _ _))⟩))); try go_wp2_with (first | (go_at_call 164; (with_reducible refine (spec_l00In.calls (wrap64 ((rd_T103 l0 x3_1).f0)) 0 3000 false _ A7.out).mono ?_); rintro e w' ⟨rfl, ⟨nd, rfl⟩⟩; (try first | exact ⟨rfl, _, World.drewN_drewN _ _ _⟩ | exact ⟨rfl, _, Eq.trans (World.drewN_drewN _ _ _) (congrArg (World.drewN _) (Nat.add_assoc _ _ _))⟩))))
       go_meet
       case rel => exact ⟨_, (true), vx, H', ⟨by have := HK1.out; first | omega | exact Nat.le_refl _⟩, ⟨by (with_reducible repeat (first | refine blk_drewN ?_ _ | refine blk_drew ?_ | refine blk_alloc ?_ _)); refine blk_put (cs := #[.int .i16 ((rd_T103 l0 x3_1).f0), .int .i8 0]) ?_ 1 _ rfl; (with_reducible repeat (first | refine blk_drewN ?_ _ | refine blk_drew ?_ | refine blk_alloc ?_ _)); refine blk_put (cs := #[.int .i16 0, .int .i8 0]) ?_ 0 _ rfl; exact kb BK194⟩, ⟨be HB⟩⟩
     case rest =>
      clear HC4
      try clear c1
      try clear p1
      try clear q1
      try clear hx1
      try clear c2
      try clear c2b0
      try clear p2
      try clear c3
      try clear c3b0
      try clear c3b1
      try clear p6
      try clear c8
      try clear hcz10_0
      try clear hcz10_1
      try clear hcz11_0
      try clear hcz11_1
      try clear hcz6_0
      try clear hcz6_1
      try clear hfz10_0
      try clear hfz10_1
      try clear hfz11_0
      try clear hfz11_1
      try clear hfz6_0
      try clear hfz6_1
      try clear hx193_0
      try clear hx193_1
      try clear p193
      try clear q193
      obtain ⟨kq, x26_3, rfl, HA, HJ3, BK194, HB⟩ := hcut
      cases kq with
      | zero => exact absurd HA.out (by simp [spec_l02Tides.j1])
      | succ kj3 =>
       have H := HA.out
       clear HA
       simp only [spec_l02Tides.j1] at H
       by_cases c12 : x26_3 = true
       ·subst c12
        rw [if_pos rfl] at H
        obtain rfl := Option.some.inj H
        go_wp2
        repeat (go_quiet (fail); try go_wp2)
        go_ret
        exact ⟨by first | rfl | (simp [errW_none, errW_some] <;> rfl) | (simp [*, errW_none, errW_some] <;> rfl), be HB⟩
       ·replace c12 := Bool.eq_false_iff.mpr c12
        subst c12
        have H1 : (if x3_1 > 0 then (if 0 ≤ (wrap64 (x3_1 - 1)) then (if (wrap64 (x3_1 - 1)) < (l0.length : Int) then (if (wrap64 (((rd_T103 l0 x3_1).f0))) < (wrap64 ((wrap64 ((rd_T103 l0 (wrap64 (x3_1 - 1))).f0)) + 6)) then (spec_l02Tides.j2 kj3 l0 x3_1 true ((rd_T103 l0 x3_1).f0) ((rd_T103 l0 x3_1).f1)) else (spec_l02Tides.j2 kj3 l0 x3_1 (((rd_T103 l0 x3_1).f1) == ((rd_T103 l0 (wrap64 (x3_1 - 1))).f1)) ((rd_T103 l0 x3_1).f0) ((rd_T103 l0 x3_1).f1))) else (none)) else (none)) else (spec_l02Tides.j2 kj3 l0 x3_1 false ((rd_T103 l0 x3_1).f0) ((rd_T103 l0 x3_1).f1))) = some r := by rw [if_neg (show ¬ (false = true) by decide)] at H; exact H
        clear H
        have H := H1
        clear H1
        have HC13 := am H
        clear H
        go_upto_region 7 with (fail)
        repeat (go_quiet (fail); go_upto_region 7 with (fail))
        go_cut [53] (fun v53 wc => ∃ (kq : Nat) (x53_12 : Bool), v53 = .bool x53_12 ∧ Aside0 (spec_l02Tides.j2 kq l0 x3_1 x53_12 ((rd_T103 l0 x3_1).f0) ((rd_T103 l0 x3_1).f1) = some r) ∧ Aside0 (kq ≤ kj3) ∧ Aside0 (wc.heap[gb194]? = some (.cells #[.int .i16 ((rd_T103 l0 x3_1).f0), .int .i8 ((rd_T103 l0 x3_1).f1)] 103 (0, 0))) ∧ Aside0 (Below w.heap.size w wc))
        case first =>
         have H := HC13.out
         clear HC13
         by_cases c14 : x3_1 > 0
         ·rw [if_pos c14] at H
          have c14b0 : decide (0 < x3_1) = true := decide_eq_true c14
          clear c14
          (first | rw [c14b0] | (simp only [i64_w, i32_w]; rw [c14b0]) | skip)
          obtain ⟨ji15, hji15⟩ : ∃ j_ : Int, (wrap64 (x3_1 - 1)) = j_ := ⟨_, rfl⟩
          replace H : (if 0 ≤ (ji15) then (if (ji15) < (l0.length : Int) then (if (wrap64 (((rd_T103 l0 x3_1).f0))) < (wrap64 ((wrap64 ((rd_T103 l0 (ji15)).f0)) + 6)) then (spec_l02Tides.j2 kj3 l0 x3_1 true ((rd_T103 l0 x3_1).f0) ((rd_T103 l0 x3_1).f1)) else (spec_l02Tides.j2 kj3 l0 x3_1 (((rd_T103 l0 x3_1).f1) == ((rd_T103 l0 (ji15)).f1)) ((rd_T103 l0 x3_1).f0) ((rd_T103 l0 x3_1).f1))) else (none)) else (none)) = some r := by first | (rw [hji15] at H; exact H) | (simp only [hji15] at H ⊢; exact H)
          have hji15w : (IntKind.i64.wrap (x3_1 - 1)) = ji15 := (i64_w _).trans hji15
          by_cases c16 : 0 ≤ (ji15)
          ·rw [if_pos c16] at H
           have c16b0 : decide (0 ≤ (ji15)) = true := decide_eq_true c16
           have c16b1 : 0 ≤ (ji15) := c16
           clear c16
           by_cases c17 : (ji15) < (l0.length : Int)
           ·rw [if_pos c17] at H
            have c17b0 : decide ((ji15) < (l0.length : Int)) = true := decide_eq_true c17
            clear c17
            by_cases c18 : (wrap64 (((rd_T103 l0 x3_1).f0))) < (wrap64 ((wrap64 ((rd_T103 l0 (ji15)).f0)) + 6))
            ·rw [if_pos c18] at H
             have c18b0 : decide ((wrap64 (((rd_T103 l0 x3_1).f0))) < (wrap64 ((wrap64 ((rd_T103 l0 (ji15)).f0)) + 6))) = true := decide_eq_true c18
             clear c18
             have H' := am H
             clear H
             obtain ⟨hcz19_0, hcz19_1, hfz19_0, hfz19_1⟩ := bx2 BK194
             have p197 : 0 ≤ ((ji15) : Int) := of_decide_eq_true (by first | (with_reducible assumption) | assumption)
             have q197 : (ji15) < (l0.length : Int) := of_decide_eq_true (by first | (with_reducible assumption) | assumption)
             obtain ⟨ad197, e197, hx197_0, hx197_1⟩ := at_T103 HR0.out (ji15) p197 q197
             obtain rfl : ad193 = ad197 := (by injection e197)
             replace hx197_0 := (HB.out.cell (World.block_lt_of_cell? w _ hx197_0)).trans hx197_0
             replace hx197_1 := (HB.out.cell (World.block_lt_of_cell? w _ hx197_1)).trans hx197_1
             replace p197 := eq_true p197
             replace q197 := eq_true q197
             go_wp2
             repeat (go_quiet (fail); try go_wp2)
             go_meet
             case rel => exact ⟨_, (true), vx, H', ⟨by have := HK1.out; have := HJ3.out; first | omega | exact Nat.le_refl _⟩, ⟨kb BK194⟩, ⟨be HB⟩⟩
            ·rw [if_neg c18] at H
             have c18b0 : decide ((wrap64 (((rd_T103 l0 x3_1).f0))) < (wrap64 ((wrap64 ((rd_T103 l0 (ji15)).f0)) + 6))) = false := decide_eq_false c18
             clear c18
             have H' := am H
             clear H
             obtain ⟨hcz20_0, hcz20_1, hfz20_0, hfz20_1⟩ := bx2 BK194
             have p197 : 0 ≤ ((ji15) : Int) := of_decide_eq_true (by first | (with_reducible assumption) | assumption)
             have q197 : (ji15) < (l0.length : Int) := of_decide_eq_true (by first | (with_reducible assumption) | assumption)
             obtain ⟨ad197, e197, hx197_0, hx197_1⟩ := at_T103 HR0.out (ji15) p197 q197
             obtain rfl : ad193 = ad197 := (by injection e197)
             replace hx197_0 := (HB.out.cell (World.block_lt_of_cell? w _ hx197_0)).trans hx197_0
             replace hx197_1 := (HB.out.cell (World.block_lt_of_cell? w _ hx197_1)).trans hx197_1
             replace p197 := eq_true p197
             replace q197 := eq_true q197
             have p198 : 0 ≤ ((ji15) : Int) := of_decide_eq_true (by first | (with_reducible assumption) | assumption)
             have q198 : (ji15) < (l0.length : Int) := of_decide_eq_true (by first | (with_reducible assumption) | assumption)
             obtain ⟨ad198, e198, hx198_0, hx198_1⟩ := at_T103 HR0.out (ji15) p198 q198
             obtain rfl : ad193 = ad198 := (by injection e198)
             replace hx198_0 := (HB.out.cell (World.block_lt_of_cell? w _ hx198_0)).trans hx198_0
             replace hx198_1 := (HB.out.cell (World.block_lt_of_cell? w _ hx198_1)).trans hx198_1
             replace p198 := eq_true p198
             replace q198 := eq_true q198
             go_wp2
             repeat (go_quiet (fail); try go_wp2)
             go_meet
             case rel => exact ⟨_, ((((rd_T103 l0 x3_1).f1) == ((rd_T103 l0 (ji15)).f1))), (by first | rfl | (simp; done) | (simp only [← hji15] <;> (first | rfl | simp)) | (simp [*]; done)), H', ⟨by have := HK1.out; have := HJ3.out; first | omega | exact Nat.le_refl _⟩, ⟨kb BK194⟩, ⟨be HB⟩⟩
           ·rw [if_neg c17] at H
            exact absurd H (by simp)
          ·rw [if_neg c16] at H
           exact absurd H (by simp)
         ·rw [if_neg c14] at H
          have c14b0 : decide (0 < x3_1) = false := decide_eq_false c14
          clear c14
          (first | rw [c14b0] | (simp only [i64_w, i32_w]; rw [c14b0]) | skip)
          have H' := am H
          clear H
          go_wp2
          repeat (go_quiet (fail); try go_wp2)
          go_meet
          case rel => exact ⟨_, (false), vx, H', ⟨by have := HK1.out; have := HJ3.out; first | omega | exact Nat.le_refl _⟩, ⟨kb BK194⟩, ⟨be HB⟩⟩
        case rest =>
         clear HC13
         try clear c1
         try clear p1
         try clear q1
         try clear hx1
         try clear c2
         try clear c2b0
         try clear p2
         try clear c3
         try clear c3b0
         try clear c3b1
         try clear p6
         try clear c8
         try clear c12
         try clear c14
         try clear c14b0
         try clear c16
         try clear c16b0
         try clear c16b1
         try clear c17
         try clear c17b0
         try clear c18
         try clear c18b0
         try clear p19
         try clear q19
         try clear hx19
         try clear hcz10_0
         try clear hcz10_1
         try clear hcz11_0
         try clear hcz11_1
         try clear hcz19_0
         try clear hcz19_1
         try clear hcz20_0
         try clear hcz20_1
         try clear hcz6_0
         try clear hcz6_1
         try clear hfz10_0
         try clear hfz10_1
         try clear hfz11_0
         try clear hfz11_1
         try clear hfz19_0
         try clear hfz19_1
         try clear hfz20_0
         try clear hfz20_1
         try clear hfz6_0
         try clear hfz6_1
         try clear hx193_0
         try clear hx193_1
         try clear hx197_0
         try clear hx197_1
         try clear hx198_0
         try clear hx198_1
         try clear p1
         try clear p193
         try clear p197
         try clear p198
         try clear p2
         try clear p6
         try clear q1
         try clear q193
         try clear q197
         try clear q198
         obtain ⟨kq, x53_12, rfl, HA, HJ12, BK194, HB⟩ := hcut
         cases kq with
         | zero => exact absurd HA.out (by simp [spec_l02Tides.j2])
         | succ kj12 =>
          have H := HA.out
          clear HA
          simp only [spec_l02Tides.j2] at H
          by_cases c21 : x53_12 = true
          ·subst c21
           rw [if_pos rfl] at H
           obtain rfl := Option.some.inj H
           go_wp2
           repeat (go_quiet (fail); try go_wp2)
           go_ret
           exact ⟨by first | rfl | (simp [errW_none, errW_some] <;> rfl) | (simp [*, errW_none, errW_some] <;> rfl), be HB⟩
          ·replace c21 := Bool.eq_false_iff.mpr c21
           subst c21
           have H1 : (if x3_1 > 1 then (if 0 ≤ (wrap64 (x3_1 - 1)) then (if (wrap64 (x3_1 - 1)) < (l0.length : Int) then (if 0 ≤ (wrap64 (x3_1 - 2)) then (if (wrap64 (x3_1 - 2)) < (l0.length : Int) then (if ((decide (((rd_T103 l0 x3_1).f1) > ((rd_T103 l0 (wrap64 (x3_1 - 1))).f1))) == (decide (((rd_T103 l0 (wrap64 (x3_1 - 1))).f1) > ((rd_T103 l0 (wrap64 (x3_1 - 2))).f1)))) = true then (some false) else (spec_l02Tides.l0 kj12 l0 (wrap64 (x3_1 + 1)))) else (none)) else (none)) else (none)) else (none)) else (spec_l02Tides.l0 kj12 l0 (wrap64 (x3_1 + 1)))) = some r := by rw [if_neg (show ¬ (false = true) by decide)] at H; exact H
           clear H
           have H := H1
           clear H1
           by_cases c22 : x3_1 > 1
           ·rw [if_pos c22] at H
            have c22b0 : decide (1 < x3_1) = true := decide_eq_true c22
            clear c22
            obtain ⟨ji23, hji23⟩ : ∃ j_ : Int, (wrap64 (x3_1 - 1)) = j_ := ⟨_, rfl⟩
            replace H : (if 0 ≤ (ji23) then (if (ji23) < (l0.length : Int) then (if 0 ≤ (wrap64 (x3_1 - 2)) then (if (wrap64 (x3_1 - 2)) < (l0.length : Int) then (if ((decide (((rd_T103 l0 x3_1).f1) > ((rd_T103 l0 (ji23)).f1))) == (decide (((rd_T103 l0 (ji23)).f1) > ((rd_T103 l0 (wrap64 (x3_1 - 2))).f1)))) = true then (some false) else (spec_l02Tides.l0 kj12 l0 (wrap64 (x3_1 + 1)))) else (none)) else (none)) else (none)) else (none)) = some r := by first | (rw [hji23] at H; exact H) | (simp only [hji23] at H ⊢; exact H)
            have hji23w : (IntKind.i64.wrap (x3_1 - 1)) = ji23 := (i64_w _).trans hji23
            by_cases c24 : 0 ≤ (ji23)
            ·rw [if_pos c24] at H
             have c24b0 : decide (0 ≤ (ji23)) = true := decide_eq_true c24
             have c24b1 : 0 ≤ (ji23) := c24
             clear c24
             by_cases c25 : (ji23) < (l0.length : Int)
             ·rw [if_pos c25] at H
              have c25b0 : decide ((ji23) < (l0.length : Int)) = true := decide_eq_true c25
              clear c25
              obtain ⟨ji26, hji26⟩ : ∃ j_ : Int, (wrap64 (x3_1 - 2)) = j_ := ⟨_, rfl⟩
              replace H : (if 0 ≤ (ji26) then (if (ji26) < (l0.length : Int) then (if ((decide (((rd_T103 l0 x3_1).f1) > ((rd_T103 l0 (ji23)).f1))) == (decide (((rd_T103 l0 (ji23)).f1) > ((rd_T103 l0 (ji26)).f1)))) = true then (some false) else (spec_l02Tides.l0 kj12 l0 (wrap64 (x3_1 + 1)))) else (none)) else (none)) = some r := by first | (rw [hji26] at H; exact H) | (simp only [hji26] at H ⊢; exact H)
              have hji26w : (IntKind.i64.wrap (x3_1 - 2)) = ji26 := (i64_w _).trans hji26
              by_cases c27 : 0 ≤ (ji26)
              ·rw [if_pos c27] at H
               have c27b0 : decide (0 ≤ (ji26)) = true := decide_eq_true c27
               have c27b1 : 0 ≤ (ji26) := c27
               clear c27
               by_cases c28 : (ji26) < (l0.length : Int)
               ·rw [if_pos c28] at H
                have c28b0 : decide ((ji26) < (l0.length : Int)) = true := decide_eq_true c28
                clear c28
                by_cases c29 : ((decide (((rd_T103 l0 x3_1).f1) > ((rd_T103 l0 (ji23)).f1))) == (decide (((rd_T103 l0 (ji23)).f1) > ((rd_T103 l0 (ji26)).f1)))) = true
                ·rw [if_pos c29] at H
                 have c29b0 : ((decide (((rd_T103 l0 x3_1).f1) > ((rd_T103 l0 (ji23)).f1))) == (decide (((rd_T103 l0 (ji23)).f1) > ((rd_T103 l0 (ji26)).f1)))) = true := c29
                 (try (have c29b1 : decide ((decide (((rd_T103 l0 x3_1).f1) > ((rd_T103 l0 (ji23)).f1))) = (decide (((rd_T103 l0 (ji23)).f1) > ((rd_T103 l0 (ji26)).f1)))) = true := by simpa using c29))
                 (try (have c29b2 : ((decide (((rd_T103 l0 x3_1).f1) > ((rd_T103 l0 (ji23)).f1))) == (decide (((rd_T103 l0 (ji23)).f1) > ((rd_T103 l0 (ji26)).f1)))) = true := by simpa using c29))
                 clear c29
                 obtain rfl := Option.some.inj H
                 obtain ⟨hcz30_0, hcz30_1, hfz30_0, hfz30_1⟩ := bx2 BK194
                 have p199 : 0 ≤ ((ji23) : Int) := of_decide_eq_true (by first | (with_reducible assumption) | assumption)
                 have q199 : (ji23) < (l0.length : Int) := of_decide_eq_true (by first | (with_reducible assumption) | assumption)
                 obtain ⟨ad199, e199, hx199_0, hx199_1⟩ := at_T103 HR0.out (ji23) p199 q199
                 obtain rfl : ad193 = ad199 := (by injection e199)
                 replace hx199_0 := (HB.out.cell (World.block_lt_of_cell? w _ hx199_0)).trans hx199_0
                 replace hx199_1 := (HB.out.cell (World.block_lt_of_cell? w _ hx199_1)).trans hx199_1
                 replace p199 := eq_true p199
                 replace q199 := eq_true q199
                 have p200 : 0 ≤ ((ji23) : Int) := of_decide_eq_true (by first | (with_reducible assumption) | assumption)
                 have q200 : (ji23) < (l0.length : Int) := of_decide_eq_true (by first | (with_reducible assumption) | assumption)
                 obtain ⟨ad200, e200, hx200_0, hx200_1⟩ := at_T103 HR0.out (ji23) p200 q200
                 obtain rfl : ad193 = ad200 := (by injection e200)
                 replace hx200_0 := (HB.out.cell (World.block_lt_of_cell? w _ hx200_0)).trans hx200_0
                 replace hx200_1 := (HB.out.cell (World.block_lt_of_cell? w _ hx200_1)).trans hx200_1
                 replace p200 := eq_true p200
                 replace q200 := eq_true q200
                 have p201 : 0 ≤ ((ji26) : Int) := of_decide_eq_true (by first | (with_reducible assumption) | assumption)
                 have q201 : (ji26) < (l0.length : Int) := of_decide_eq_true (by first | (with_reducible assumption) | assumption)
                 obtain ⟨ad201, e201, hx201_0, hx201_1⟩ := at_T103 HR0.out (ji26) p201 q201
                 obtain rfl : ad193 = ad201 := (by injection e201)
                 replace hx201_0 := (HB.out.cell (World.block_lt_of_cell? w _ hx201_0)).trans hx201_0
                 replace hx201_1 := (HB.out.cell (World.block_lt_of_cell? w _ hx201_1)).trans hx201_1
                 replace p201 := eq_true p201
                 replace q201 := eq_true q201
                 go_wp2
                 repeat (go_quiet (fail); try go_wp2)
                 go_ret
                 exact ⟨by first | rfl | (simp [errW_none, errW_some] <;> rfl) | (simp only [← hji23, ← hji26]; first | rfl | (simp [errW_none, errW_some] <;> rfl)) | (simp [*, errW_none, errW_some] <;> rfl), be HB⟩
                ·rw [if_neg c29] at H
                 have c29b0 : ((decide (((rd_T103 l0 x3_1).f1) > ((rd_T103 l0 (ji23)).f1))) == (decide (((rd_T103 l0 (ji23)).f1) > ((rd_T103 l0 (ji26)).f1)))) = false := by simpa using c29
                 (try (have c29b1 : decide ((decide (((rd_T103 l0 x3_1).f1) > ((rd_T103 l0 (ji23)).f1))) = (decide (((rd_T103 l0 (ji23)).f1) > ((rd_T103 l0 (ji26)).f1)))) = false := by simpa using c29))
                 (try (have c29b2 : ((decide (((rd_T103 l0 x3_1).f1) > ((rd_T103 l0 (ji23)).f1))) == (decide (((rd_T103 l0 (ji23)).f1) > ((rd_T103 l0 (ji26)).f1)))) = false := by simpa using c29))
                 (try (have c29b3 : ¬ ((decide (((rd_T103 l0 x3_1).f1) > ((rd_T103 l0 (ji23)).f1))) = (decide (((rd_T103 l0 (ji23)).f1) > ((rd_T103 l0 (ji26)).f1)))) := by simpa using c29))
                 clear c29
                 have H' := am H
                 clear H
                 obtain ⟨hcz31_0, hcz31_1, hfz31_0, hfz31_1⟩ := bx2 BK194
                 have p199 : 0 ≤ ((ji23) : Int) := of_decide_eq_true (by first | (with_reducible assumption) | assumption)
                 have q199 : (ji23) < (l0.length : Int) := of_decide_eq_true (by first | (with_reducible assumption) | assumption)
                 obtain ⟨ad199, e199, hx199_0, hx199_1⟩ := at_T103 HR0.out (ji23) p199 q199
                 obtain rfl : ad193 = ad199 := (by injection e199)
                 replace hx199_0 := (HB.out.cell (World.block_lt_of_cell? w _ hx199_0)).trans hx199_0
                 replace hx199_1 := (HB.out.cell (World.block_lt_of_cell? w _ hx199_1)).trans hx199_1
                 replace p199 := eq_true p199
                 replace q199 := eq_true q199
                 have p200 : 0 ≤ ((ji23) : Int) := of_decide_eq_true (by first | (with_reducible assumption) | assumption)
                 have q200 : (ji23) < (l0.length : Int) := of_decide_eq_true (by first | (with_reducible assumption) | assumption)
                 obtain ⟨ad200, e200, hx200_0, hx200_1⟩ := at_T103 HR0.out (ji23) p200 q200
                 obtain rfl : ad193 = ad200 := (by injection e200)
                 replace hx200_0 := (HB.out.cell (World.block_lt_of_cell? w _ hx200_0)).trans hx200_0
                 replace hx200_1 := (HB.out.cell (World.block_lt_of_cell? w _ hx200_1)).trans hx200_1
                 replace p200 := eq_true p200
                 replace q200 := eq_true q200
                 have p201 : 0 ≤ ((ji26) : Int) := of_decide_eq_true (by first | (with_reducible assumption) | assumption)
                 have q201 : (ji26) < (l0.length : Int) := of_decide_eq_true (by first | (with_reducible assumption) | assumption)
                 obtain ⟨ad201, e201, hx201_0, hx201_1⟩ := at_T103 HR0.out (ji26) p201 q201
                 obtain rfl : ad193 = ad201 := (by injection e201)
                 replace hx201_0 := (HB.out.cell (World.block_lt_of_cell? w _ hx201_0)).trans hx201_0
                 replace hx201_1 := (HB.out.cell (World.block_lt_of_cell? w _ hx201_1)).trans hx201_1
                 replace p201 := eq_true p201
                 replace q201 := eq_true q201
                 go_wp2
                 repeat (go_quiet (fail); try go_wp2)
                 go_roundg kj12
                 case measure => have := HK1.out; have := HJ3.out; have := HJ12.out; omega
                 case rel => exact ⟨(wrap64 (x3_1 + 1)), vx, H', ⟨by have := HK1.out; have := HJ3.out; have := HJ12.out; omega⟩, ⟨be HB⟩⟩
               ·rw [if_neg c28] at H
                exact absurd H (by simp)
              ·rw [if_neg c27] at H
               exact absurd H (by simp)
             ·rw [if_neg c25] at H
              exact absurd H (by simp)
            ·rw [if_neg c24] at H
             exact absurd H (by simp)
           ·rw [if_neg c22] at H
            have c22b0 : decide (1 < x3_1) = false := decide_eq_false c22
            clear c22
            have H' := am H
            clear H
            go_wp2
            repeat (go_quiet (fail); try go_wp2)
            go_roundg kj12
            case measure => have := HK1.out; have := HJ3.out; have := HJ12.out; omega
            case rel => exact ⟨(wrap64 (x3_1 + 1)), vx, H', ⟨by have := HK1.out; have := HJ3.out; have := HJ12.out; omega⟩, ⟨be HB⟩⟩
    ·rw [if_neg c3] at H
     exact absurd H (by simp)
   ·rw [if_neg c2] at H
    have c2b0 : decide (x3_1 < (l0.length : Int)) = false := decide_eq_false c2
    clear c2
    replace H := Option.bind_eq_some_iff.mp H
    obtain ⟨t192, A320, H⟩ := H
    try dsimp only at H
    have A32 := am A320
    clear A320
    obtain rfl := Option.some.inj H
    go_wp2_with (first | (go_at_call 164; (with_reducible refine (spec_l00In.calls (l0.length : Int) 2 8 t192 _ A32.out).mono ?_); rintro e w' ⟨rfl, ⟨nd, rfl⟩⟩; (try first | exact ⟨rfl, _, World.drewN_drewN _ _ _⟩ | exact ⟨rfl, _, Eq.trans (World.drewN_drewN _ _ _) (congrArg (World.drewN _) (Nat.add_assoc _ _ _))⟩)))
    repeat (go_quiet (first | (go_at_call 164; (with_reducible refine (spec_l00In.calls (l0.length : Int) 2 8 t192 _ A32.out).mono ?_); rintro e w' ⟨rfl, ⟨nd, rfl⟩⟩; (try first | exact ⟨rfl, _, World.drewN_drewN _ _ _⟩ | exact ⟨rfl, _, Eq.trans (World.drewN_drewN _ _ _) (congrArg (World.drewN _) (Nat.add_assoc _ _ _))⟩))); try go_wp2_with (first | (go_at_call 164; (with_reducible refine (spec_l00In.calls (l0.length : Int) 2 8 t192 _ A32.out).mono ?_); rintro e w' ⟨rfl, ⟨nd, rfl⟩⟩; (try first | exact ⟨rfl, _, World.drewN_drewN _ _ _⟩ | exact ⟨rfl, _, Eq.trans (World.drewN_drewN _ _ _) (congrArg (World.drewN _) (Nat.add_assoc _ _ _))⟩))))
    go_ret
    exact ⟨by first | rfl | (simp [errW_none, errW_some] <;> rfl) | (simp [*, errW_none, errW_some] <;> rfl), be HB⟩

/-! ### spec_l02Boats: function 142 -/
def spec_l02Boats.j0 : Nat → Bool → Int → Bool → Int → Int → (Nat → Int) → Option (Int × Int × Int × (Nat → Int))
 | 0, _, _, _, _, _, _ => none
 | k + 1, x3, x9, x19, x1000, x1001, x1002 => if x19 = true then (some (1, x1000, x1001, x1002)) else (if x9 = 0 then (if x3 = true then (some (0, x1000, x1001, x1002)) else (some (2, x1000, x1001, x1002))) else (some (x9, x1000, x1001, x1002)))
def spec_l02Boats.f (k : Nat) (s0_0 : Int) (s0_1 : Int) (s0_2 : (Nat → Int)) (l1 : List (S38)) (l2 : List (S103)) (a3 : Bool) : Option (Int × Int × Int × (Nat → Int)) := (spec_l01Asked.f k s0_0 s0_1 s0_2 l1).bind fun bt202 => (if bt202.1 = 1 then (spec_l02Boats.j0 k a3 bt202.1 true bt202.2.1 bt202.2.2.1 bt202.2.2.2) else ((spec_l02Tides.f k l2).bind fun t206 => (spec_l02Boats.j0 k a3 bt202.1 (!t206) bt202.2.1 bt202.2.2.1 bt202.2.2.2)))
set_option maxHeartbeats 8000000 in
set_option maxRecDepth 100000 in
theorem spec_l02Boats.calls (k : Nat) (g : Nat) (s0_0 : Int) (s0_1 : Int) (s0_2 : (Nat → Int)) (A1 : Option Addr) (c1 : Nat) (l1 : List (S38)) (A2 : Option Addr) (c2 : Nat) (l2 : List (S103)) (a3 : Bool) (r1 : Int) (r2 : Int) (r3 : Int) (r4 : (Nat → Int)) (w0 w : World) (hI : IsS28 w0 w g s0_0 s0_1 s0_2) (hB : Below w0.heap.size w0 w) (hr1 : ∀ W_, KeepBut w W_ g none → Kd.C k38 W_ A1 l1.length l1) (hc1 : l1.length ≤ c1) (hr2 : ∀ W_, KeepBut w W_ g none → Kd.C k103 W_ A2 l2.length l2) (hc2 : l2.length ≤ c2) (h : spec_l02Boats.f k s0_0 s0_1 s0_2 l1 l2 a3 = some (r1, r2, r3, r4)) :
  Calls Try.prog 142 #[.pointer (some ⟨g, 0, none⟩), .slice A1 l1.length c1, .slice A2 l2.length c2, .bool a3] w fun e w' => e = .returned (.int .i64 r1) ∧ IsS28 w0 w' g r2 r3 r4 ∧ Below w0.heap.size w0 w' ∧ KeepBut w w' g none := by
 have HR1 := am hr1
 have HC1 := am hc1
 clear hr1 hc1
 have HR2 := am hr2
 have HC2 := am hc2
 clear hr2 hc2
 have HI0 := am hI
 have HK := am (KeepBut.refl w g none)
 have HL := am hB.size
 clear hI
 have HW0 := am hB.size
 have HB := am hB
 clear hB
 have H : ((spec_l01Asked.f k s0_0 s0_1 s0_2 l1).bind fun bt202 => (if bt202.1 = 1 then (spec_l02Boats.j0 k a3 bt202.1 true bt202.2.1 bt202.2.2.1 bt202.2.2.2) else ((spec_l02Tides.f k l2).bind fun t206 => (spec_l02Boats.j0 k a3 bt202.1 (!t206) bt202.2.1 bt202.2.2.1 bt202.2.2.2)))) = some (r1, r2, r3, r4) := h
 clear h
 replace H := Option.bind_eq_some_iff.mp H
 obtain ⟨⟨t202, t203, t204, t205⟩, A50, H⟩ := H
 try dsimp only at H
 have A5 := am A50
 clear A50
 have HC6 := am H
 clear H
 go_enter Try.func142, Try.ntmps142
 go_upto_region 2 with (first | ((with_reducible refine gate_callee (f := 117) rfl ?_); refine gL (some 12) Try.func117 #[.pointer (some ⟨g, 0, none⟩), .slice A1 l1.length c1] ?_; (with_reducible refine (spec_l01Asked.calls k g s0_0 s0_1 s0_2 _ _ l1 t202 t203 t204 t205 w0 _ ?side1 ?side2 ?side3 ?side4 A5.out).mono ?_); (case side1 => exact si28 HI0); (case side2 => exact be HB); (case side3 => exact Kd.C_foot_step HR1.out (ke HK)); (case side4 => exact HC1.out); rintro e w7 ⟨rfl, hi, hb, hk⟩; refine ⟨_, rfl, ?_⟩; replace HK := am (KeepBut.trans (ke HK) hk (.inl rfl)); replace HB := am (hb); replace HI0 := am (hi); (try clear hb); (try clear hb2); (try clear hk); (try clear hi)))
 (try simp only [Act.put, List.setIfInBounds_toArray, List.set_cons_zero, List.set_cons_succ])
 go_cut [19] (fun v19 wc => ∃ (kq : Nat) (x19_5 : Bool), v19 = .bool x19_5 ∧ Aside0 (spec_l02Boats.j0 kq a3 t202 x19_5 t203 t204 t205 = some (r1, r2, r3, r4)) ∧ Aside0 (kq ≤ k) ∧ Aside0 (IsS28 w0 wc g t203 t204 t205) ∧ Aside0 (KeepBut w wc g none) ∧ Aside0 (Below w0.heap.size w0 wc))
 case first =>
  have H := HC6.out
  clear HC6
  by_cases c8 : t202 = 1
  ·rw [if_pos c8] at H
   have c8b0 : (t202 == 1) = true := beq_iff_eq.mpr c8
   have c8b1 : (t202 != 1) = false := bne_eq_false_iff_eq.mpr c8
   clear c8
   (first | rw [c8b0] | (simp only [i64_w, i32_w]; rw [c8b0]) | skip)
   have H' := am H
   clear H
   go_wp2
   go_meet
   case rel => exact ⟨_, (true), vx, H', ⟨by first | omega | exact Nat.le_refl _⟩, ⟨si28 HI0⟩, ⟨ke HK⟩, ⟨be HB⟩⟩
  ·rw [if_neg c8] at H
   have c8b0 : (t202 == 1) = false := beq_eq_false_iff_ne.mpr c8
   have c8b1 : (t202 != 1) = true := bne_iff_ne.mpr c8
   (first | rw [c8b0] | (simp only [i64_w, i32_w]; rw [c8b0]) | skip)
   replace H := Option.bind_eq_some_iff.mp H
   obtain ⟨t206, A90, H⟩ := H
   try dsimp only at H
   have A9 := am A90
   clear A90
   have H' := am H
   clear H
   go_wp2_with (first | (go_at_call 173; (with_reducible refine (spec_l02Tides.calls k _ _ l2 t206 _ ?side1 ?side2 A9.out).mono ?_); (case side1 => exact Kd.C_foot_now HR2.out (ke HK)); (case side2 => exact HC2.out); rintro e w10 ⟨rfl, hb⟩; replace HI0 := am (IsS28.below (si28 HI0) hb); replace HK := am (KeepBut.trans (ke HK) (KeepBut.of_below hb g none) (.inl rfl)); replace HB := am (below_step (be HB) hb); (try clear hb); (try clear hb2); (try clear hk); (try clear hi)))
   go_meet
   case rel => exact ⟨_, (!t206), vx, H', ⟨by first | omega | exact Nat.le_refl _⟩, ⟨si28 HI0⟩, ⟨ke HK⟩, ⟨be HB⟩⟩
 case rest =>
  clear HC6
  try clear c1
  try clear c2
  try clear p2
  try clear c8
  try clear c8b0
  try clear c8b1
  obtain ⟨kq, x19_5, rfl, HA, HJ5, HI0, HK, HB⟩ := hcut
  cases kq with
  | zero => exact absurd HA.out (by simp [spec_l02Boats.j0])
  | succ kj5 =>
   have H := HA.out
   clear HA
   simp only [spec_l02Boats.j0] at H
   by_cases c11 : x19_5 = true
   ·subst c11
    rw [if_pos rfl] at H
    simp only [Option.some.injEq, Prod.mk.injEq] at H
    obtain ⟨rfl, rfl, rfl, rfl⟩ := H
    go_wp2
    go_ret
    exact ⟨by first | rfl | (simp [errW_none, errW_some] <;> rfl) | (simp [*, errW_none, errW_some] <;> rfl), si28 HI0, be HB, ke HK⟩
   ·replace c11 := Bool.eq_false_iff.mpr c11
    subst c11
    have H1 : (if t202 = 0 then (if a3 = true then (some (0, t203, t204, t205)) else (some (2, t203, t204, t205))) else (some (t202, t203, t204, t205))) = some (r1, r2, r3, r4) := by rw [if_neg (show ¬ (false = true) by decide)] at H; exact H
    clear H
    have H := H1
    clear H1
    by_cases c12 : t202 = 0
    ·rw [if_pos c12] at H
     have c12b0 : (t202 == 0) = true := beq_iff_eq.mpr c12
     have c12b1 : (t202 != 0) = false := bne_eq_false_iff_eq.mpr c12
     clear c12
     by_cases c13 : a3 = true
     ·subst c13
      rw [if_pos rfl] at H
      simp only [Option.some.injEq, Prod.mk.injEq] at H
      obtain ⟨rfl, rfl, rfl, rfl⟩ := H
      go_wp2
      go_ret
      exact ⟨by first | rfl | (simp [errW_none, errW_some] <;> rfl) | (simp [*, errW_none, errW_some] <;> rfl), si28 HI0, be HB, ke HK⟩
     ·replace c13 := Bool.eq_false_iff.mpr c13
      subst c13
      have H1 : (some (2, t203, t204, t205)) = some (r1, r2, r3, r4) := by rw [if_neg (show ¬ (false = true) by decide)] at H; exact H
      clear H
      have H := H1
      clear H1
      simp only [Option.some.injEq, Prod.mk.injEq] at H
      obtain ⟨rfl, rfl, rfl, rfl⟩ := H
      go_wp2
      go_ret
      exact ⟨by first | rfl | (simp [errW_none, errW_some] <;> rfl) | (simp [*, errW_none, errW_some] <;> rfl), si28 HI0, be HB, ke HK⟩
    ·rw [if_neg c12] at H
     have c12b0 : (t202 == 0) = false := beq_eq_false_iff_ne.mpr c12
     have c12b1 : (t202 != 0) = true := bne_iff_ne.mpr c12
     simp only [Option.some.injEq, Prod.mk.injEq] at H
     obtain ⟨rfl, rfl, rfl, rfl⟩ := H
     go_wp2
     go_ret
     exact ⟨by first | rfl | (simp [errW_none, errW_some] <;> rfl) | (simp [*, errW_none, errW_some] <;> rfl), si28 HI0, be HB, ke HK⟩

/-! ### spec_l00Max: function 156 -/
def spec_l00Max.f (a0 : Int) (a1 : Int) : Option (Int) := if a0 > a1 then (some a0) else (some a1)
set_option maxHeartbeats 8000000 in
set_option maxRecDepth 100000 in
theorem spec_l00Max.calls (a0 : Int) (a1 : Int) (r : Int) (w : World) (h : spec_l00Max.f a0 a1 = some r) :
  Calls Try.prog 156 #[.int .i64 a0, .int .i64 a1] w fun e w' => e = .returned (.int .i64 r) ∧ Drawn0 w w' := by
 have H : (if a0 > a1 then (some a0) else (some a1)) = some r := h
 clear h
 by_cases c3 : a0 > a1
 ·rw [if_pos c3] at H
  have c3b0 : decide (a1 < a0) = true := decide_eq_true c3
  clear c3
  obtain rfl := Option.some.inj H
  go_enter Try.func156, Try.ntmps156
  go_wp2
  go_ret
  exact ⟨by first | rfl | (simp; done) | (simp [*]; done), by repeat (first | exact Drawn0.refl _ | apply Drawn0.step)⟩
 ·rw [if_neg c3] at H
  have c3b0 : decide (a1 < a0) = false := decide_eq_false c3
  clear c3
  obtain rfl := Option.some.inj H
  go_enter Try.func156, Try.ntmps156
  go_wp2
  go_ret
  exact ⟨by first | rfl | (simp; done) | (simp [*]; done), by repeat (first | exact Drawn0.refl _ | apply Drawn0.step)⟩

/-! ### spec_l02First: function 143 -/
def spec_l02First.f (l0 : List (S103)) : Option (Int) := if 0 < (l0.length : Int) then (some (wrap64 ((rd_T103 l0 0).f0))) else (none)
set_option maxHeartbeats 8000000 in
set_option maxRecDepth 100000 in
theorem spec_l02First.calls (A0 : Option Addr) (c0 : Nat) (l0 : List (S103)) (r : Int) (w : World) (hr0 : Kd.C k103 w A0 l0.length l0) (hc0 : l0.length ≤ c0) (h : spec_l02First.f l0 = some r) :
  Calls Try.prog 143 #[.slice A0 l0.length c0] w fun e w' => e = .returned (.int .i64 r) ∧ Drawn0 w w' := by
 have HR0 := am hr0
 have HC0 := am hc0
 clear hr0 hc0
 have H : (if 0 < (l0.length : Int) then (some (wrap64 ((rd_T103 l0 0).f0))) else (none)) = some r := h
 clear h
 by_cases c2 : 0 < (l0.length : Int)
 ·rw [if_pos c2] at H
  have c2b0 : decide (0 < (l0.length : Int)) = true := decide_eq_true c2
  have c2b1 : decide (0 < l0.length) = true := decide_eq_true (by omega)
  clear c2
  obtain rfl := Option.some.inj H
  have p207 : 0 ≤ (0 : Int) := (by omega)
  have q207 : 0 < (l0.length : Int) := of_decide_eq_true (by first | (with_reducible assumption) | assumption)
  obtain ⟨ad207, e207, hx207_0, hx207_1⟩ := at_T103 HR0.out 0 p207 q207
  cases e207
  have qi207 : (0 < l0.length) = True := eq_true (by omega)
  (try rw [show ((0 : Int)).toNat = 0 from rfl] at hx207_0)
  (try rw [show 0 * 2 = 0 from rfl] at hx207_0)
  (try rw [Addr.add_zero'] at hx207_0)
  (try rw [show ((0 : Int)).toNat = 0 from rfl] at hx207_1)
  (try rw [show 0 * 2 = 0 from rfl] at hx207_1)
  (try rw [Addr.add_zero'] at hx207_1)
  replace p207 := eq_true p207
  replace q207 := eq_true q207
  go_enter Try.func143, Try.ntmps143
  go_wp2
  go_ret
  exact ⟨by first | rfl | (simp; done) | (simp [*]; done), by repeat (first | exact Drawn0.refl _ | apply Drawn0.step)⟩
 ·rw [if_neg c2] at H
  exact absurd H (by simp)

/-! ### spec_l02Last: function 144 -/
def spec_l02Last.f (l0 : List (S103)) : Option (Int) := if 0 ≤ (wrap64 ((l0.length : Int) - 1)) then (if (wrap64 ((l0.length : Int) - 1)) < (l0.length : Int) then (some (wrap64 ((rd_T103 l0 (wrap64 ((l0.length : Int) - 1))).f0))) else (none)) else (none)
set_option maxHeartbeats 8000000 in
set_option maxRecDepth 100000 in
theorem spec_l02Last.calls (A0 : Option Addr) (c0 : Nat) (l0 : List (S103)) (r : Int) (w : World) (hr0 : Kd.C k103 w A0 l0.length l0) (hc0 : l0.length ≤ c0) (h : spec_l02Last.f l0 = some r) :
  Calls Try.prog 144 #[.slice A0 l0.length c0] w fun e w' => e = .returned (.int .i64 r) ∧ Drawn0 w w' := by
 have HR0 := am hr0
 have HC0 := am hc0
 clear hr0 hc0
 have H : (if 0 ≤ (wrap64 ((l0.length : Int) - 1)) then (if (wrap64 ((l0.length : Int) - 1)) < (l0.length : Int) then (some (wrap64 ((rd_T103 l0 (wrap64 ((l0.length : Int) - 1))).f0))) else (none)) else (none)) = some r := h
 clear h
 obtain ⟨ji2, hji2⟩ : ∃ j_ : Int, (wrap64 ((l0.length : Int) - 1)) = j_ := ⟨_, rfl⟩
 replace H : (if 0 ≤ (ji2) then (if (ji2) < (l0.length : Int) then (some (wrap64 ((rd_T103 l0 (ji2)).f0))) else (none)) else (none)) = some r := by first | (rw [hji2] at H; exact H) | (simp only [hji2] at H ⊢; exact H)
 have hji2w : (IntKind.i64.wrap ((l0.length : Int) - 1)) = ji2 := (i64_w _).trans hji2
 by_cases c3 : 0 ≤ (ji2)
 ·rw [if_pos c3] at H
  have c3b0 : decide (0 ≤ (ji2)) = true := decide_eq_true c3
  have c3b1 : 0 ≤ (ji2) := c3
  clear c3
  by_cases c4 : (ji2) < (l0.length : Int)
  ·rw [if_pos c4] at H
   have c4b0 : decide ((ji2) < (l0.length : Int)) = true := decide_eq_true c4
   clear c4
   obtain rfl := Option.some.inj H
   have p208 : 0 ≤ ((ji2) : Int) := of_decide_eq_true (by first | (with_reducible assumption) | assumption)
   have q208 : (ji2) < (l0.length : Int) := of_decide_eq_true (by first | (with_reducible assumption) | assumption)
   obtain ⟨ad208, e208, hx208_0, hx208_1⟩ := at_T103 HR0.out (ji2) p208 q208
   cases e208
   replace p208 := eq_true p208
   replace q208 := eq_true q208
   go_enter Try.func144, Try.ntmps144
   go_wp2
   go_ret
   exact ⟨by first | rfl | (simp; done) | (simp only [← hji2] <;> (first | rfl | simp)) | (simp [*]; done), by repeat (first | exact Drawn0.refl _ | apply Drawn0.step)⟩
  ·rw [if_neg c4] at H
   exact absurd H (by simp)
 ·rw [if_neg c3] at H
  exact absurd H (by simp)

end Go.Proofs.Ytcollbifdfhfoaa.PFnExactAllAfloat
