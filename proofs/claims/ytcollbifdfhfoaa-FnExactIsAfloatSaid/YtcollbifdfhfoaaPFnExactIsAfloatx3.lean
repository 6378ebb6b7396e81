-- Written by a program out of this seat's translation (functions, and that the code comes to them).
import Derived.Test.YtcollbifdfhfoaaPFnExactIsAfloatx0
import Derived.Test.YtcollbifdfhfoaaPFnExactIsAfloatx1
import Derived.Test.YtcollbifdfhfoaaPFnExactIsAfloatx2
namespace Go.Proofs.Ytcollbifdfhfoaa.PFnExactIsAfloat
open Go.RowKit Go.Proofs.YtcollbifdfhfoaaW.PrintWords Go.Proofs.YtcollbifdfhfoaaW.PrintLast Go.Proofs.YtcollbifdfhfoaaW.PrintMore
attribute [local go_sem] max2_int min2_int max_two min_two max_three min_three max_four min_four   -- for this text's walks alone
open Go.Proofs.Ytcollbifdfhfoaa.Bay Go.Proofs.Ytcollbifdfhfoaa.Short
attribute [local go_sem ↓] lv26_eq lv28_eq
attribute [local go_sem] lvv_set lvv_drewN lvv_drew lv26_run BayAt26_set BayAt26_drewN BayAt26_drew lv28_run BayAt28_set BayAt28_drewN BayAt28_drew
set_option linter.unusedVariables false
set_option linter.unusedSimpArgs false

/-! ### spec_l02Tides: function 173 -/
mutual
def spec_l02Tides.l0 : Nat → List (S103) → Int → Option (Bool)
 | 0, _, _ => none
 | k + 1, x0, x3 => if x3 < (x0.length : Int) then (if 0 ≤ x3 then ((spec_l00In.f (wrap64 ((rd_T103 x0 x3).f0)) 0 3000).bind fun t160 => (if t160 = true then ((spec_l00In.f (wrap64 ((rd_T103 x0 x3).f1)) 0 100).bind fun t161 => (spec_l02Tides.j1 k x0 x3 (!t161) ((rd_T103 x0 x3).f0) ((rd_T103 x0 x3).f1))) else (spec_l02Tides.j1 k x0 x3 true ((rd_T103 x0 x3).f0) ((rd_T103 x0 x3).f1)))) else (none)) else ((spec_l00In.f (x0.length : Int) 2 8).bind fun t157 => (some t157))
def spec_l02Tides.j1 : Nat → List (S103) → Int → Bool → Int → Int → Option (Bool)
 | 0, _, _, _, _, _ => none
 | k + 1, x0, x3, x26, x160000, x160001 => if x26 = true then (some false) else (if x3 > 0 then (if 0 ≤ (wrap64 (x3 - 1)) then (if (wrap64 (x3 - 1)) < (x0.length : Int) then (if (wrap64 (x160000)) < (wrap64 ((wrap64 ((rd_T103 x0 (wrap64 (x3 - 1))).f0)) + 6)) then (spec_l02Tides.j2 k x0 x3 true x160000 x160001) else (spec_l02Tides.j2 k x0 x3 (x160001 == ((rd_T103 x0 (wrap64 (x3 - 1))).f1)) x160000 x160001)) else (none)) else (none)) else (spec_l02Tides.j2 k x0 x3 false x160000 x160001))
def spec_l02Tides.j2 : Nat → List (S103) → Int → Bool → Int → Int → Option (Bool)
 | 0, _, _, _, _, _ => none
 | k + 1, x0, x3, x53, x160000, x160001 => if x53 = true then (some false) else (if x3 > 1 then (if 0 ≤ (wrap64 (x3 - 1)) then (if (wrap64 (x3 - 1)) < (x0.length : Int) then (if 0 ≤ (wrap64 (x3 - 2)) then (if (wrap64 (x3 - 2)) < (x0.length : Int) then (if ((decide (x160001 > ((rd_T103 x0 (wrap64 (x3 - 1))).f1))) == (decide (((rd_T103 x0 (wrap64 (x3 - 1))).f1) > ((rd_T103 x0 (wrap64 (x3 - 2))).f1)))) = true then (some false) else (spec_l02Tides.l0 k x0 (wrap64 (x3 + 1)))) else (none)) else (none)) else (none)) else (none)) else (spec_l02Tides.l0 k x0 (wrap64 (x3 + 1))))
end
def spec_l02Tides.f (k : Nat) (l0 : List (S103)) : Option (Bool) := spec_l02Tides.l0 k l0 0
set_option maxHeartbeats 8000000 in
set_option maxRecDepth 100000 in
theorem spec_l02Tides.calls (k : Nat) (A0 : Option Addr) (c0 : Nat) (l0 : List (S103)) (r : Bool) (w : World) (hr0 : Kd.C k103 w A0 l0.length l0) (hc0 : l0.length ≤ c0) (h : spec_l02Tides.f k l0 = some r) :
  Calls Try.prog 173 #[.slice A0 l0.length c0] w fun e w' => e = .returned (.bool r) ∧ Below w.heap.size w w' := by
 have hu103 := Try.underlying103
 have HR0 := am hr0
 have HC0 := am hc0
 clear hr0 hc0
 have HB := am (Below.refl w.heap.size w)
 have H : (spec_l02Tides.l0 k l0 0) = some r := h
 clear h
 have H' := am H
 clear H
 go_enter Try.func173, Try.ntmps173
 go_wp2
 repeat (go_quiet (fail); try go_wp2)
 go_loopg [3] k (fun kq v3 w' => ∃ (x3_1 : Int), v3 = .int .i64 x3_1 ∧ Aside0 (spec_l02Tides.l0 kq l0 x3_1 = some r) ∧ Aside0 (kq ≤ k) ∧ Aside0 (Below w.heap.size w w'))
 case atStart => exact ⟨(0), vv, H', ⟨Nat.le_refl _⟩, ⟨be HB⟩⟩
 case round =>
  clear H'
  try clear c1
  obtain ⟨x3_1, rfl, HA, HK1, HB⟩ := hrel
  cases gk with
  | zero => exact absurd HA.out (by simp [spec_l02Tides.l0])
  | succ k1 =>
   have H := HA.out
   clear HA
   simp only [spec_l02Tides.l0] at H
   by_cases c2 : x3_1 < (l0.length : Int)
   ·rw [if_pos c2] at H
    have c2b0 : decide (x3_1 < (l0.length : Int)) = true := decide_eq_true c2
    clear c2
    by_cases c3 : 0 ≤ x3_1
    ·rw [if_pos c3] at H
     have c3b0 : decide (0 ≤ x3_1) = true := decide_eq_true c3
     have c3b1 : 0 ≤ x3_1 := c3
     clear c3
     have HC4 := am H
     clear H
     have p158 : 0 ≤ (x3_1 : Int) := of_decide_eq_true (by first | (with_reducible assumption) | assumption)
     have q158 : x3_1 < (l0.length : Int) := of_decide_eq_true (by first | (with_reducible assumption) | assumption)
     obtain ⟨ad158, e158, hx158_0, hx158_1⟩ := at_T103 HR0.out x3_1 p158 q158
     cases e158
     replace hx158_0 := (HB.out.cell (World.block_lt_of_cell? w _ hx158_0)).trans hx158_0
     replace hx158_1 := (HB.out.cell (World.block_lt_of_cell? w _ hx158_1)).trans hx158_1
     replace p158 := eq_true p158
     replace q158 := eq_true q158
     go_upto_region 5 with (first | ((with_reducible refine gate_dst (N := 4) rfl ?_); refine bxe (N := 4) (cs := #[.int .i16 0, .int .i8 0]) (t := 103) ?_; intro gb159 hg w5 hbox hb; have BK159 := am (hbox); have GW159 := am (gN hg (below_size (be HB))); have GE159 := am (gN hg (below_size (be HB))); replace HB := am (below_step (be HB) hb); clear hb hbox hg; obtain ⟨hcz6_0, hcz6_1, hfz6_0, hfz6_1⟩ := bx2 BK159))
     repeat (go_quiet (first | ((with_reducible refine gate_dst (N := 4) rfl ?_); refine bxe (N := 4) (cs := #[.int .i16 0, .int .i8 0]) (t := 103) ?_; intro gb159 hg w5 hbox hb; have BK159 := am (hbox); have GW159 := am (gN hg (below_size (be HB))); have GE159 := am (gN hg (below_size (be HB))); replace HB := am (below_step (be HB) hb); clear hb hbox hg; obtain ⟨hcz6_0, hcz6_1, hfz6_0, hfz6_1⟩ := bx2 BK159)); go_upto_region 5 with (first | ((with_reducible refine gate_dst (N := 4) rfl ?_); refine bxe (N := 4) (cs := #[.int .i16 0, .int .i8 0]) (t := 103) ?_; intro gb159 hg w5 hbox hb; have BK159 := am (hbox); have GW159 := am (gN hg (below_size (be HB))); have GE159 := am (gN hg (below_size (be HB))); replace HB := am (below_step (be HB) hb); clear hb hbox hg; obtain ⟨hcz6_0, hcz6_1, hfz6_0, hfz6_1⟩ := bx2 BK159)))
     (try simp only [Act.put, List.setIfInBounds_toArray, List.set_cons_zero, List.set_cons_succ])
     go_cut [26] (fun v26 wc => ∃ (kq : Nat) (x26_3 : Bool), v26 = .bool x26_3 ∧ Aside0 (spec_l02Tides.j1 kq l0 x3_1 x26_3 ((rd_T103 l0 x3_1).f0) ((rd_T103 l0 x3_1).f1) = some r) ∧ Aside0 (kq ≤ k1) ∧ Aside0 (wc.heap[gb159]? = some (.cells #[.int .i16 ((rd_T103 l0 x3_1).f0), .int .i8 ((rd_T103 l0 x3_1).f1)] 103 (0, 0))) ∧ Aside0 (Below w.heap.size w wc))
     case first =>
      have H := HC4.out
      clear HC4
      replace H := Option.bind_eq_some_iff.mp H
      obtain ⟨t160, A70, H⟩ := H
      try dsimp only at H
      have A7 := am A70
      clear A70
      by_cases c8 : t160 = true
      ·subst c8
       rw [if_pos rfl] at H
       replace H := Option.bind_eq_some_iff.mp H
       obtain ⟨t161, A90, H⟩ := H
       try dsimp only at H
       have A9 := am A90
       clear A90
       have H' := am H
       clear H
       obtain ⟨hcz10_0, hcz10_1, hfz10_0, hfz10_1⟩ := bx2 BK159
       go_wp2_with (first | (go_at_call 164; (with_reducible refine (spec_l00In.calls (wrap64 ((rd_T103 l0 x3_1).f0)) 0 3000 true _ A7.out).mono ?_); rintro e w' ⟨rfl, ⟨nd, rfl⟩⟩; (try first | exact ⟨rfl, _, World.drewN_drewN _ _ _⟩ | exact ⟨rfl, _, Eq.trans (World.drewN_drewN _ _ _) (congrArg (World.drewN _) (Nat.add_assoc _ _ _))⟩)) | (go_at_call 164; (with_reducible refine (spec_l00In.calls (wrap64 ((rd_T103 l0 x3_1).f1)) 0 100 t161 _ A9.out).mono ?_); rintro e w' ⟨rfl, ⟨nd, rfl⟩⟩; (try first | exact ⟨rfl, _, World.drewN_drewN _ _ _⟩ | exact ⟨rfl, _, Eq.trans (World.drewN_drewN _ _ _) (congrArg (World.drewN _) (Nat.add_assoc _ _ _))⟩)))
       repeat (go_quiet (first | (go_at_call 164; (with_reducible refine (spec_l00In.calls (wrap64 ((rd_T103 l0 x3_1).f0)) 0 3000 true _ A7.out).mono ?_); rintro e w' ⟨rfl, ⟨nd, rfl⟩⟩; (try first | exact ⟨rfl, _, World.drewN_drewN _ _ _⟩ | exact ⟨rfl, _, Eq.trans (World.drewN_drewN _ _ _) (congrArg (World.drewN _) (Nat.add_assoc _ _ _))⟩)) | (go_at_call 164; (with_reducible refine (spec_l00In.calls (wrap64 ((rd_T103 l0 x3_1).f1)) 0 100 t161 _ A9.out).mono ?_); rintro e w' ⟨rfl, ⟨nd, rfl⟩⟩; (try first | exact ⟨rfl, _, World.drewN_drewN _ _ _⟩ | exact ⟨rfl, _, Eq.trans (World.drewN_drewN _ _ _) (congrArg (World.drewN _) (Nat.add_assoc _ _ _))⟩))); try go_wp2_with (first | (go_at_call 164; (with_reducible refine (spec_l00In.calls (wrap64 ((rd_T103 l0 x3_1).f0)) 0 3000 true _ A7.out).mono ?_); rintro e w' ⟨rfl, ⟨nd, rfl⟩⟩; (try first | exact ⟨rfl, _, World.drewN_drewN _ _ _⟩ | exact ⟨rfl, _, Eq.trans (World.drewN_drewN _ _ _) (congrArg (World.drewN _) (Nat.add_assoc _ _ _))⟩)) | (go_at_call 164; (with_reducible refine (spec_l00In.calls (wrap64 ((rd_T103 l0 x3_1).f1)) 0 100 t161 _ A9.out).mono ?_); rintro e w' ⟨rfl, ⟨nd, rfl⟩⟩; (try first | exact ⟨rfl, _, World.drewN_drewN _ _ _⟩ | exact ⟨rfl, _, Eq.trans (World.drewN_drewN _ _ _) (congrArg (World.drewN _) (Nat.add_assoc _ _ _))⟩))))
       go_meet
       case rel => exact ⟨_, (!t161), vv, H', ⟨by have := HK1.out; first | omega | exact Nat.le_refl _⟩, ⟨by (with_reducible repeat (first | refine blk_drewN ?_ _ | refine blk_drew ?_ | refine blk_alloc ?_ _)); refine blk_put (cs := #[.int .i16 ((rd_T103 l0 x3_1).f0), .int .i8 0]) ?_ 1 _ rfl; (with_reducible repeat (first | refine blk_drewN ?_ _ | refine blk_drew ?_ | refine blk_alloc ?_ _)); refine blk_put (cs := #[.int .i16 0, .int .i8 0]) ?_ 0 _ rfl; exact kb BK159⟩, ⟨be HB⟩⟩
      ·replace c8 := Bool.eq_false_iff.mpr c8
       subst c8
       have H1 : (spec_l02Tides.j1 k1 l0 x3_1 true ((rd_T103 l0 x3_1).f0) ((rd_T103 l0 x3_1).f1)) = some r := by rw [if_neg (show ¬ (false = true) by decide)] at H; exact H
       clear H
       have H := H1
       clear H1
       have H' := am H
       clear H
       obtain ⟨hcz11_0, hcz11_1, hfz11_0, hfz11_1⟩ := bx2 BK159
       go_wp2_with (first | (go_at_call 164; (with_reducible refine (spec_l00In.calls (wrap64 ((rd_T103 l0 x3_1).f0)) 0 3000 false _ A7.out).mono ?_); rintro e w' ⟨rfl, ⟨nd, rfl⟩⟩; (try first | exact ⟨rfl, _, World.drewN_drewN _ _ _⟩ | exact ⟨rfl, _, Eq.trans (World.drewN_drewN _ _ _) (congrArg (World.drewN _) (Nat.add_assoc _ _ _))⟩)))
       repeat (go_quiet (first | (go_at_call 164; (with_reducible refine (spec_l00In.calls (wrap64 ((rd_T103 l0 x3_1).f0)) 0 3000 false _ A7.out).mono ?_); rintro e w' ⟨rfl, ⟨nd, rfl⟩⟩; (try first | exact ⟨rfl, _, World.drewN_drewN _ _ _⟩ | exact ⟨rfl, _, Eq.trans (World.drewN_drewN _ _ _) (congrArg (World.drewN _) (Nat.add_assoc _ _ _))⟩))); try go_wp2_with (first | (go_at_call 164; (with_reducible refine (spec_l00In.calls (wrap64 ((rd_T103 l0 x3_1).f0)) 0 3000 false _ A7.out).mono ?_); rintro e w' ⟨rfl, ⟨nd, rfl⟩⟩; (try first | exact ⟨rfl, _, World.drewN_drewN _ _ _⟩ | exact ⟨rfl, _, Eq.trans (World.drewN_drewN _ _ _) (congrArg (World.drewN _) (Nat.add_assoc _ _ _))⟩))))
       go_meet
       case rel => exact ⟨_, (true), vv, H', ⟨by have := HK1.out; first | omega | exact Nat.le_refl _⟩, ⟨by (with_reducible repeat (first | refine blk_drewN ?_ _ | refine blk_drew ?_ | refine blk_alloc ?_ _)); refine blk_put (cs := #[.int .i16 ((rd_T103 l0 x3_1).f0), .int .i8 0]) ?_ 1 _ rfl; (with_reducible repeat (first | refine blk_drewN ?_ _ | refine blk_drew ?_ | refine blk_alloc ?_ _)); refine blk_put (cs := #[.int .i16 0, .int .i8 0]) ?_ 0 _ rfl; exact kb BK159⟩, ⟨be HB⟩⟩
     case rest =>
      clear HC4
      try clear c1
      try clear p1
      try clear q1
      try clear hx1
      try clear c2
      try clear c2b0
      try clear p2
      try clear c3
      try clear c3b0
      try clear c3b1
      try clear p6
      try clear c8
      try clear hcz10_0
      try clear hcz10_1
      try clear hcz11_0
      try clear hcz11_1
      try clear hcz6_0
      try clear hcz6_1
      try clear hfz10_0
      try clear hfz10_1
      try clear hfz11_0
      try clear hfz11_1
      try clear hfz6_0
      try clear hfz6_1
      try clear hx158_0
      try clear hx158_1
      try clear p158
      try clear q158
      obtain ⟨kq, x26_3, rfl, HA, HJ3, BK159, HB⟩ := hcut
      cases kq with
      | zero => exact absurd HA.out (by simp [spec_l02Tides.j1])
      | succ kj3 =>
       have H := HA.out
       clear HA
       simp only [spec_l02Tides.j1] at H
       by_cases c12 : x26_3 = true
       ·subst c12
        rw [if_pos rfl] at H
        obtain rfl := Option.some.inj H
        go_wp2
        repeat (go_quiet (fail); try go_wp2)
        go_ret
        exact ⟨by first | rfl | (simp [errW_none, errW_some] <;> rfl) | (simp [*, errW_none, errW_some] <;> rfl), be HB⟩
       ·replace c12 := Bool.eq_false_iff.mpr c12
        subst c12
        have H1 : (if x3_1 > 0 then (if 0 ≤ (wrap64 (x3_1 - 1)) then (if (wrap64 (x3_1 - 1)) < (l0.length : Int) then (if (wrap64 (((rd_T103 l0 x3_1).f0))) < (wrap64 ((wrap64 ((rd_T103 l0 (wrap64 (x3_1 - 1))).f0)) + 6)) then (spec_l02Tides.j2 kj3 l0 x3_1 true ((rd_T103 l0 x3_1).f0) ((rd_T103 l0 x3_1).f1)) else (spec_l02Tides.j2 kj3 l0 x3_1 (((rd_T103 l0 x3_1).f1) == ((rd_T103 l0 (wrap64 (x3_1 - 1))).f1)) ((rd_T103 l0 x3_1).f0) ((rd_T103 l0 x3_1).f1))) else (none)) else (none)) else (spec_l02Tides.j2 kj3 l0 x3_1 false ((rd_T103 l0 x3_1).f0) ((rd_T103 l0 x3_1).f1))) = some r := by rw [if_neg (show ¬ (false = true) by decide)] at H; exact H
        clear H
        have H := H1
        clear H1
        have HC13 := am H
        clear H
        go_upto_region 7 with (fail)
        repeat (go_quiet (fail); go_upto_region 7 with (fail))
        go_cut [53] (fun v53 wc => ∃ (kq : Nat) (x53_12 : Bool), v53 = .bool x53_12 ∧ Aside0 (spec_l02Tides.j2 kq l0 x3_1 x53_12 ((rd_T103 l0 x3_1).f0) ((rd_T103 l0 x3_1).f1) = some r) ∧ Aside0 (kq ≤ kj3) ∧ Aside0 (wc.heap[gb159]? = some (.cells #[.int .i16 ((rd_T103 l0 x3_1).f0), .int .i8 ((rd_T103 l0 x3_1).f1)] 103 (0, 0))) ∧ Aside0 (Below w.heap.size w wc))
        case first =>
         have H := HC13.out
         clear HC13
         by_cases c14 : x3_1 > 0
         ·rw [if_pos c14] at H
          have c14b0 : decide (0 < x3_1) = true := decide_eq_true c14
          clear c14
          (first | rw [c14b0] | (simp only [i64_w, i32_w]; rw [c14b0]) | skip)
          obtain ⟨ji15, hji15⟩ : ∃ j_ : Int, (wrap64 (x3_1 - 1)) = j_ := ⟨_, rfl⟩
          replace H : (if 0 ≤ (ji15) then (if (ji15) < (l0.length : Int) then (if (wrap64 (((rd_T103 l0 x3_1).f0))) < (wrap64 ((wrap64 ((rd_T103 l0 (ji15)).f0)) + 6)) then (spec_l02Tides.j2 kj3 l0 x3_1 true ((rd_T103 l0 x3_1).f0) ((rd_T103 l0 x3_1).f1)) else (spec_l02Tides.j2 kj3 l0 x3_1 (((rd_T103 l0 x3_1).f1) == ((rd_T103 l0 (ji15)).f1)) ((rd_T103 l0 x3_1).f0) ((rd_T103 l0 x3_1).f1))) else (none)) else (none)) = some r := by first | (rw [hji15] at H; exact H) | (simp only [hji15] at H ⊢; exact H)
          have hji15w : (IntKind.i64.wrap (x3_1 - 1)) = ji15 := (i64_w _).trans hji15
          by_cases c16 : 0 ≤ (ji15)
          ·rw [if_pos c16] at H
           have c16b0 : decide (0 ≤ (ji15)) = true := decide_eq_true c16
           have c16b1 : 0 ≤ (ji15) := c16
           clear c16
           by_cases c17 : (ji15) < (l0.length : Int)
           ·rw [if_pos c17] at H
            have c17b0 : decide ((ji15) < (l0.length : Int)) = true := decide_eq_true c17
            clear c17
            by_cases c18 : (wrap64 (((rd_T103 l0 x3_1).f0))) < (wrap64 ((wrap64 ((rd_T103 l0 (ji15)).f0)) + 6))
            ·rw [if_pos c18] at H
             have c18b0 : decide ((wrap64 (((rd_T103 l0 x3_1).f0))) < (wrap64 ((wrap64 ((rd_T103 l0 (ji15)).f0)) + 6))) = true := decide_eq_true c18
             clear c18
             have H' := am H
             clear H
             obtain ⟨hcz19_0, hcz19_1, hfz19_0, hfz19_1⟩ := bx2 BK159
             have p162 : 0 ≤ ((ji15) : Int) := of_decide_eq_true (by first | (with_reducible assumption) | assumption)
             have q162 : (ji15) < (l0.length : Int) := of_decide_eq_true (by first | (with_reducible assumption) | assumption)
             obtain ⟨ad162, e162, hx162_0, hx162_1⟩ := at_T103 HR0.out (ji15) p162 q162
             obtain rfl : ad158 = ad162 := (by injection e162)
             replace hx162_0 := (HB.out.cell (World.block_lt_of_cell? w _ hx162_0)).trans hx162_0
             replace hx162_1 := (HB.out.cell (World.block_lt_of_cell? w _ hx162_1)).trans hx162_1
             replace p162 := eq_true p162
             replace q162 := eq_true q162
             go_wp2
             repeat (go_quiet (fail); try go_wp2)
             go_meet
             case rel => exact ⟨_, (true), vv, H', ⟨by have := HK1.out; have := HJ3.out; first | omega | exact Nat.le_refl _⟩, ⟨kb BK159⟩, ⟨be HB⟩⟩
            ·rw [if_neg c18] at H
             have c18b0 : decide ((wrap64 (((rd_T103 l0 x3_1).f0))) < (wrap64 ((wrap64 ((rd_T103 l0 (ji15)).f0)) + 6))) = false := decide_eq_false c18
             clear c18
             have H' := am H
             clear H
             obtain ⟨hcz20_0, hcz20_1, hfz20_0, hfz20_1⟩ := bx2 BK159
             have p162 : 0 ≤ ((ji15) : Int) := of_decide_eq_true (by first | (with_reducible assumption) | assumption)
             have q162 : (ji15) < (l0.length : Int) := of_decide_eq_true (by first | (with_reducible assumption) | assumption)
             obtain ⟨ad162, e162, hx162_0, hx162_1⟩ := at_T103 HR0.out (ji15) p162 q162
             obtain rfl : ad158 = ad162 := (by injection e162)
             replace hx162_0 := (HB.out.cell (World.block_lt_of_cell? w _ hx162_0)).trans hx162_0
             replace hx162_1 := (HB.out.cell (World.block_lt_of_cell? w _ hx162_1)).trans hx162_1
             replace p162 := eq_true p162
             replace q162 := eq_true q162
             have p163 : 0 ≤ ((ji15) : Int) := of_decide_eq_true (by first | (with_reducible assumption) | assumption)
             have q163 : (ji15) < (l0.length : Int) := of_decide_eq_true (by first | (with_reducible assumption) | assumption)
             obtain ⟨ad163, e163, hx163_0, hx163_1⟩ := at_T103 HR0.out (ji15) p163 q163
             obtain rfl : ad158 = ad163 := (by injection e163)
             replace hx163_0 := (HB.out.cell (World.block_lt_of_cell? w _ hx163_0)).trans hx163_0
             replace hx163_1 := (HB.out.cell (World.block_lt_of_cell? w _ hx163_1)).trans hx163_1
             replace p163 := eq_true p163
             replace q163 := eq_true q163
             go_wp2
             repeat (go_quiet (fail); try go_wp2)
             go_meet
             case rel => exact ⟨_, ((((rd_T103 l0 x3_1).f1) == ((rd_T103 l0 (ji15)).f1))), (by first | rfl | (simp; done) | (simp only [← hji15] <;> (first | rfl | simp)) | (simp [*]; done)), H', ⟨by have := HK1.out; have := HJ3.out; first | omega | exact Nat.le_refl _⟩, ⟨kb BK159⟩, ⟨be HB⟩⟩
           ·rw [if_neg c17] at H
            exact absurd H (by simp)
          ·rw [if_neg c16] at H
           exact absurd H (by simp)
         ·rw [if_neg c14] at H
          have c14b0 : decide (0 < x3_1) = false := decide_eq_false c14
          clear c14
          (first | rw [c14b0] | (simp only [i64_w, i32_w]; rw [c14b0]) | skip)
          have H' := am H
          clear H
          go_wp2
          repeat (go_quiet (fail); try go_wp2)
          go_meet
          case rel => exact ⟨_, (false), vv, H', ⟨by have := HK1.out; have := HJ3.out; first | omega | exact Nat.le_refl _⟩, ⟨kb BK159⟩, ⟨be HB⟩⟩
        case rest =>
         clear HC13
         try clear c1
         try clear p1
         try clear q1
         try clear hx1
         try clear c2
         try clear c2b0
         try clear p2
         try clear c3
         try clear c3b0
         try clear c3b1
         try clear p6
         try clear c8
         try clear c12
         try clear c14
         try clear c14b0
         try clear p15
         try clear q15
         try clear hx15
         try clear c16
         try clear c16b0
         try clear c16b1
         try clear p16
         try clear q16
         try clear hx16
         try clear c17
         try clear c17b0
         try clear c18
         try clear c18b0
         try clear hcz10_0
         try clear hcz10_1
         try clear hcz11_0
         try clear hcz11_1
         try clear hcz19_0
         try clear hcz19_1
         try clear hcz20_0
         try clear hcz20_1
         try clear hcz6_0
         try clear hcz6_1
         try clear hfz10_0
         try clear hfz10_1
         try clear hfz11_0
         try clear hfz11_1
         try clear hfz19_0
         try clear hfz19_1
         try clear hfz20_0
         try clear hfz20_1
         try clear hfz6_0
         try clear hfz6_1
         try clear hx158_0
         try clear hx158_1
         try clear hx162_0
         try clear hx162_1
         try clear hx163_0
         try clear hx163_1
         try clear p1
         try clear p158
         try clear p162
         try clear p163
         try clear p2
         try clear p6
         try clear q1
         try clear q158
         try clear q162
         try clear q163
         obtain ⟨kq, x53_12, rfl, HA, HJ12, BK159, HB⟩ := hcut
         cases kq with
         | zero => exact absurd HA.out (by simp [spec_l02Tides.j2])
         | succ kj12 =>
          have H := HA.out
          clear HA
          simp only [spec_l02Tides.j2] at H
          by_cases c21 : x53_12 = true
          ·subst c21
           rw [if_pos rfl] at H
           obtain rfl := Option.some.inj H
           go_wp2
           repeat (go_quiet (fail); try go_wp2)
           go_ret
           exact ⟨by first | rfl | (simp [errW_none, errW_some] <;> rfl) | (simp [*, errW_none, errW_some] <;> rfl), be HB⟩
          ·replace c21 := Bool.eq_false_iff.mpr c21
           subst c21
           have H1 : (if x3_1 > 1 then (if 0 ≤ (wrap64 (x3_1 - 1)) then (if (wrap64 (x3_1 - 1)) < (l0.length : Int) then (if 0 ≤ (wrap64 (x3_1 - 2)) then (if (wrap64 (x3_1 - 2)) < (l0.length : Int) then (if ((decide (((rd_T103 l0 x3_1).f1) > ((rd_T103 l0 (wrap64 (x3_1 - 1))).f1))) == (decide (((rd_T103 l0 (wrap64 (x3_1 - 1))).f1) > ((rd_T103 l0 (wrap64 (x3_1 - 2))).f1)))) = true then (some false) else (spec_l02Tides.l0 kj12 l0 (wrap64 (x3_1 + 1)))) else (none)) else (none)) else (none)) else (none)) else (spec_l02Tides.l0 kj12 l0 (wrap64 (x3_1 + 1)))) = some r := by rw [if_neg (show ¬ (false = true) by decide)] at H; exact H
           clear H
           have H := H1
           clear H1
           by_cases c22 : x3_1 > 1
           ·rw [if_pos c22] at H
            have c22b0 : decide (1 < x3_1) = true := decide_eq_true c22
            clear c22
            obtain ⟨ji23, hji23⟩ : ∃ j_ : Int, (wrap64 (x3_1 - 1)) = j_ := ⟨_, rfl⟩
            replace H : (if 0 ≤ (ji23) then (if (ji23) < (l0.length : Int) then (if 0 ≤ (wrap64 (x3_1 - 2)) then (if (wrap64 (x3_1 - 2)) < (l0.length : Int) then (if ((decide (((rd_T103 l0 x3_1).f1) > ((rd_T103 l0 (ji23)).f1))) == (decide (((rd_T103 l0 (ji23)).f1) > ((rd_T103 l0 (wrap64 (x3_1 - 2))).f1)))) = true then (some false) else (spec_l02Tides.l0 kj12 l0 (wrap64 (x3_1 + 1)))) else (none)) else (none)) else (none)) else (none)) = some r := by first | (rw [hji23] at H; exact H) | (simp only [hji23] at H ⊢; exact H)
            have hji23w : (IntKind.i64.wrap (x3_1 - 1)) = ji23 := (i64_w _).trans hji23
            by_cases c24 : 0 ≤ (ji23)
            ·rw [if_pos c24] at H
             have c24b0 : decide (0 ≤ (ji23)) = true := decide_eq_true c24
             have c24b1 : 0 ≤ (ji23) := c24
             clear c24
             by_cases c25 : (ji23) < (l0.length : Int)
             ·rw [if_pos c25] at H
              have c25b0 : decide ((ji23) < (l0.length : Int)) = true := decide_eq_true c25
              clear c25
              obtain ⟨ji26, hji26⟩ : ∃ j_ : Int, (wrap64 (x3_1 - 2)) = j_ := ⟨_, rfl⟩
              replace H : (if 0 ≤ (ji26) then (if (ji26) < (l0.length : Int) then (if ((decide (((rd_T103 l0 x3_1).f1) > ((rd_T103 l0 (ji23)).f1))) == (decide (((rd_T103 l0 (ji23)).f1) > ((rd_T103 l0 (ji26)).f1)))) = true then (some false) else (spec_l02Tides.l0 kj12 l0 (wrap64 (x3_1 + 1)))) else (none)) else (none)) = some r := by first | (rw [hji26] at H; exact H) | (simp only [hji26] at H ⊢; exact H)
              have hji26w : (IntKind.i64.wrap (x3_1 - 2)) = ji26 := (i64_w _).trans hji26
              by_cases c27 : 0 ≤ (ji26)
              ·rw [if_pos c27] at H
               have c27b0 : decide (0 ≤ (ji26)) = true := decide_eq_true c27
               have c27b1 : 0 ≤ (ji26) := c27
               clear c27
               by_cases c28 : (ji26) < (l0.length : Int)
               ·rw [if_pos c28] at H
                have c28b0 : decide ((ji26) < (l0.length : Int)) = true := decide_eq_true c28
                clear c28
                by_cases c29 : ((decide (((rd_T103 l0 x3_1).f1) > ((rd_T103 l0 (ji23)).f1))) == (decide (((rd_T103 l0 (ji23)).f1) > ((rd_T103 l0 (ji26)).f1)))) = true
                ·rw [if_pos c29] at H
                 have c29b0 : ((decide (((rd_T103 l0 x3_1).f1) > ((rd_T103 l0 (ji23)).f1))) == (decide (((rd_T103 l0 (ji23)).f1) > ((rd_T103 l0 (ji26)).f1)))) = true := c29
                 (try (have c29b1 : decide ((decide (((rd_T103 l0 x3_1).f1) > ((rd_T103 l0 (ji23)).f1))) = (decide (((rd_T103 l0 (ji23)).f1) > ((rd_T103 l0 (ji26)).f1)))) = true := by simpa using c29))
                 (try (have c29b2 : ((decide (((rd_T103 l0 x3_1).f1) > ((rd_T103 l0 (ji23)).f1))) == (decide (((rd_T103 l0 (ji23)).f1) > ((rd_T103 l0 (ji26)).f1)))) = true := by simpa using c29))
                 clear c29
                 obtain rfl := Option.some.inj H
                 obtain ⟨hcz30_0, hcz30_1, hfz30_0, hfz30_1⟩ := bx2 BK159
                 have p164 : 0 ≤ ((ji23) : Int) := of_decide_eq_true (by first | (with_reducible assumption) | assumption)
                 have q164 : (ji23) < (l0.length : Int) := of_decide_eq_true (by first | (with_reducible assumption) | assumption)
                 obtain ⟨ad164, e164, hx164_0, hx164_1⟩ := at_T103 HR0.out (ji23) p164 q164
                 obtain rfl : ad158 = ad164 := (by injection e164)
                 replace hx164_0 := (HB.out.cell (World.block_lt_of_cell? w _ hx164_0)).trans hx164_0
                 replace hx164_1 := (HB.out.cell (World.block_lt_of_cell? w _ hx164_1)).trans hx164_1
                 replace p164 := eq_true p164
                 replace q164 := eq_true q164
                 have p165 : 0 ≤ ((ji23) : Int) := of_decide_eq_true (by first | (with_reducible assumption) | assumption)
                 have q165 : (ji23) < (l0.length : Int) := of_decide_eq_true (by first | (with_reducible assumption) | assumption)
                 obtain ⟨ad165, e165, hx165_0, hx165_1⟩ := at_T103 HR0.out (ji23) p165 q165
                 obtain rfl : ad158 = ad165 := (by injection e165)
                 replace hx165_0 := (HB.out.cell (World.block_lt_of_cell? w _ hx165_0)).trans hx165_0
                 replace hx165_1 := (HB.out.cell (World.block_lt_of_cell? w _ hx165_1)).trans hx165_1
                 replace p165 := eq_true p165
                 replace q165 := eq_true q165
                 have p166 : 0 ≤ ((ji26) : Int) := of_decide_eq_true (by first | (with_reducible assumption) | assumption)
                 have q166 : (ji26) < (l0.length : Int) := of_decide_eq_true (by first | (with_reducible assumption) | assumption)
                 obtain ⟨ad166, e166, hx166_0, hx166_1⟩ := at_T103 HR0.out (ji26) p166 q166
                 obtain rfl : ad158 = ad166 := (by injection e166)
                 replace hx166_0 := (HB.out.cell (World.block_lt_of_cell? w _ hx166_0)).trans hx166_0
                 replace hx166_1 := (HB.out.cell (World.block_lt_of_cell? w _ hx166_1)).trans hx166_1
                 replace p166 := eq_true p166
                 replace q166 := eq_true q166
                 go_wp2
                 repeat (go_quiet (fail); try go_wp2)
                 go_ret
                 exact ⟨by first | rfl | (simp [errW_none, errW_some] <;> rfl) | (simp only [← hji23, ← hji26]; first | rfl | (simp [errW_none, errW_some] <;> rfl)) | (simp [*, errW_none, errW_some] <;> rfl), be HB⟩
                ·rw [if_neg c29] at H
                 have c29b0 : ((decide (((rd_T103 l0 x3_1).f1) > ((rd_T103 l0 (ji23)).f1))) == (decide (((rd_T103 l0 (ji23)).f1) > ((rd_T103 l0 (ji26)).f1)))) = false := by simpa using c29
                 (try (have c29b1 : decide ((decide (((rd_T103 l0 x3_1).f1) > ((rd_T103 l0 (ji23)).f1))) = (decide (((rd_T103 l0 (ji23)).f1) > ((rd_T103 l0 (ji26)).f1)))) = false := by simpa using c29))
                 (try (have c29b2 : ((decide (((rd_T103 l0 x3_1).f1) > ((rd_T103 l0 (ji23)).f1))) == (decide (((rd_T103 l0 (ji23)).f1) > ((rd_T103 l0 (ji26)).f1)))) = false := by simpa using c29))
                 (try (have c29b3 : ¬ ((decide (((rd_T103 l0 x3_1).f1) > ((rd_T103 l0 (ji23)).f1))) = (decide (((rd_T103 l0 (ji23)).f1) > ((rd_T103 l0 (ji26)).f1)))) := by simpa using c29))
                 clear c29
                 have H' := am H
                 clear H
                 obtain ⟨hcz31_0, hcz31_1, hfz31_0, hfz31_1⟩ := bx2 BK159
                 have p164 : 0 ≤ ((ji23) : Int) := of_decide_eq_true (by first | (with_reducible assumption) | assumption)
                 have q164 : (ji23) < (l0.length : Int) := of_decide_eq_true (by first | (with_reducible assumption) | assumption)
                 obtain ⟨ad164, e164, hx164_0, hx164_1⟩ := at_T103 HR0.out (ji23) p164 q164
                 obtain rfl : ad158 = ad164 := (by injection e164)
                 replace hx164_0 := (HB.out.cell (World.block_lt_of_cell? w _ hx164_0)).trans hx164_0
                 replace hx164_1 := (HB.out.cell (World.block_lt_of_cell? w _ hx164_1)).trans hx164_1
                 replace p164 := eq_true p164
                 replace q164 := eq_true q164
                 have p165 : 0 ≤ ((ji23) : Int) := of_decide_eq_true (by first | (with_reducible assumption) | assumption)
                 have q165 : (ji23) < (l0.length : Int) := of_decide_eq_true (by first | (with_reducible assumption) | assumption)
                 obtain ⟨ad165, e165, hx165_0, hx165_1⟩ := at_T103 HR0.out (ji23) p165 q165
                 obtain rfl : ad158 = ad165 := (by injection e165)
                 replace hx165_0 := (HB.out.cell (World.block_lt_of_cell? w _ hx165_0)).trans hx165_0
                 replace hx165_1 := (HB.out.cell (World.block_lt_of_cell? w _ hx165_1)).trans hx165_1
                 replace p165 := eq_true p165
                 replace q165 := eq_true q165
                 have p166 : 0 ≤ ((ji26) : Int) := of_decide_eq_true (by first | (with_reducible assumption) | assumption)
                 have q166 : (ji26) < (l0.length : Int) := of_decide_eq_true (by first | (with_reducible assumption) | assumption)
                 obtain ⟨ad166, e166, hx166_0, hx166_1⟩ := at_T103 HR0.out (ji26) p166 q166
                 obtain rfl : ad158 = ad166 := (by injection e166)
                 replace hx166_0 := (HB.out.cell (World.block_lt_of_cell? w _ hx166_0)).trans hx166_0
                 replace hx166_1 := (HB.out.cell (World.block_lt_of_cell? w _ hx166_1)).trans hx166_1
                 replace p166 := eq_true p166
                 replace q166 := eq_true q166
                 go_wp2
                 repeat (go_quiet (fail); try go_wp2)
                 go_roundg kj12
                 case measure => have := HK1.out; have := HJ3.out; have := HJ12.out; omega
                 case rel => exact ⟨(wrap64 (x3_1 + 1)), vv, H', ⟨by have := HK1.out; have := HJ3.out; have := HJ12.out; omega⟩, ⟨be HB⟩⟩
               ·rw [if_neg c28] at H
                exact absurd H (by simp)
              ·rw [if_neg c27] at H
               exact absurd H (by simp)
             ·rw [if_neg c25] at H
              exact absurd H (by simp)
            ·rw [if_neg c24] at H
             exact absurd H (by simp)
           ·rw [if_neg c22] at H
            have c22b0 : decide (1 < x3_1) = false := decide_eq_false c22
            clear c22
            have H' := am H
            clear H
            go_wp2
            repeat (go_quiet (fail); try go_wp2)
            go_roundg kj12
            case measure => have := HK1.out; have := HJ3.out; have := HJ12.out; omega
            case rel => exact ⟨(wrap64 (x3_1 + 1)), vv, H', ⟨by have := HK1.out; have := HJ3.out; have := HJ12.out; omega⟩, ⟨be HB⟩⟩
    ·rw [if_neg c3] at H
     exact absurd H (by simp)
   ·rw [if_neg c2] at H
    have c2b0 : decide (x3_1 < (l0.length : Int)) = false := decide_eq_false c2
    clear c2
    replace H := Option.bind_eq_some_iff.mp H
    obtain ⟨t157, A320, H⟩ := H
    try dsimp only at H
    have A32 := am A320
    clear A320
    obtain rfl := Option.some.inj H
    go_wp2_with (first | (go_at_call 164; (with_reducible refine (spec_l00In.calls (l0.length : Int) 2 8 t157 _ A32.out).mono ?_); rintro e w' ⟨rfl, ⟨nd, rfl⟩⟩; (try first | exact ⟨rfl, _, World.drewN_drewN _ _ _⟩ | exact ⟨rfl, _, Eq.trans (World.drewN_drewN _ _ _) (congrArg (World.drewN _) (Nat.add_assoc _ _ _))⟩)))
    repeat (go_quiet (first | (go_at_call 164; (with_reducible refine (spec_l00In.calls (l0.length : Int) 2 8 t157 _ A32.out).mono ?_); rintro e w' ⟨rfl, ⟨nd, rfl⟩⟩; (try first | exact ⟨rfl, _, World.drewN_drewN _ _ _⟩ | exact ⟨rfl, _, Eq.trans (World.drewN_drewN _ _ _) (congrArg (World.drewN _) (Nat.add_assoc _ _ _))⟩))); try go_wp2_with (first | (go_at_call 164; (with_reducible refine (spec_l00In.calls (l0.length : Int) 2 8 t157 _ A32.out).mono ?_); rintro e w' ⟨rfl, ⟨nd, rfl⟩⟩; (try first | exact ⟨rfl, _, World.drewN_drewN _ _ _⟩ | exact ⟨rfl, _, Eq.trans (World.drewN_drewN _ _ _) (congrArg (World.drewN _) (Nat.add_assoc _ _ _))⟩))))
    go_ret
    exact ⟨by first | rfl | (simp [errW_none, errW_some] <;> rfl) | (simp [*, errW_none, errW_some] <;> rfl), be HB⟩

/-! ### spec_l02Boats: function 142 -/
def spec_l02Boats.j0 : Nat → Bool → Int → Bool → Int → Int → (Nat → Int) → Option (Int × Int × Int × (Nat → Int))
 | 0, _, _, _, _, _, _ => none
 | k + 1, x3, x9, x19, x1000, x1001, x1002 => if x19 = true then (some (1, x1000, x1001, x1002)) else (if x9 = 0 then (if x3 = true then (some (0, x1000, x1001, x1002)) else (some (2, x1000, x1001, x1002))) else (some (x9, x1000, x1001, x1002)))
def spec_l02Boats.f (k : Nat) (s0_0 : Int) (s0_1 : Int) (s0_2 : (Nat → Int)) (l1 : List (S38)) (l2 : List (S103)) (a3 : Bool) : Option (Int × Int × Int × (Nat → Int)) := (spec_l01Asked.f k s0_0 s0_1 s0_2 l1).bind fun bt167 => (if bt167.1 = 1 then (spec_l02Boats.j0 k a3 bt167.1 true bt167.2.1 bt167.2.2.1 bt167.2.2.2) else ((spec_l02Tides.f k l2).bind fun t171 => (spec_l02Boats.j0 k a3 bt167.1 (!t171) bt167.2.1 bt167.2.2.1 bt167.2.2.2)))
set_option maxHeartbeats 8000000 in
set_option maxRecDepth 100000 in
theorem spec_l02Boats.calls (k : Nat) (g : Nat) (s0_0 : Int) (s0_1 : Int) (s0_2 : (Nat → Int)) (A1 : Option Addr) (c1 : Nat) (l1 : List (S38)) (A2 : Option Addr) (c2 : Nat) (l2 : List (S103)) (a3 : Bool) (r1 : Int) (r2 : Int) (r3 : Int) (r4 : (Nat → Int)) (w0 w : World) (hI : IsS28 w0 w g s0_0 s0_1 s0_2) (hB : Below w0.heap.size w0 w) (hr1 : ∀ W_, KeepBut w W_ g none → Kd.C k38 W_ A1 l1.length l1) (hc1 : l1.length ≤ c1) (hr2 : ∀ W_, KeepBut w W_ g none → Kd.C k103 W_ A2 l2.length l2) (hc2 : l2.length ≤ c2) (h : spec_l02Boats.f k s0_0 s0_1 s0_2 l1 l2 a3 = some (r1, r2, r3, r4)) :
  Calls Try.prog 142 #[.pointer (some ⟨g, 0, none⟩), .slice A1 l1.length c1, .slice A2 l2.length c2, .bool a3] w fun e w' => e = .returned (.int .i64 r1) ∧ IsS28 w0 w' g r2 r3 r4 ∧ Below w0.heap.size w0 w' ∧ KeepBut w w' g none := by
 have HR1 := am hr1
 have HC1 := am hc1
 clear hr1 hc1
 have HR2 := am hr2
 have HC2 := am hc2
 clear hr2 hc2
 have HI0 := am hI
 have HK := am (KeepBut.refl w g none)
 have HL := am hB.size
 clear hI
 have HW0 := am hB.size
 have HB := am hB
 clear hB
 have H : ((spec_l01Asked.f k s0_0 s0_1 s0_2 l1).bind fun bt167 => (if bt167.1 = 1 then (spec_l02Boats.j0 k a3 bt167.1 true bt167.2.1 bt167.2.2.1 bt167.2.2.2) else ((spec_l02Tides.f k l2).bind fun t171 => (spec_l02Boats.j0 k a3 bt167.1 (!t171) bt167.2.1 bt167.2.2.1 bt167.2.2.2)))) = some (r1, r2, r3, r4) := h
 clear h
 replace H := Option.bind_eq_some_iff.mp H
 obtain ⟨⟨t167, t168, t169, t170⟩, A50, H⟩ := H
 try dsimp only at H
 have A5 := am A50
 clear A50
 have HC6 := am H
 clear H
 go_enter Try.func142, Try.ntmps142
 go_upto_region 2 with (first | ((with_reducible refine gate_callee (f := 117) rfl ?_); refine gL (some 12) Try.func117 #[.pointer (some ⟨g, 0, none⟩), .slice A1 l1.length c1] ?_; (with_reducible refine (spec_l01Asked.calls k g s0_0 s0_1 s0_2 _ _ l1 t167 t168 t169 t170 w0 _ ?side1 ?side2 ?side3 ?side4 A5.out).mono ?_); (case side1 => exact si28 HI0); (case side2 => exact be HB); (case side3 => exact Kd.C_foot_step HR1.out (ke HK)); (case side4 => exact HC1.out); rintro e w7 ⟨rfl, hi, hb, hk⟩; refine ⟨_, rfl, ?_⟩; replace HK := am (KeepBut.trans (ke HK) hk (.inl rfl)); replace HB := am (hb); replace HI0 := am (hi); (try clear hb); (try clear hb2); (try clear hk); (try clear hi)))
 (try simp only [Act.put, List.setIfInBounds_toArray, List.set_cons_zero, List.set_cons_succ])
 go_cut [19] (fun v19 wc => ∃ (kq : Nat) (x19_5 : Bool), v19 = .bool x19_5 ∧ Aside0 (spec_l02Boats.j0 kq a3 t167 x19_5 t168 t169 t170 = some (r1, r2, r3, r4)) ∧ Aside0 (kq ≤ k) ∧ Aside0 (IsS28 w0 wc g t168 t169 t170) ∧ Aside0 (KeepBut w wc g none) ∧ Aside0 (Below w0.heap.size w0 wc))
 case first =>
  have H := HC6.out
  clear HC6
  by_cases c8 : t167 = 1
  ·rw [if_pos c8] at H
   have c8b0 : (t167 == 1) = true := beq_iff_eq.mpr c8
   have c8b1 : (t167 != 1) = false := bne_eq_false_iff_eq.mpr c8
   clear c8
   (first | rw [c8b0] | (simp only [i64_w, i32_w]; rw [c8b0]) | skip)
   have H' := am H
   clear H
   go_wp2
   go_meet
   case rel => exact ⟨_, (true), vv, H', ⟨by first | omega | exact Nat.le_refl _⟩, ⟨si28 HI0⟩, ⟨ke HK⟩, ⟨be HB⟩⟩
  ·rw [if_neg c8] at H
   have c8b0 : (t167 == 1) = false := beq_eq_false_iff_ne.mpr c8
   have c8b1 : (t167 != 1) = true := bne_iff_ne.mpr c8
   (first | rw [c8b0] | (simp only [i64_w, i32_w]; rw [c8b0]) | skip)
   replace H := Option.bind_eq_some_iff.mp H
   obtain ⟨t171, A90, H⟩ := H
   try dsimp only at H
   have A9 := am A90
   clear A90
   have H' := am H
   clear H
   go_wp2_with (first | (go_at_call 173; (with_reducible refine (spec_l02Tides.calls k _ _ l2 t171 _ ?side1 ?side2 A9.out).mono ?_); (case side1 => exact Kd.C_foot_now HR2.out (ke HK)); (case side2 => exact HC2.out); rintro e w10 ⟨rfl, hb⟩; replace HI0 := am (IsS28.below (si28 HI0) hb); replace HK := am (KeepBut.trans (ke HK) (KeepBut.of_below hb g none) (.inl rfl)); replace HB := am (below_step (be HB) hb); (try clear hb); (try clear hb2); (try clear hk); (try clear hi)))
   go_meet
   case rel => exact ⟨_, (!t171), vv, H', ⟨by first | omega | exact Nat.le_refl _⟩, ⟨si28 HI0⟩, ⟨ke HK⟩, ⟨be HB⟩⟩
 case rest =>
  clear HC6
  try clear c1
  try clear c2
  try clear p2
  try clear c8
  try clear c8b0
  try clear c8b1
  obtain ⟨kq, x19_5, rfl, HA, HJ5, HI0, HK, HB⟩ := hcut
  cases kq with
  | zero => exact absurd HA.out (by simp [spec_l02Boats.j0])
  | succ kj5 =>
   have H := HA.out
   clear HA
   simp only [spec_l02Boats.j0] at H
   by_cases c11 : x19_5 = true
   ·subst c11
    rw [if_pos rfl] at H
    simp only [Option.some.injEq, Prod.mk.injEq] at H
    obtain ⟨rfl, rfl, rfl, rfl⟩ := H
    go_wp2
    go_ret
    exact ⟨by first | rfl | (simp [errW_none, errW_some] <;> rfl) | (simp [*, errW_none, errW_some] <;> rfl), si28 HI0, be HB, ke HK⟩
   ·replace c11 := Bool.eq_false_iff.mpr c11
    subst c11
    have H1 : (if t167 = 0 then (if a3 = true then (some (0, t168, t169, t170)) else (some (2, t168, t169, t170))) else (some (t167, t168, t169, t170))) = some (r1, r2, r3, r4) := by rw [if_neg (show ¬ (false = true) by decide)] at H; exact H
    clear H
    have H := H1
    clear H1
    by_cases c12 : t167 = 0
    ·rw [if_pos c12] at H
     have c12b0 : (t167 == 0) = true := beq_iff_eq.mpr c12
     have c12b1 : (t167 != 0) = false := bne_eq_false_iff_eq.mpr c12
     clear c12
     by_cases c13 : a3 = true
     ·subst c13
      rw [if_pos rfl] at H
      simp only [Option.some.injEq, Prod.mk.injEq] at H
      obtain ⟨rfl, rfl, rfl, rfl⟩ := H
      go_wp2
      go_ret
      exact ⟨by first | rfl | (simp [errW_none, errW_some] <;> rfl) | (simp [*, errW_none, errW_some] <;> rfl), si28 HI0, be HB, ke HK⟩
     ·replace c13 := Bool.eq_false_iff.mpr c13
      subst c13
      have H1 : (some (2, t168, t169, t170)) = some (r1, r2, r3, r4) := by rw [if_neg (show ¬ (false = true) by decide)] at H; exact H
      clear H
      have H := H1
      clear H1
      simp only [Option.some.injEq, Prod.mk.injEq] at H
      obtain ⟨rfl, rfl, rfl, rfl⟩ := H
      go_wp2
      go_ret
      exact ⟨by first | rfl | (simp [errW_none, errW_some] <;> rfl) | (simp [*, errW_none, errW_some] <;> rfl), si28 HI0, be HB, ke HK⟩
    ·rw [if_neg c12] at H
     have c12b0 : (t167 == 0) = false := beq_eq_false_iff_ne.mpr c12
     have c12b1 : (t167 != 0) = true := bne_iff_ne.mpr c12
     simp only [Option.some.injEq, Prod.mk.injEq] at H
     obtain ⟨rfl, rfl, rfl, rfl⟩ := H
     go_wp2
     go_ret
     exact ⟨by first | rfl | (simp [errW_none, errW_some] <;> rfl) | (simp [*, errW_none, errW_some] <;> rfl), si28 HI0, be HB, ke HK⟩

/-! ### spec_l02Afloat: function 145 -/
def spec_l02Afloat.f (s0_0 : Int) (s0_1 : Int) (s0_2 : (Nat → Int)) (a1_0 : Int) (a1_1 : Int) (a1_2 : Int) (a1_3 : Int) (a1_4 : Int) (a1_5 : Int) (a2 : Int) : Option (Bool × Int × Int × (Nat → Int)) := (spec_l01Depth.f s0_0 s0_1 s0_2 a1_0 a1_1).bind fun bt173 => (some (decide ((wrap64 (bt173.1 + a2)) ≥ (wrap64 (a1_4))), bt173.2.1, bt173.2.2.1, bt173.2.2.2))
def spec_l02Afloat.T1 : Bool × List (List Nat × List Nat) := (true, [([], []), ([], []), ([1], [1]), ([0, 2], [0, 2]), ([], []), ([3, 4], [3, 4]), ([], []), ([6], [6]), ([7], [7]), ([5, 8], [5, 8]), ([9, 3, 0, 1, 2, 3, 4, 5, 6, 7, 8, 9], [9])])
def spec_l02Afloat.B1 : List Nat := [0, 0, 2, 7, 0, 31, 0, 64, 192, 511, 1023]
theorem spec_l02Afloat.tab1 : rtab .any (opsOf Try.f145 1) = spec_l02Afloat.T1 := by kernel_rfl
theorem spec_l02Afloat.bits1 : waitsOk spec_l02Afloat.T1.2 spec_l02Afloat.B1 = true := by kernel_rfl
set_option maxHeartbeats 8000000 in
set_option maxRecDepth 100000 in
theorem spec_l02Afloat.calls (g : Nat) (s0_0 : Int) (s0_1 : Int) (s0_2 : (Nat → Int)) (a1_0 : Int) (a1_1 : Int) (a1_2 : Int) (a1_3 : Int) (a1_4 : Int) (a1_5 : Int) (a2 : Int) (r1 : Bool) (r2 : Int) (r3 : Int) (r4 : (Nat → Int)) (w0 w : World) (hI : IsS28 w0 w g s0_0 s0_1 s0_2) (hB : Below w0.heap.size w0 w) (h : spec_l02Afloat.f s0_0 s0_1 s0_2 a1_0 a1_1 a1_2 a1_3 a1_4 a1_5 a2 = some (r1, r2, r3, r4)) :
  Calls Try.prog 145 #[.pointer (some ⟨g, 0, none⟩), .agg #[.int .i8 a1_0, .int .i8 a1_1, .int .i8 a1_2, .int .i8 a1_3, .int .i8 a1_4, .int .i8 a1_5], .int .i64 a2] w fun e w' => e = .returned (.bool r1) ∧ IsS28 w0 w' g r2 r3 r4 ∧ Below w0.heap.size w0 w' ∧ KeepBut w w' g none := by
 have hu38 := Try.underlying38
 have hu36 := Try.underlying36
 have HI0 := am hI
 have HK := am (KeepBut.refl w g none)
 have HL := am hB.size
 clear hI
 have HW0 := am hB.size
 have HB := am hB
 clear hB
 have H : ((spec_l01Depth.f s0_0 s0_1 s0_2 a1_0 a1_1).bind fun bt173 => (some (decide ((wrap64 (bt173.1 + a2)) ≥ (wrap64 (a1_4))), bt173.2.1, bt173.2.2.1, bt173.2.2.2))) = some (r1, r2, r3, r4) := h
 clear h
 replace H := Option.bind_eq_some_iff.mp H
 obtain ⟨⟨t173, t174, t175, t176⟩, A40, H⟩ := H
 try dsimp only at H
 have A4 := am A40
 clear A40
 simp only [Option.some.injEq, Prod.mk.injEq] at H
 obtain ⟨rfl, rfl, rfl, rfl⟩ := H
 go_enter Try.func145, Try.ntmps145
 try go_wp2_with (first | ((with_reducible refine gate_dst (N := 4) rfl ?_); refine bxe (N := 4) (cs := #[.int .i8 a1_0, .int .i8 a1_1, .int .i8 a1_2, .int .i8 a1_3, .int .i8 a1_4, .int .i8 a1_5]) (t := 38) ?_; intro gb172 hg w5 hbox hb; have BK172 := am (hbox); have GW172 := am (gN hg (keep_size (w := w) (g := g) (row := none) (ke HK))); have GE172 := am (Nat.le_trans HW0.out (gN hg (keep_size (w := w) (g := g) (row := none) (ke HK)))); have NB0_172 := am (nLi hg (IsS28.lt (show IsS28 w0 _ g s0_0 s0_1 s0_2 from si28 HI0))); have NB172_0 := am (nRi hg (IsS28.lt (show IsS28 w0 _ g s0_0 s0_1 s0_2 from si28 HI0))); replace HI0 := am (IsS28.below (si28 HI0) hb); replace HK := am (KeepBut.trans (ke HK) (KeepBut.of_below hb g none) (.inl rfl)); replace HB := am (below_step (be HB) hb); clear hb hbox hg))
 have n0_ := am (blk_drew BK172.out)
 have n1_ := am (IsS28.drew HI0.out)
 have n2_ := am (keep_drew HK.out)
 have n3_ := am (below_drew1 HB.out)
 clear BK172
 clear HI0
 clear HK
 clear HB
 have BK172 := n0_
 have HI0 := n1_
 have HK := n2_
 have HB := n3_
 clear n0_ n1_ n2_ n3_
 refine start_ (n := 11) (S := fun w' => w'.cell? ⟨gb172, 0, none⟩ = some (.int .i8 a1_0) ∧ w'.cell? ⟨gb172, 1, none⟩ = some (.int .i8 a1_1) ∧ w'.cell? ⟨gb172, 2, none⟩ = some (.int .i8 a1_2) ∧ w'.cell? ⟨gb172, 3, none⟩ = some (.int .i8 a1_3) ∧ w'.cell? ⟨gb172, 4, none⟩ = some (.int .i8 a1_4) ∧ w'.cell? ⟨gb172, 5, none⟩ = some (.int .i8 a1_5)) (ds := []) #[false, false, false, false, false, false, false, false, false, false, false] (by kernel_rfl) rfl rfl ⟨(blk_cell BK172.out 0).trans rfl, (blk_cell BK172.out 1).trans rfl, (blk_cell BK172.out 2).trans rfl, (blk_cell BK172.out 3).trans rfl, (blk_cell BK172.out 4).trans rfl, (blk_cell BK172.out 5).trans rfl⟩ (fun hHeld => ?_); refine with_tabW spec_l02Afloat.tab1 spec_l02Afloat.bits1 (fun HT_ HW_ => ?_)
 generalize w5.drew = w6 at BK172 HI0 HK HB hHeld ⊢
 refine pS (i := 0) (some 7) #[true, false, false, false, false, false, false, false, false, false, false] (any_of HT_.out (by kernel_rfl)) ?_
 refine pS (i := 1) (some 8) #[true, true, false, false, false, false, false, false, false, false, false] (any_of HT_.out (by kernel_rfl)) ?_
 refine pS (i := 4) (some 11) #[true, true, false, false, true, false, false, false, false, false, false] (any_of HT_.out (by kernel_rfl)) ?_
 refine pS (i := 6) (some 13) #[true, true, false, false, true, false, true, false, false, false, false] (any_of HT_.out (by kernel_rfl)) ?_
 refine tS (i := 2) (some 9) #[true, true, true, false, true, false, true, false, false, false, false] (take_ofW HT_.out HW_.out (by kernel_rfl)) hHeld ?_
 refine tS (i := 7) (some 14) #[true, true, true, false, true, false, true, true, false, false, false] (take_ofW HT_.out HW_.out (by kernel_rfl)) hHeld ?_
 refine pS (i := 8) (some 15) #[true, true, true, false, true, false, true, true, true, false, false] (any_of HT_.out (by kernel_rfl)) ?_
 refine one_ (i := 3) (N := some 10) #[true, true, true, true, true, false, true, true, true, false, false] rfl rfl (one_of HT_.out (by kernel_rfl)) (by decide) (fun K hK => ?_)
 refine goes_ Try.func110 (by kernel_rfl) rfl #[.pointer (some ⟨g, 0, none⟩), .agg #[.int .i8 a1_0, .int .i8 a1_1]] (by rfl) rfl rfl (by (try simp only [List.map_toArray, List.map_cons, List.map_nil]); first | done | rfl | (simp only [List.length_drop, List.length_take]; rfl)) ?_
 with_reducible refine (spec_l01Depth.calls g s0_0 s0_1 s0_2 a1_0 a1_1 t173 t174 t175 t176 w0 _ ?side1 ?side2 A4.out).mono ?_
 (case side1 => exact si28 HI0)
 (case side2 => exact be HB)
 rintro e w7 ⟨rfl, hi, hb, hk⟩
 refine ⟨_, rfl, ?_⟩
 have n0_ := am (KeepBut.blk hk (g' := gb172) (o := .cells #[.int .i8 a1_0, .int .i8 a1_1, .int .i8 a1_2, .int .i8 a1_3, .int .i8 a1_4, .int .i8 a1_5] 38 (0, 0)) (kb BK172) NB172_0.out (by simp))
 have n1_ := am (KeepBut.trans (ke HK) hk (.inl rfl))
 have n2_ := am (hb)
 have n3_ := am (hi)
 clear BK172
 clear HK
 clear HB
 clear HI0
 have BK172 := n0_
 have HK := n1_
 have HB := n2_
 have HI0 := n3_
 clear n0_ n1_ n2_ n3_
 (try clear hb)
 (try clear hb2)
 (try clear hk)
 (try clear hi)
 refine hK.out _ _ ⟨(blk_cell BK172.out 0).trans rfl, (blk_cell BK172.out 1).trans rfl, (blk_cell BK172.out 2).trans rfl, (blk_cell BK172.out 3).trans rfl, (blk_cell BK172.out 4).trans rfl, (blk_cell BK172.out 5).trans rfl⟩ (fun hHeld => ?_)
 clear hK K
 refine norm_ (a' := ?_) ?_ ?_
 rotate_left
 ·show Act.put _ (some 10) _ = _
  simp only [Act.put, List.setIfInBounds_toArray, List.set_cons_zero, List.set_cons_succ, i64_w, i32_w]
  rfl
 refine pS (i := 5) (some 12) #[true, true, true, true, true, true, true, true, true, false, false] (any_of HT_.out (by kernel_rfl)) ?_
 refine pS (i := 9) (some 16) #[true, true, true, true, true, true, true, true, true, true, false] (any_of HT_.out (by kernel_rfl)) ?_
 refine pS (i := 10) (some 6) #[true, true, true, true, true, true, true, true, true, true, true] (any_of HT_.out (by kernel_rfl)) ?_
 refine done_ (done_of HT_.out (by kernel_rfl)) ?_
 try go_wp2
 go_ret
 exact ⟨by first | rfl | (simp [errW_none, errW_some] <;> rfl) | (simp [*, errW_none, errW_some] <;> rfl), si28 HI0, be HB, ke HK⟩

end Go.Proofs.Ytcollbifdfhfoaa.PFnExactIsAfloat
