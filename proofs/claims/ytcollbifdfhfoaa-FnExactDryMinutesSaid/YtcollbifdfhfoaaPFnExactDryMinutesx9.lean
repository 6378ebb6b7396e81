-- Written by a program out of this seat's translation (functions, and that the code comes to them).
import Derived.Test.YtcollbifdfhfoaaPFnExactDryMinutesx0
import Derived.Test.YtcollbifdfhfoaaPFnExactDryMinutesx5
import Derived.Test.YtcollbifdfhfoaaPFnExactDryMinutesx6
import Derived.Test.YtcollbifdfhfoaaPFnExactDryMinutesx8
namespace Go.Proofs.Ytcollbifdfhfoaa.PFnExactDryMinutes
open Go.RowKit Go.Proofs.YtcollbifdfhfoaaW.PrintWords Go.Proofs.YtcollbifdfhfoaaW.PrintLast Go.Proofs.YtcollbifdfhfoaaW.PrintMore
attribute [local go_sem] max2_int min2_int max_two min_two max_three min_three max_four min_four   -- for this text's walks alone
open Go.Proofs.Ytcollbifdfhfoaa.Bay Go.Proofs.Ytcollbifdfhfoaa.Short
attribute [local go_sem ↓] lv26_eq lv28_eq
attribute [local go_sem] lvv_set lvv_drewN lvv_drew lv26_run BayAt26_set BayAt26_drewN BayAt26_drew lv28_run BayAt28_set BayAt28_drewN BayAt28_drew
set_option linter.unusedVariables false
set_option linter.unusedSimpArgs false

/-! ### impl_DryMinutes: function 85 -/
mutual
def impl_DryMinutes.j0 : Nat → List (S103) → Bool → Int → Int → (Nat → Int) → Int → Int → Int → Int → Int → Int → Option (Int × Int)
 | 0, _, _, _, _, _, _, _, _, _, _, _ => none
 | k + 1, x2, x20, x268000, x268001, x268002, x269000, x269001, x269002, x269003, x269004, x269005 => if x20 = true then (some (0, 1)) else ((impl_span.f x2).bind fun bt271 => (impl_DryMinutes.l0 k x2 0 bt271.2 bt271.1 x268000 x268001 x268002 x269000 x269001 x269002 x269003 x269004 x269005))
def impl_DryMinutes.l0 : Nat → List (S103) → Int → Int → Int → Int → Int → (Nat → Int) → Int → Int → Int → Int → Int → Int → Option (Int × Int)
 | 0, _, _, _, _, _, _, _, _, _, _, _, _, _ => none
 | k + 1, x2, x8, x10, x11, x268000, x268001, x268002, x269000, x269001, x269002, x269003, x269004, x269005 => if x11 ≤ x10 then ((impl_height.f k x2 x11).bind fun t273 => ((impl_afloat.f x268000 x268001 x268002 x269000 x269001 x269002 x269003 x269004 x269005 t273).bind fun t274 => (if t274 = true then (impl_DryMinutes.l0 k x2 x8 x10 (wrap64 (x11 + 1)) x268000 x268001 x268002 x269000 x269001 x269002 x269003 x269004 x269005) else (impl_DryMinutes.l0 k x2 (wrap64 (x8 + 1)) x10 (wrap64 (x11 + 1)) x268000 x268001 x268002 x269000 x269001 x269002 x269003 x269004 x269005)))) else (some (x8, 0))
end
def impl_DryMinutes.f (k : Nat) (a0_0 : Int) (a0_1 : Int) (a0_2 : (Nat → Int)) (a1_0 : Int) (a1_1 : Int) (a1_2 : Int) (a1_3 : Int) (a1_4 : Int) (a1_5 : Int) (l2 : List (S103)) : Option (Int × Int) := (impl_ValidBoat.f a0_0 a0_1 a0_2 a1_0 a1_1 a1_2 a1_3 a1_4 a1_5).bind fun t269 => (if t269 = true then ((impl_ValidTides.f k l2).bind fun t270 => (impl_DryMinutes.j0 k l2 (!t270) a0_0 a0_1 a0_2 a1_0 a1_1 a1_2 a1_3 a1_4 a1_5)) else (impl_DryMinutes.j0 k l2 true a0_0 a0_1 a0_2 a1_0 a1_1 a1_2 a1_3 a1_4 a1_5))
set_option maxHeartbeats 8000000 in
set_option maxRecDepth 100000 in
theorem impl_DryMinutes.calls (k : Nat) (a0_0 : Int) (a0_1 : Int) (a0_2 : (Nat → Int)) (a1_0 : Int) (a1_1 : Int) (a1_2 : Int) (a1_3 : Int) (a1_4 : Int) (a1_5 : Int) (A2 : Option Addr) (c2 : Nat) (l2 : List (S103)) (r1 : Int) (r2 : Int) (w : World) (hr2 : Kd.C k103 w A2 l2.length l2) (hc2 : l2.length ≤ c2) (h : impl_DryMinutes.f k a0_0 a0_1 a0_2 a1_0 a1_1 a1_2 a1_3 a1_4 a1_5 l2 = some (r1, r2)) :
  Calls Try.prog 85 #[.agg (csBay a0_0 a0_1 a0_2), .agg #[.int .i8 a1_0, .int .i8 a1_1, .int .i8 a1_2, .int .i8 a1_3, .int .i8 a1_4, .int .i8 a1_5], .slice A2 l2.length c2] w fun e w' => e = .returned (.tuple #[.int .i64 r1, .int .i64 r2]) ∧ Below w.heap.size w w' := by
 have hu28 := Try.underlying28
 have hu38 := Try.underlying38
 have HR2 := am hr2
 have HC2 := am hc2
 clear hr2 hc2
 have HB := am (Below.refl w.heap.size w)
 have H : ((impl_ValidBoat.f a0_0 a0_1 a0_2 a1_0 a1_1 a1_2 a1_3 a1_4 a1_5).bind fun t269 => (if t269 = true then ((impl_ValidTides.f k l2).bind fun t270 => (impl_DryMinutes.j0 k l2 (!t270) a0_0 a0_1 a0_2 a1_0 a1_1 a1_2 a1_3 a1_4 a1_5)) else (impl_DryMinutes.j0 k l2 true a0_0 a0_1 a0_2 a1_0 a1_1 a1_2 a1_3 a1_4 a1_5))) = some (r1, r2) := h
 clear h
 have HC4 := am H
 clear H
 go_enter Try.func85, Try.ntmps85
 go_upto_region 1 with (first | ((with_reducible refine gate_dst (N := 3) rfl ?_); refine bxe (N := 3) (cs := (csBay a0_0 a0_1 a0_2)) (t := 28) ?_; intro gb267 hg w5 hbox hb; have BK267 := am (hbox); have GW267 := am (gN hg (below_size (be HB))); have GE267 := am (gN hg (below_size (be HB))); replace HB := am (below_step (be HB) hb); clear hb hbox hg) | ((with_reducible refine gate_dst (N := 4) rfl ?_); refine bxe (N := 4) (cs := #[.int .i8 a1_0, .int .i8 a1_1, .int .i8 a1_2, .int .i8 a1_3, .int .i8 a1_4, .int .i8 a1_5]) (t := 38) ?_; intro gb268 hg w6 hbox hb; have BK268 := am (hbox); have GW268 := am (gN hg (below_size (be HB))); have GE268 := am (gN hg (below_size (be HB))); have NB267_268 := nL BK267 hg; have NB268_267 := nR BK267 hg; replace BK267 := bB BK267 hb; replace HB := am (below_step (be HB) hb); clear hb hbox hg))
 (try simp only [Act.put, List.setIfInBounds_toArray, List.set_cons_zero, List.set_cons_succ])
 go_cut [20] (fun v20 wc => ∃ (kq : Nat) (x20_3 : Bool), v20 = .bool x20_3 ∧ Aside0 (impl_DryMinutes.j0 kq l2 x20_3 a0_0 a0_1 a0_2 a1_0 a1_1 a1_2 a1_3 a1_4 a1_5 = some (r1, r2)) ∧ Aside0 (kq ≤ k) ∧ Aside0 (wc.heap[gb267]? = some (.cells (csBay a0_0 a0_1 a0_2) 28 (0, 0))) ∧ Aside0 (wc.heap[gb268]? = some (.cells #[.int .i8 a1_0, .int .i8 a1_1, .int .i8 a1_2, .int .i8 a1_3, .int .i8 a1_4, .int .i8 a1_5] 38 (0, 0))) ∧ Aside0 (Below w.heap.size w wc))
 case first =>
  have H := HC4.out
  clear HC4
  replace H := Option.bind_eq_some_iff.mp H
  obtain ⟨t269, A70, H⟩ := H
  try dsimp only at H
  have A7 := am A70
  clear A70
  by_cases c8 : t269 = true
  ·subst c8
   rw [if_pos rfl] at H
   replace H := Option.bind_eq_some_iff.mp H
   obtain ⟨t270, A90, H⟩ := H
   try dsimp only at H
   have A9 := am A90
   clear A90
   have H' := am H
   clear H
   have hnb10 := NB267_268.out
   have hnc10 := NB268_267.out
   have hcz11_0 : w6.cell? ⟨gb267, 0, none⟩ = some (.int .i8 a0_0) := (blk_cell BK267.out 0).trans rfl
   have hcz11_1 : w6.cell? ⟨gb267, 1, none⟩ = some (.int .i8 a0_1) := (blk_cell BK267.out 1).trans rfl
   have hwz11 := lv28_at BK267.out; have haz11 := at_cells BK267.out; have hyz11 := BayAt28_of BK267.out; have hvz11 := lvv_of BK267.out
   have hfz11_0 := blk_frozen BK267.out 0
   have hfz11_1 := blk_frozen BK267.out 1
   have hfz11_2 := blk_frozen BK267.out 2
   obtain ⟨hcz12_0, hcz12_1, hcz12_2, hcz12_3, hcz12_4, hcz12_5, hfz12_0, hfz12_1, hfz12_2, hfz12_3, hfz12_4, hfz12_5⟩ := bx6 BK268
   go_wp2_with (first | ((with_reducible refine gate_callee (f := 30) rfl ?_); refine gL (some 14) Try.func30 #[.agg (csBay a0_0 a0_1 a0_2), .agg #[.int .i8 a1_0, .int .i8 a1_1, .int .i8 a1_2, .int .i8 a1_3, .int .i8 a1_4, .int .i8 a1_5]] ?_; (with_reducible refine (impl_ValidBoat.calls a0_0 a0_1 a0_2 a1_0 a1_1 a1_2 a1_3 a1_4 a1_5 true _ A7.out).mono ?_); rintro e w13 ⟨rfl, hb⟩; refine ⟨_, rfl, ?_⟩; replace BK267 := bB BK267 hb; replace BK268 := bB BK268 hb; replace HB := am (below_step (be HB) hb); (try clear hb); (try clear hb2); (try clear hk); (try clear hi)) | (go_at_call 148; (with_reducible refine (impl_ValidTides.calls k _ _ l2 t270 _ ?side1 ?side2 A9.out).mono ?_); (case side1 => repeat (first | exact (Kd.C_below HR2.out HB.out) | (with_reducible refine Kd.C_alloc ?_ _) | (with_reducible refine Kd.C_drewN ?_ _) | (with_reducible refine Kd.C_drew ?_))); (case side2 => exact HC2.out); rintro e w14 ⟨rfl, hb⟩; replace BK267 := bB BK267 hb; replace BK268 := bB BK268 hb; replace HB := am (below_step (be HB) hb); (try clear hb); (try clear hb2); (try clear hk); (try clear hi)))
   go_meet
   case rel => exact ⟨_, (!t270), vv, H', ⟨by first | omega | exact Nat.le_refl _⟩, ⟨kb BK267⟩, ⟨kb BK268⟩, ⟨be HB⟩⟩
  ·replace c8 := Bool.eq_false_iff.mpr c8
   subst c8
   have H1 : (impl_DryMinutes.j0 k l2 true a0_0 a0_1 a0_2 a1_0 a1_1 a1_2 a1_3 a1_4 a1_5) = some (r1, r2) := by rw [if_neg (show ¬ (false = true) by decide)] at H; exact H
   clear H
   have H := H1
   clear H1
   have H' := am H
   clear H
   have hnb15 := NB267_268.out
   have hnc15 := NB268_267.out
   have hcz16_0 : w6.cell? ⟨gb267, 0, none⟩ = some (.int .i8 a0_0) := (blk_cell BK267.out 0).trans rfl
   have hcz16_1 : w6.cell? ⟨gb267, 1, none⟩ = some (.int .i8 a0_1) := (blk_cell BK267.out 1).trans rfl
   have hwz16 := lv28_at BK267.out; have haz16 := at_cells BK267.out; have hyz16 := BayAt28_of BK267.out; have hvz16 := lvv_of BK267.out
   have hfz16_0 := blk_frozen BK267.out 0
   have hfz16_1 := blk_frozen BK267.out 1
   have hfz16_2 := blk_frozen BK267.out 2
   obtain ⟨hcz17_0, hcz17_1, hcz17_2, hcz17_3, hcz17_4, hcz17_5, hfz17_0, hfz17_1, hfz17_2, hfz17_3, hfz17_4, hfz17_5⟩ := bx6 BK268
   go_wp2_with (first | ((with_reducible refine gate_callee (f := 30) rfl ?_); refine gL (some 14) Try.func30 #[.agg (csBay a0_0 a0_1 a0_2), .agg #[.int .i8 a1_0, .int .i8 a1_1, .int .i8 a1_2, .int .i8 a1_3, .int .i8 a1_4, .int .i8 a1_5]] ?_; (with_reducible refine (impl_ValidBoat.calls a0_0 a0_1 a0_2 a1_0 a1_1 a1_2 a1_3 a1_4 a1_5 false _ A7.out).mono ?_); rintro e w18 ⟨rfl, hb⟩; refine ⟨_, rfl, ?_⟩; replace BK267 := bB BK267 hb; replace BK268 := bB BK268 hb; replace HB := am (below_step (be HB) hb); (try clear hb); (try clear hb2); (try clear hk); (try clear hi)))
   go_meet
   case rel => exact ⟨_, (true), vv, H', ⟨by first | omega | exact Nat.le_refl _⟩, ⟨kb BK267⟩, ⟨kb BK268⟩, ⟨be HB⟩⟩
 case rest =>
  clear HC4
  try clear c1
  try clear c2
  try clear p2
  try clear c3
  try clear c8
  try clear c10
  try clear c15
  try clear hcz11_0
  try clear hcz11_1
  try clear hcz12_0
  try clear hcz12_1
  try clear hcz12_2
  try clear hcz12_3
  try clear hcz12_4
  try clear hcz12_5
  try clear hcz16_0
  try clear hcz16_1
  try clear hcz17_0
  try clear hcz17_1
  try clear hcz17_2
  try clear hcz17_3
  try clear hcz17_4
  try clear hcz17_5
  try clear hfz11_0
  try clear hfz11_1
  try clear hfz11_2
  try clear hfz12_0
  try clear hfz12_1
  try clear hfz12_2
  try clear hfz12_3
  try clear hfz12_4
  try clear hfz12_5
  try clear hfz16_0
  try clear hfz16_1
  try clear hfz16_2
  try clear hfz17_0
  try clear hfz17_1
  try clear hfz17_2
  try clear hfz17_3
  try clear hfz17_4
  try clear hfz17_5
  obtain ⟨kq, x20_3, rfl, HA, HJ3, BK267, BK268, HB⟩ := hcut
  cases kq with
  | zero => exact absurd HA.out (by simp [impl_DryMinutes.j0])
  | succ kj3 =>
   have H := HA.out
   clear HA
   simp only [impl_DryMinutes.j0] at H
   by_cases c19 : x20_3 = true
   ·subst c19
    rw [if_pos rfl] at H
    simp only [Option.some.injEq, Prod.mk.injEq] at H
    obtain ⟨rfl, rfl⟩ := H
    go_wp2
    go_ret2
    exact ⟨by first | rfl | (simp [errW_none, errW_some] <;> rfl) | (simp [*, errW_none, errW_some] <;> rfl), be HB⟩
   ·replace c19 := Bool.eq_false_iff.mpr c19
    subst c19
    have H1 : ((impl_span.f l2).bind fun bt271 => (impl_DryMinutes.l0 kj3 l2 0 bt271.2 bt271.1 a0_0 a0_1 a0_2 a1_0 a1_1 a1_2 a1_3 a1_4 a1_5)) = some (r1, r2) := by rw [if_neg (show ¬ (false = true) by decide)] at H; exact H
    clear H
    have H := H1
    clear H1
    replace H := Option.bind_eq_some_iff.mp H
    obtain ⟨⟨t271, t272⟩, A200, H⟩ := H
    try dsimp only at H
    have A20 := am A200
    clear A200
    have H' := am H
    clear H
    go_wp2_with (first | ((with_reducible refine gate_callee (f := 149) rfl ?_); refine gL (some 23) Try.func149 #[.slice A2 l2.length c2] ?_; (with_reducible refine (impl_span.calls _ _ l2 t271 t272 _ ?side1 ?side2 A20.out).mono ?_); (case side1 => repeat (first | exact (Kd.C_below HR2.out HB.out) | (with_reducible refine Kd.C_alloc ?_ _) | (with_reducible refine Kd.C_drewN ?_ _) | (with_reducible refine Kd.C_drew ?_))); (case side2 => exact HC2.out); rintro e w' ⟨rfl, ⟨nd, rfl⟩⟩; refine ⟨_, rfl, ?_⟩))
    go_loopg [8, 11] kj3 (fun kq v8 v11 w' => ∃ (x8_2 : Int) (x11_2 : Int), v8 = .int .i64 x8_2 ∧ v11 = .int .i64 x11_2 ∧ Aside0 (impl_DryMinutes.l0 kq l2 x8_2 t272 x11_2 a0_0 a0_1 a0_2 a1_0 a1_1 a1_2 a1_3 a1_4 a1_5 = some (r1, r2)) ∧ Aside0 (kq ≤ kj3) ∧ Aside0 (w'.heap[gb267]? = some (.cells (csBay a0_0 a0_1 a0_2) 28 (0, 0))) ∧ Aside0 (w'.heap[gb268]? = some (.cells #[.int .i8 a1_0, .int .i8 a1_1, .int .i8 a1_2, .int .i8 a1_3, .int .i8 a1_4, .int .i8 a1_5] 38 (0, 0))) ∧ Aside0 (Below w.heap.size w w'))
    case atStart => exact ⟨(0), (t271), vv, vv, H', ⟨Nat.le_refl _⟩, ⟨kb BK267⟩, ⟨kb BK268⟩, ⟨be HB⟩⟩
    case round =>
     clear H'
     try clear c1
     try clear c2
     try clear p2
     try clear c3
     try clear c8
     try clear c10
     try clear c14
     try clear c15
     try clear c19
     try clear hcz11_0
     try clear hcz11_1
     try clear hcz12_0
     try clear hcz12_1
     try clear hcz12_2
     try clear hcz12_3
     try clear hcz12_4
     try clear hcz12_5
     try clear hcz16_0
     try clear hcz16_1
     try clear hcz17_0
     try clear hcz17_1
     try clear hcz17_2
     try clear hcz17_3
     try clear hcz17_4
     try clear hcz17_5
     try clear hfz11_0
     try clear hfz11_1
     try clear hfz11_2
     try clear hfz12_0
     try clear hfz12_1
     try clear hfz12_2
     try clear hfz12_3
     try clear hfz12_4
     try clear hfz12_5
     try clear hfz16_0
     try clear hfz16_1
     try clear hfz16_2
     try clear hfz17_0
     try clear hfz17_1
     try clear hfz17_2
     try clear hfz17_3
     try clear hfz17_4
     try clear hfz17_5
     try clear p2
     obtain ⟨x8_2, x11_2, rfl, rfl, HA, HK2, BK267, BK268, HB⟩ := hrel
     cases gk with
     | zero => exact absurd HA.out (by simp [impl_DryMinutes.l0])
     | succ k2 =>
      have H := HA.out
      clear HA
      simp only [impl_DryMinutes.l0] at H
      by_cases c21 : x11_2 ≤ t272
      ·rw [if_pos c21] at H
       have c21b0 : decide (x11_2 ≤ t272) = true := decide_eq_true c21
       clear c21
       replace H := Option.bind_eq_some_iff.mp H
       obtain ⟨t273, A220, H⟩ := H
       try dsimp only at H
       have A22 := am A220
       clear A220
       replace H := Option.bind_eq_some_iff.mp H
       obtain ⟨t274, A230, H⟩ := H
       try dsimp only at H
       have A23 := am A230
       clear A230
       by_cases c24 : t274 = true
       ·subst c24
        rw [if_pos rfl] at H
        have H' := am H
        clear H
        try go_wp2
        have n0_ := am (blk_drew BK267.out)
        have n1_ := am (blk_drew BK268.out)
        have n2_ := am (below_drew1 HB.out)
        clear BK267
        clear BK268
        clear HB
        have BK267 := n0_
        have BK268 := n1_
        have HB := n2_
        clear n0_ n1_ n2_
        refine start_ (n := 7) (S := fun w' => w'.cell? ⟨gb267, 0, none⟩ = some (.int .i8 a0_0) ∧ w'.cell? ⟨gb267, 1, none⟩ = some (.int .i8 a0_1) ∧ atCells w' gb267 a0_2 ∧ BayAt28 w' gb267 ∧ lvv w' gb267 = .agg (csBay a0_0 a0_1 a0_2) ∧ w'.cell? ⟨gb268, 0, none⟩ = some (.int .i8 a1_0) ∧ w'.cell? ⟨gb268, 1, none⟩ = some (.int .i8 a1_1) ∧ w'.cell? ⟨gb268, 2, none⟩ = some (.int .i8 a1_2) ∧ w'.cell? ⟨gb268, 3, none⟩ = some (.int .i8 a1_3) ∧ w'.cell? ⟨gb268, 4, none⟩ = some (.int .i8 a1_4) ∧ w'.cell? ⟨gb268, 5, none⟩ = some (.int .i8 a1_5)) (ds := []) #[false, false, false, false, false, false, false] (by kernel_rfl) rfl rfl ⟨(blk_cell BK267.out 0).trans rfl, (blk_cell BK267.out 1).trans rfl, at_cells BK267.out, BayAt28_of BK267.out, lvv_of BK267.out, (blk_cell BK268.out 0).trans rfl, (blk_cell BK268.out 1).trans rfl, (blk_cell BK268.out 2).trans rfl, (blk_cell BK268.out 3).trans rfl, (blk_cell BK268.out 4).trans rfl, (blk_cell BK268.out 5).trans rfl⟩ (fun hHeld => ?_)
        generalize wr.drew = w25 at BK267 BK268 HB hHeld ⊢
        refine pure_ (i := 2) (N := some 34) (v := ?_) (a' := ?_) #[false, false, true, false, false, false, false] rfl rfl (by kernel_rfl) (fun _ _ _ h => h) (Or.inl ⟨by rfl, ?_⟩) ?_ ?_
        rotate_left
        ·intro w'
         go_simp
         with_reducible rfl
        rotate_left
        ·simp only [Act.put, List.setIfInBounds_toArray, List.set_cons_zero, List.set_cons_succ, i64_w, i32_w]
         rfl
        refine pure_ (i := 3) (N := some 35) (v := ?_) (a' := ?_) #[false, false, true, true, false, false, false] rfl rfl (by kernel_rfl) (fun _ _ _ h => h) (Or.inl ⟨by rfl, ?_⟩) ?_ ?_
        rotate_left
        ·intro w'
         go_simp
         with_reducible rfl
        rotate_left
        ·simp only [Act.put, List.setIfInBounds_toArray, List.set_cons_zero, List.set_cons_succ, i64_w, i32_w]
         rfl
        refine take_ (i := 0) (N := some 32) (v := ?_) (a' := ?_) #[true, false, true, true, false, false, false] rfl rfl (by kernel_rfl) (fun _ _ _ h => h) (Or.inl ⟨by rfl, ?_⟩) hHeld ?_ ?_
        rotate_left
        ·rintro w' ⟨s0, s1, s2, s3, s4, s5, s6, s7, s8, s9, s10⟩
         go_simp
         with_reducible rfl
        rotate_left
        ·simp only [Act.put, List.setIfInBounds_toArray, List.set_cons_zero, List.set_cons_succ, i64_w, i32_w]
         rfl
        refine take_ (i := 1) (N := some 33) (v := ?_) (a' := ?_) #[true, true, true, true, false, false, false] rfl rfl (by kernel_rfl) (fun _ _ _ h => h) (Or.inl ⟨by rfl, ?_⟩) hHeld ?_ ?_
        rotate_left
        ·rintro w' ⟨s0, s1, s2, s3, s4, s5, s6, s7, s8, s9, s10⟩
         go_simp
         with_reducible rfl
        rotate_left
        ·simp only [Act.put, List.setIfInBounds_toArray, List.set_cons_zero, List.set_cons_succ, i64_w, i32_w]
         rfl
        refine one_ (i := 4) (N := some 36) #[true, true, true, true, true, false, false] rfl rfl (by kernel_rfl) (by decide) (fun K hK => ?_)
        refine goes_ Try.func151 (by kernel_rfl) rfl #[.slice A2 l2.length c2, .int .i64 x11_2] (by rfl) rfl rfl (by (try simp only [List.map_toArray, List.map_cons, List.map_nil]); first | done | rfl | (simp only [List.length_drop, List.length_take]; rfl)) ?_
        with_reducible refine (impl_height.calls k2 _ _ l2 x11_2 t273 _ ?side1 ?side2 A22.out).mono ?_
        (case side1 => repeat (first | exact (Kd.C_below HR2.out HB.out) | (with_reducible refine Kd.C_alloc ?_ _) | (with_reducible refine Kd.C_drewN ?_ _) | (with_reducible refine Kd.C_drew ?_)))
        (case side2 => exact HC2.out)
        rintro e w26 ⟨rfl, hb⟩
        refine ⟨_, rfl, ?_⟩
        have n0_ := bB BK267 hb
        have n1_ := bB BK268 hb
        have n2_ := am (below_step (be HB) hb)
        clear BK267
        clear BK268
        clear HB
        have BK267 := n0_
        have BK268 := n1_
        have HB := n2_
        clear n0_ n1_ n2_
        (try clear hb)
        (try clear hb2)
        (try clear hk)
        (try clear hi)
        refine hK.out _ _ ⟨(blk_cell BK267.out 0).trans rfl, (blk_cell BK267.out 1).trans rfl, at_cells BK267.out, BayAt28_of BK267.out, lvv_of BK267.out, (blk_cell BK268.out 0).trans rfl, (blk_cell BK268.out 1).trans rfl, (blk_cell BK268.out 2).trans rfl, (blk_cell BK268.out 3).trans rfl, (blk_cell BK268.out 4).trans rfl, (blk_cell BK268.out 5).trans rfl⟩ (fun hHeld => ?_)
        clear hK K
        refine norm_ (a' := ?_) ?_ ?_
        rotate_left
        ·show Act.put _ (some 36) _ = _
         simp only [Act.put, List.setIfInBounds_toArray, List.set_cons_zero, List.set_cons_succ, i64_w, i32_w]
         rfl
        refine one_ (i := 5) (N := some 37) #[true, true, true, true, true, true, false] rfl rfl (by kernel_rfl) (by decide) (fun K hK => ?_)
        refine goes_ Try.func150 (by kernel_rfl) rfl #[.agg (csBay a0_0 a0_1 a0_2), .agg #[.int .i8 a1_0, .int .i8 a1_1, .int .i8 a1_2, .int .i8 a1_3, .int .i8 a1_4, .int .i8 a1_5], .int .i64 t273] (by rfl) rfl rfl (by (try simp only [List.map_toArray, List.map_cons, List.map_nil]); first | done | rfl | (simp only [List.length_drop, List.length_take]; rfl)) ?_
        with_reducible refine (impl_afloat.calls a0_0 a0_1 a0_2 a1_0 a1_1 a1_2 a1_3 a1_4 a1_5 t273 true _ A23.out).mono ?_
        rintro e w27 ⟨rfl, hb⟩
        refine ⟨_, rfl, ?_⟩
        have n0_ := bB BK267 hb
        have n1_ := bB BK268 hb
        have n2_ := am (below_step (be HB) hb)
        clear BK267
        clear BK268
        clear HB
        have BK267 := n0_
        have BK268 := n1_
        have HB := n2_
        clear n0_ n1_ n2_
        (try clear hb)
        (try clear hb2)
        (try clear hk)
        (try clear hi)
        refine hK.out _ _ ⟨(blk_cell BK267.out 0).trans rfl, (blk_cell BK267.out 1).trans rfl, at_cells BK267.out, BayAt28_of BK267.out, lvv_of BK267.out, (blk_cell BK268.out 0).trans rfl, (blk_cell BK268.out 1).trans rfl, (blk_cell BK268.out 2).trans rfl, (blk_cell BK268.out 3).trans rfl, (blk_cell BK268.out 4).trans rfl, (blk_cell BK268.out 5).trans rfl⟩ (fun hHeld => ?_)
        clear hK K
        refine norm_ (a' := ?_) ?_ ?_
        rotate_left
        ·show Act.put _ (some 37) _ = _
         simp only [Act.put, List.setIfInBounds_toArray, List.set_cons_zero, List.set_cons_succ, i64_w, i32_w]
         rfl
        refine pure_ (i := 6) (N := some 38) (v := ?_) (a' := ?_) #[true, true, true, true, true, true, true] rfl rfl (by kernel_rfl) (fun _ _ _ h => h) (Or.inl ⟨by rfl, ?_⟩) ?_ ?_
        rotate_left
        ·intro w'
         go_simp
         with_reducible rfl
        rotate_left
        ·simp only [Act.put, List.setIfInBounds_toArray, List.set_cons_zero, List.set_cons_succ, i64_w, i32_w]
         rfl
        refine done_ (by kernel_rfl) ?_
        try go_wp2
        go_roundg k2
        case measure => have := HJ3.out; have := HK2.out; omega
        case rel => exact ⟨(x8_2), (wrap64 (x11_2 + 1)), vv, vv, H', ⟨by have := HJ3.out; have := HK2.out; omega⟩, ⟨kb BK267⟩, ⟨kb BK268⟩, ⟨be HB⟩⟩
       ·replace c24 := Bool.eq_false_iff.mpr c24
        subst c24
        have H1 : (impl_DryMinutes.l0 k2 l2 (wrap64 (x8_2 + 1)) t272 (wrap64 (x11_2 + 1)) a0_0 a0_1 a0_2 a1_0 a1_1 a1_2 a1_3 a1_4 a1_5) = some (r1, r2) := by rw [if_neg (show ¬ (false = true) by decide)] at H; exact H
        clear H
        have H := H1
        clear H1
        have H' := am H
        clear H
        try go_wp2
        have n0_ := am (blk_drew BK267.out)
        have n1_ := am (blk_drew BK268.out)
        have n2_ := am (below_drew1 HB.out)
        clear BK267
        clear BK268
        clear HB
        have BK267 := n0_
        have BK268 := n1_
        have HB := n2_
        clear n0_ n1_ n2_
        refine start_ (n := 7) (S := fun w' => w'.cell? ⟨gb267, 0, none⟩ = some (.int .i8 a0_0) ∧ w'.cell? ⟨gb267, 1, none⟩ = some (.int .i8 a0_1) ∧ atCells w' gb267 a0_2 ∧ BayAt28 w' gb267 ∧ lvv w' gb267 = .agg (csBay a0_0 a0_1 a0_2) ∧ w'.cell? ⟨gb268, 0, none⟩ = some (.int .i8 a1_0) ∧ w'.cell? ⟨gb268, 1, none⟩ = some (.int .i8 a1_1) ∧ w'.cell? ⟨gb268, 2, none⟩ = some (.int .i8 a1_2) ∧ w'.cell? ⟨gb268, 3, none⟩ = some (.int .i8 a1_3) ∧ w'.cell? ⟨gb268, 4, none⟩ = some (.int .i8 a1_4) ∧ w'.cell? ⟨gb268, 5, none⟩ = some (.int .i8 a1_5)) (ds := []) #[false, false, false, false, false, false, false] (by kernel_rfl) rfl rfl ⟨(blk_cell BK267.out 0).trans rfl, (blk_cell BK267.out 1).trans rfl, at_cells BK267.out, BayAt28_of BK267.out, lvv_of BK267.out, (blk_cell BK268.out 0).trans rfl, (blk_cell BK268.out 1).trans rfl, (blk_cell BK268.out 2).trans rfl, (blk_cell BK268.out 3).trans rfl, (blk_cell BK268.out 4).trans rfl, (blk_cell BK268.out 5).trans rfl⟩ (fun hHeld => ?_)
        generalize wr.drew = w28 at BK267 BK268 HB hHeld ⊢
        refine pure_ (i := 2) (N := some 34) (v := ?_) (a' := ?_) #[false, false, true, false, false, false, false] rfl rfl (by kernel_rfl) (fun _ _ _ h => h) (Or.inl ⟨by rfl, ?_⟩) ?_ ?_
        rotate_left
        ·intro w'
         go_simp
         with_reducible rfl
        rotate_left
        ·simp only [Act.put, List.setIfInBounds_toArray, List.set_cons_zero, List.set_cons_succ, i64_w, i32_w]
         rfl
        refine pure_ (i := 3) (N := some 35) (v := ?_) (a' := ?_) #[false, false, true, true, false, false, false] rfl rfl (by kernel_rfl) (fun _ _ _ h => h) (Or.inl ⟨by rfl, ?_⟩) ?_ ?_
        rotate_left
        ·intro w'
         go_simp
         with_reducible rfl
        rotate_left
        ·simp only [Act.put, List.setIfInBounds_toArray, List.set_cons_zero, List.set_cons_succ, i64_w, i32_w]
         rfl
        refine take_ (i := 0) (N := some 32) (v := ?_) (a' := ?_) #[true, false, true, true, false, false, false] rfl rfl (by kernel_rfl) (fun _ _ _ h => h) (Or.inl ⟨by rfl, ?_⟩) hHeld ?_ ?_
        rotate_left
        ·rintro w' ⟨s0, s1, s2, s3, s4, s5, s6, s7, s8, s9, s10⟩
         go_simp
         with_reducible rfl
        rotate_left
        ·simp only [Act.put, List.setIfInBounds_toArray, List.set_cons_zero, List.set_cons_succ, i64_w, i32_w]
         rfl
        refine take_ (i := 1) (N := some 33) (v := ?_) (a' := ?_) #[true, true, true, true, false, false, false] rfl rfl (by kernel_rfl) (fun _ _ _ h => h) (Or.inl ⟨by rfl, ?_⟩) hHeld ?_ ?_
        rotate_left
        ·rintro w' ⟨s0, s1, s2, s3, s4, s5, s6, s7, s8, s9, s10⟩
         go_simp
         with_reducible rfl
        rotate_left
        ·simp only [Act.put, List.setIfInBounds_toArray, List.set_cons_zero, List.set_cons_succ, i64_w, i32_w]
         rfl
        refine one_ (i := 4) (N := some 36) #[true, true, true, true, true, false, false] rfl rfl (by kernel_rfl) (by decide) (fun K hK => ?_)
        refine goes_ Try.func151 (by kernel_rfl) rfl #[.slice A2 l2.length c2, .int .i64 x11_2] (by rfl) rfl rfl (by (try simp only [List.map_toArray, List.map_cons, List.map_nil]); first | done | rfl | (simp only [List.length_drop, List.length_take]; rfl)) ?_
        with_reducible refine (impl_height.calls k2 _ _ l2 x11_2 t273 _ ?side1 ?side2 A22.out).mono ?_
        (case side1 => repeat (first | exact (Kd.C_below HR2.out HB.out) | (with_reducible refine Kd.C_alloc ?_ _) | (with_reducible refine Kd.C_drewN ?_ _) | (with_reducible refine Kd.C_drew ?_)))
        (case side2 => exact HC2.out)
        rintro e w29 ⟨rfl, hb⟩
        refine ⟨_, rfl, ?_⟩
        have n0_ := bB BK267 hb
        have n1_ := bB BK268 hb
        have n2_ := am (below_step (be HB) hb)
        clear BK267
        clear BK268
        clear HB
        have BK267 := n0_
        have BK268 := n1_
        have HB := n2_
        clear n0_ n1_ n2_
        (try clear hb)
        (try clear hb2)
        (try clear hk)
        (try clear hi)
        refine hK.out _ _ ⟨(blk_cell BK267.out 0).trans rfl, (blk_cell BK267.out 1).trans rfl, at_cells BK267.out, BayAt28_of BK267.out, lvv_of BK267.out, (blk_cell BK268.out 0).trans rfl, (blk_cell BK268.out 1).trans rfl, (blk_cell BK268.out 2).trans rfl, (blk_cell BK268.out 3).trans rfl, (blk_cell BK268.out 4).trans rfl, (blk_cell BK268.out 5).trans rfl⟩ (fun hHeld => ?_)
        clear hK K
        refine norm_ (a' := ?_) ?_ ?_
        rotate_left
        ·show Act.put _ (some 36) _ = _
         simp only [Act.put, List.setIfInBounds_toArray, List.set_cons_zero, List.set_cons_succ, i64_w, i32_w]
         rfl
        refine one_ (i := 5) (N := some 37) #[true, true, true, true, true, true, false] rfl rfl (by kernel_rfl) (by decide) (fun K hK => ?_)
        refine goes_ Try.func150 (by kernel_rfl) rfl #[.agg (csBay a0_0 a0_1 a0_2), .agg #[.int .i8 a1_0, .int .i8 a1_1, .int .i8 a1_2, .int .i8 a1_3, .int .i8 a1_4, .int .i8 a1_5], .int .i64 t273] (by rfl) rfl rfl (by (try simp only [List.map_toArray, List.map_cons, List.map_nil]); first | done | rfl | (simp only [List.length_drop, List.length_take]; rfl)) ?_
        with_reducible refine (impl_afloat.calls a0_0 a0_1 a0_2 a1_0 a1_1 a1_2 a1_3 a1_4 a1_5 t273 false _ A23.out).mono ?_
        rintro e w30 ⟨rfl, hb⟩
        refine ⟨_, rfl, ?_⟩
        have n0_ := bB BK267 hb
        have n1_ := bB BK268 hb
        have n2_ := am (below_step (be HB) hb)
        clear BK267
        clear BK268
        clear HB
        have BK267 := n0_
        have BK268 := n1_
        have HB := n2_
        clear n0_ n1_ n2_
        (try clear hb)
        (try clear hb2)
        (try clear hk)
        (try clear hi)
        refine hK.out _ _ ⟨(blk_cell BK267.out 0).trans rfl, (blk_cell BK267.out 1).trans rfl, at_cells BK267.out, BayAt28_of BK267.out, lvv_of BK267.out, (blk_cell BK268.out 0).trans rfl, (blk_cell BK268.out 1).trans rfl, (blk_cell BK268.out 2).trans rfl, (blk_cell BK268.out 3).trans rfl, (blk_cell BK268.out 4).trans rfl, (blk_cell BK268.out 5).trans rfl⟩ (fun hHeld => ?_)
        clear hK K
        refine norm_ (a' := ?_) ?_ ?_
        rotate_left
        ·show Act.put _ (some 37) _ = _
         simp only [Act.put, List.setIfInBounds_toArray, List.set_cons_zero, List.set_cons_succ, i64_w, i32_w]
         rfl
        refine pure_ (i := 6) (N := some 38) (v := ?_) (a' := ?_) #[true, true, true, true, true, true, true] rfl rfl (by kernel_rfl) (fun _ _ _ h => h) (Or.inl ⟨by rfl, ?_⟩) ?_ ?_
        rotate_left
        ·intro w'
         go_simp
         with_reducible rfl
        rotate_left
        ·simp only [Act.put, List.setIfInBounds_toArray, List.set_cons_zero, List.set_cons_succ, i64_w, i32_w]
         rfl
        refine done_ (by kernel_rfl) ?_
        try go_wp2
        go_roundg k2
        case measure => have := HJ3.out; have := HK2.out; omega
        case rel => exact ⟨(wrap64 (x8_2 + 1)), (wrap64 (x11_2 + 1)), vv, vv, H', ⟨by have := HJ3.out; have := HK2.out; omega⟩, ⟨kb BK267⟩, ⟨kb BK268⟩, ⟨be HB⟩⟩
      ·rw [if_neg c21] at H
       have c21b0 : decide (x11_2 ≤ t272) = false := decide_eq_false c21
       clear c21
       simp only [Option.some.injEq, Prod.mk.injEq] at H
       obtain ⟨rfl, rfl⟩ := H
       go_wp2
       go_ret2
       exact ⟨by first | rfl | (simp [errW_none, errW_some] <;> rfl) | (simp [*, errW_none, errW_some] <;> rfl), be HB⟩

/-! ### laws_eqWater: function 152 -/
def laws_eqWater.f (a0_0 : Int) (a0_1 : Int) (a1_0 : Int) (a1_1 : Int) : Option (Bool) := if a0_0 = a1_0 then (if a0_1 = a1_1 then (some true) else (some false)) else (some false)
set_option maxHeartbeats 8000000 in
set_option maxRecDepth 100000 in
theorem laws_eqWater.calls (a0_0 : Int) (a0_1 : Int) (a1_0 : Int) (a1_1 : Int) (r : Bool) (w : World) (h : laws_eqWater.f a0_0 a0_1 a1_0 a1_1 = some r) :
  Calls Try.prog 152 #[.agg #[.int .i16 a0_0, .int .i8 a0_1], .agg #[.int .i16 a1_0, .int .i8 a1_1]] w fun e w' => e = .returned (.bool r) ∧ Below w.heap.size w w' := by
 have hu103 := Try.underlying103
 have HB := am (Below.refl w.heap.size w)
 have H : (if a0_0 = a1_0 then (if a0_1 = a1_1 then (some true) else (some false)) else (some false)) = some r := h
 clear h
 by_cases c3 : a0_0 = a1_0
 ·rw [if_pos c3] at H
  have c3b0 : (a0_0 == a1_0) = true := beq_iff_eq.mpr c3
  have c3b1 : (a0_0 != a1_0) = false := bne_eq_false_iff_eq.mpr c3
  clear c3
  by_cases c4 : a0_1 = a1_1
  ·rw [if_pos c4] at H
   have c4b0 : (a0_1 == a1_1) = true := beq_iff_eq.mpr c4
   have c4b1 : (a0_1 != a1_1) = false := bne_eq_false_iff_eq.mpr c4
   clear c4
   obtain rfl := Option.some.inj H
   go_enter Try.func152, Try.ntmps152
   go_wp2_with (first | ((with_reducible refine gate_dst (N := 2) rfl ?_); refine bxe (N := 2) (cs := #[.int .i16 a0_0, .int .i8 a0_1]) (t := 103) ?_; intro gb275 hg w5 hbox hb; have BK275 := am (hbox); have GW275 := am (gN hg (below_size (be HB))); have GE275 := am (gN hg (below_size (be HB))); replace HB := am (below_step (be HB) hb); clear hb hbox hg) | ((with_reducible refine gate_dst (N := 3) rfl ?_); refine bxe (N := 3) (cs := #[.int .i16 a1_0, .int .i8 a1_1]) (t := 103) ?_; intro gb276 hg w6 hbox hb; have BK276 := am (hbox); have GW276 := am (gN hg (below_size (be HB))); have GE276 := am (gN hg (below_size (be HB))); have NB275_276 := nL BK275 hg; have NB276_275 := nR BK275 hg; replace BK275 := bB BK275 hb; replace HB := am (below_step (be HB) hb); clear hb hbox hg; have hnb7 := NB275_276.out; have hnc7 := NB276_275.out; obtain ⟨hcz8_0, hcz8_1, hfz8_0, hfz8_1⟩ := bx2 BK275; obtain ⟨hcz9_0, hcz9_1, hfz9_0, hfz9_1⟩ := bx2 BK276))
   go_ret
   exact ⟨by first | rfl | (simp [errW_none, errW_some] <;> rfl) | (simp [*, errW_none, errW_some] <;> rfl), be HB⟩
  ·rw [if_neg c4] at H
   have c4b0 : (a0_1 == a1_1) = false := beq_eq_false_iff_ne.mpr c4
   have c4b1 : (a0_1 != a1_1) = true := bne_iff_ne.mpr c4
   obtain rfl := Option.some.inj H
   go_enter Try.func152, Try.ntmps152
   go_wp2_with (first | ((with_reducible refine gate_dst (N := 2) rfl ?_); refine bxe (N := 2) (cs := #[.int .i16 a0_0, .int .i8 a0_1]) (t := 103) ?_; intro gb275 hg w10 hbox hb; have BK275 := am (hbox); have GW275 := am (gN hg (below_size (be HB))); have GE275 := am (gN hg (below_size (be HB))); replace HB := am (below_step (be HB) hb); clear hb hbox hg) | ((with_reducible refine gate_dst (N := 3) rfl ?_); refine bxe (N := 3) (cs := #[.int .i16 a1_0, .int .i8 a1_1]) (t := 103) ?_; intro gb276 hg w11 hbox hb; have BK276 := am (hbox); have GW276 := am (gN hg (below_size (be HB))); have GE276 := am (gN hg (below_size (be HB))); have NB275_276 := nL BK275 hg; have NB276_275 := nR BK275 hg; replace BK275 := bB BK275 hb; replace HB := am (below_step (be HB) hb); clear hb hbox hg; have hnb12 := NB275_276.out; have hnc12 := NB276_275.out; obtain ⟨hcz13_0, hcz13_1, hfz13_0, hfz13_1⟩ := bx2 BK275; obtain ⟨hcz14_0, hcz14_1, hfz14_0, hfz14_1⟩ := bx2 BK276))
   go_ret
   exact ⟨by first | rfl | (simp [errW_none, errW_some] <;> rfl) | (simp [*, errW_none, errW_some] <;> rfl), be HB⟩
 ·rw [if_neg c3] at H
  have c3b0 : (a0_0 == a1_0) = false := beq_eq_false_iff_ne.mpr c3
  have c3b1 : (a0_0 != a1_0) = true := bne_iff_ne.mpr c3
  obtain rfl := Option.some.inj H
  go_enter Try.func152, Try.ntmps152
  go_wp2_with (first | ((with_reducible refine gate_dst (N := 2) rfl ?_); refine bxe (N := 2) (cs := #[.int .i16 a0_0, .int .i8 a0_1]) (t := 103) ?_; intro gb275 hg w15 hbox hb; have BK275 := am (hbox); have GW275 := am (gN hg (below_size (be HB))); have GE275 := am (gN hg (below_size (be HB))); replace HB := am (below_step (be HB) hb); clear hb hbox hg) | ((with_reducible refine gate_dst (N := 3) rfl ?_); refine bxe (N := 3) (cs := #[.int .i16 a1_0, .int .i8 a1_1]) (t := 103) ?_; intro gb276 hg w16 hbox hb; have BK276 := am (hbox); have GW276 := am (gN hg (below_size (be HB))); have GE276 := am (gN hg (below_size (be HB))); have NB275_276 := nL BK275 hg; have NB276_275 := nR BK275 hg; replace BK275 := bB BK275 hb; replace HB := am (below_step (be HB) hb); clear hb hbox hg; have hnb17 := NB275_276.out; have hnc17 := NB276_275.out; obtain ⟨hcz18_0, hcz18_1, hfz18_0, hfz18_1⟩ := bx2 BK275; obtain ⟨hcz19_0, hcz19_1, hfz19_0, hfz19_1⟩ := bx2 BK276))
  go_ret
  exact ⟨by first | rfl | (simp [errW_none, errW_some] <;> rfl) | (simp [*, errW_none, errW_some] <;> rfl), be HB⟩

end Go.Proofs.Ytcollbifdfhfoaa.PFnExactDryMinutes
