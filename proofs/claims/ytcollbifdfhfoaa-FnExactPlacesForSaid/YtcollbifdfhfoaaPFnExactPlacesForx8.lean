-- Written by a program out of this seat's translation (functions, and that the code comes to them).
import Derived.Test.YtcollbifdfhfoaaPFnExactPlacesForx0
import Derived.Test.YtcollbifdfhfoaaPFnExactPlacesForx3
import Derived.Test.YtcollbifdfhfoaaPFnExactPlacesForx4
import Derived.Test.YtcollbifdfhfoaaPFnExactPlacesForx6
import Derived.Test.YtcollbifdfhfoaaPFnExactPlacesForx7
namespace Go.Proofs.Ytcollbifdfhfoaa.PFnExactPlacesFor
open Go.RowKit Go.Proofs.YtcollbifdfhfoaaW.PrintWords Go.Proofs.YtcollbifdfhfoaaW.PrintLast Go.Proofs.YtcollbifdfhfoaaW.PrintMore
attribute [local go_sem] max2_int min2_int max_two min_two max_three min_three max_four min_four   -- for this text's walks alone
open Go.Proofs.Ytcollbifdfhfoaa.Bay Go.Proofs.Ytcollbifdfhfoaa.Short
attribute [local go_sem ↓] lv26_eq lv28_eq
attribute [local go_sem] lvv_set lvv_drewN lvv_drew lv26_run BayAt26_set BayAt26_drewN BayAt26_drew lv28_run BayAt28_set BayAt28_drewN BayAt28_drew
set_option linter.unusedVariables false
set_option linter.unusedSimpArgs false

/-! ### spec_PlacesFor: function 71 -/
def spec_PlacesFor.l0 : Nat → List (S38) → List (S36) → List (S36) → Int → Int → Int → (Nat → Int) → Int → Int → Int → Int → Int → Int → Option ((List (S36)) × Int)
 | 0, _, _, _, _, _, _, _, _, _, _, _, _, _ => none
 | k + 1, x1, x8, x10, x11, x259000, x259001, x259002, x260000, x260001, x260002, x260003, x260004, x260005 => if x11 < (x10.length : Int) then (if 0 ≤ x11 then ((spec_l01Boat.f x259000 x259001 x259002 ((rd_T36 x10 x11).f0) ((rd_T36 x10 x11).f1) x260002 x260003 x260004 x260005).bind fun bt274 => (if bt274.1 = true then ((some (([] : List (S38)) : List (S38))).bind fun y278 => (if y278.length + x1.length < 23456248059221 then ((some (y278 ++ x1 : List (S38))).bind fun y281 => ((some (([(⟨(⟨(rd_T36 x10 x11).f0, (rd_T36 x10 x11).f1⟩ : S36), x260002, x260003, x260004, x260005⟩ : S38)] : List (S38)) : List (S38))).bind fun y284 => (if y281.length + y284.length < 23456248059221 then ((spec_l01Right.f k bt274.2.1 bt274.2.2.1 bt274.2.2.2 (y281 ++ y284)).bind fun bt290 => (if bt290.1 = true then ((some (([(⟨(rd_T36 x10 x11).f0, (rd_T36 x10 x11).f1⟩ : S36)] : List (S36)) : List (S36))).bind fun y295 => (if x8.length + y295.length < 70368744177664 then (spec_PlacesFor.l0 k x1 (x8 ++ y295) x10 (wrap64 (x11 + 1)) bt290.2.1 bt290.2.2.1 bt290.2.2.2 ((rd_T36 x10 x11).f0) ((rd_T36 x10 x11).f1) x260002 x260003 x260004 x260005) else (none))) else (spec_PlacesFor.l0 k x1 x8 x10 (wrap64 (x11 + 1)) bt290.2.1 bt290.2.2.1 bt290.2.2.2 ((rd_T36 x10 x11).f0) ((rd_T36 x10 x11).f1) x260002 x260003 x260004 x260005))) else (none)))) else (none))) else (spec_PlacesFor.l0 k x1 x8 x10 (wrap64 (x11 + 1)) bt274.2.1 bt274.2.2.1 bt274.2.2.2 ((rd_T36 x10 x11).f0) ((rd_T36 x10 x11).f1) x260002 x260003 x260004 x260005))) else (none)) else (some (x8, 0))
def spec_PlacesFor.f (k : Nat) (a0_0 : Int) (a0_1 : Int) (a0_2 : (Nat → Int)) (l1 : List (S38)) (a2_0 : Int) (a2_1 : Int) (a2_2 : Int) (a2_3 : Int) (a2_4 : Int) (a2_5 : Int) : Option ((List (S36)) × Int) := (some (([] : List (S36)) : List (S36))).bind fun y260 => ((spec_l01With.f k a0_0 a0_1 a0_2 l1 a2_0 a2_1 a2_2 a2_3 a2_4 a2_5).bind fun bt263 => (if bt263.1 = 0 then ((spec_l01All.f k bt263.2.1 bt263.2.2.1 bt263.2.2.2).bind fun bt267 => (spec_PlacesFor.l0 k l1 y260 bt267.1 0 bt267.2.1 bt267.2.2.1 bt267.2.2.2 a2_0 a2_1 a2_2 a2_3 a2_4 a2_5)) else (some (y260, bt263.1))))
def spec_PlacesFor.T10 : Bool × List (List Nat × List Nat) := (true, [([], []), ([0], [0]), ([1, 1], [1]), ([2], [2]), ([2], [2]), ([3, 4, 2, 2], [2, 3, 4]), ([2], [2]), ([6, 2], [2, 6]), ([5, 7, 5, 2], [2, 5, 7]), ([8, 8, 2], [2, 8]), ([2, 9], [2, 9])])
def spec_PlacesFor.B10 : List Nat := [0, 1, 3, 7, 7, 31, 7, 71, 255, 511, 1023]
theorem spec_PlacesFor.tab10 : rtab .any (opsOf Try.f71 10) = spec_PlacesFor.T10 := by kernel_rfl
theorem spec_PlacesFor.bits10 : waitsOk spec_PlacesFor.T10.2 spec_PlacesFor.B10 = true := by kernel_rfl
set_option maxHeartbeats 8000000 in
set_option maxRecDepth 100000 in
theorem spec_PlacesFor.calls (k : Nat) (a0_0 : Int) (a0_1 : Int) (a0_2 : (Nat → Int)) (A1 : Option Addr) (c1 : Nat) (l1 : List (S38)) (a2_0 : Int) (a2_1 : Int) (a2_2 : Int) (a2_3 : Int) (a2_4 : Int) (a2_5 : Int) (r1 : List (S36)) (r2 : Int) (w : World) (hr1 : Kd.C k38 w A1 l1.length l1) (hc1 : l1.length ≤ c1) (h : spec_PlacesFor.f k a0_0 a0_1 a0_2 l1 a2_0 a2_1 a2_2 a2_3 a2_4 a2_5 = some (r1, r2)) :
  Calls Try.prog 71 #[.agg (csBay a0_0 a0_1 a0_2), .slice A1 l1.length c1, .agg #[.int .i8 a2_0, .int .i8 a2_1, .int .i8 a2_2, .int .i8 a2_3, .int .i8 a2_4, .int .i8 a2_5]] w fun e w' => ∃ v0_ : Value, e = .returned (.tuple #[v0_, .int .i64 r2]) ∧ Kd.R k36 36 w' w.heap.size (fun _ => True) v0_ r1 ∧ Below w.heap.size w w' := by
 have hu28 := Try.underlying28
 have hu38 := Try.underlying38
 have hu36 := Try.underlying36
 have HR1 := am hr1
 have HC1 := am hc1
 clear hr1 hc1
 have HB := am (Below.refl w.heap.size w)
 have H : ((some (([] : List (S36)) : List (S36))).bind fun y260 => ((spec_l01With.f k a0_0 a0_1 a0_2 l1 a2_0 a2_1 a2_2 a2_3 a2_4 a2_5).bind fun bt263 => (if bt263.1 = 0 then ((spec_l01All.f k bt263.2.1 bt263.2.2.1 bt263.2.2.2).bind fun bt267 => (spec_PlacesFor.l0 k l1 y260 bt267.1 0 bt267.2.1 bt267.2.2.1 bt267.2.2.2 a2_0 a2_1 a2_2 a2_3 a2_4 a2_5)) else (some (y260, bt263.1))))) = some (r1, r2) := h
 clear h
 obtain ⟨y260, hy260⟩ : ∃ y_ : List (S36), y_ = (([] : List (S36))) := ⟨_, rfl⟩
 replace H : ((spec_l01With.f k a0_0 a0_1 a0_2 l1 a2_0 a2_1 a2_2 a2_3 a2_4 a2_5).bind fun bt263 => (if bt263.1 = 0 then ((spec_l01All.f k bt263.2.1 bt263.2.2.1 bt263.2.2.2).bind fun bt267 => (spec_PlacesFor.l0 k l1 y260 bt267.1 0 bt267.2.1 bt267.2.2.1 bt267.2.2.2 a2_0 a2_1 a2_2 a2_3 a2_4 a2_5)) else (some (y260, bt263.1)))) = some (r1, r2) := by first | (rw [hy260]; with_reducible exact H) | (have H2_ := (Option.bind_some _ _).symm.trans H; rw [hy260]; with_reducible exact H2_) | (have H2_ := (Option.bind_some _ _).symm.trans H; with_reducible exact H2_) | with_reducible exact H | (rw [hy260]; exact H) | exact H
 have Ny260 := am hy260
 clear hy260
 replace H := Option.bind_eq_some_iff.mp H
 obtain ⟨⟨t263, t264, t265, t266⟩, A40, H⟩ := H
 try dsimp only at H
 have A4 := am A40
 clear A40
 by_cases c5 : t263 = 0
 ·rw [if_pos c5] at H
  have c5b0 : (t263 == 0) = true := beq_iff_eq.mpr c5
  have c5b1 : (t263 != 0) = false := bne_eq_false_iff_eq.mpr c5
  clear c5
  replace H := Option.bind_eq_some_iff.mp H
  obtain ⟨⟨t267, t270, t271, t272⟩, A60, H⟩ := H
  try dsimp only at H
  have A6 := am A60
  clear A60
  have H' := am H
  clear H
  go_enter Try.func71, Try.ntmps71
  go_wp2_with (first | ((with_reducible refine gate_dst (N := 3) rfl ?_); (try (refine gate_guard (by rfl) ?_; dsimp only)); refine bxe (N := 3) (cs := (csBay a0_0 a0_1 a0_2)) (t := 28) ?_; intro gb258 hg w7 hbox hb; have HI258 := am ((show IsS28 w w7 gb258 a0_0 a0_1 a0_2 from ⟨hbox, by rw [hg]; exact (below_size (be HB))⟩)); have GW258 := am (gN hg (below_size (be HB))); have GE258 := am (gN hg (below_size (be HB))); replace HB := am (below_step (be HB) hb); clear hb hbox hg) | ((with_reducible refine gate_dst (N := 5) rfl ?_); (try (refine gate_guard (by rfl) ?_; dsimp only)); refine bxe (N := 5) (cs := #[.int .i8 a2_0, .int .i8 a2_1, .int .i8 a2_2, .int .i8 a2_3, .int .i8 a2_4, .int .i8 a2_5]) (t := 38) ?_; intro gb259 hg w8 hbox hb; have BK259 := am (hbox); have GW259 := am (gN hg (below_size (be HB))); have GE259 := am (gN hg (below_size (be HB))); have NB258_259 := am (nLi hg (IsS28.lt (show IsS28 w _ gb258 a0_0 a0_1 a0_2 from si28 HI258))); have NB259_258 := am (nRi hg (IsS28.lt (show IsS28 w _ gb258 a0_0 a0_1 a0_2 from si28 HI258))); replace HI258 := am (IsS28.below (si28 HI258) hb); replace HB := am (below_step (be HB) hb); clear hb hbox hg) | ((with_reducible refine gate_dst (N := 12) rfl ?_); (try (refine gate_guard (by rfl) ?_; dsimp only)); refine Kd.R_lit k36 _ 36 ?hg (N := 12) ?hd (xs := ([] : List (S36))) (inner := []) (ok := fun _ => True) (okp := fun _ => True) ?hr ?hp (fun _ hk => hk) trivial (Below.refl _ _) (Nat.le_refl _) (by simp) ?_; (case hd => rfl); (case hg => rfl); (case hr => first | (go_simp; done) | (go_simp; rfl)); (case hp => exact (Reps.none _ _)); intro v261 w9 ho10 hb hg_ hnew_; clear hg_ hnew_; (first | rw [← Ny260.out] at ho10 | (simp only [Int.reduceToNat] at ho10; rw [← Ny260.out] at ho10)); have HO262 := am (Kd.R_lower ho10 (below_size (be HB))); replace HI258 := am (IsS28.below (si28 HI258) hb); replace BK259 := bB BK259 hb; replace HB := am (below_step (be HB) hb); clear hb ho10; have hnb11 := NB259_258.out; have hnc11 := NB258_259.out; obtain ⟨hcz12_0, hcz12_1, hcz12_2, hcz12_3, hcz12_4, hcz12_5, hfz12_0, hfz12_1, hfz12_2, hfz12_3, hfz12_4, hfz12_5⟩ := bx6 BK259) | ((with_reducible refine gate_callee (f := 130) rfl ?_); refine gL (some 15) Try.func130 #[.pointer (some ⟨gb258, 0, none⟩), .slice A1 l1.length c1, .agg #[.int .i8 a2_0, .int .i8 a2_1, .int .i8 a2_2, .int .i8 a2_3, .int .i8 a2_4, .int .i8 a2_5]] ?_; (with_reducible refine (spec_l01With.calls k gb258 a0_0 a0_1 a0_2 _ _ l1 a2_0 a2_1 a2_2 a2_3 a2_4 a2_5 t263 t264 t265 t266 w _ ?side1 ?side2 ?side3 ?side4 A4.out).mono ?_); (case side1 => exact si28 HI258); (case side2 => exact be HB); (case side3 => exact Kd.C_foot_came k38_heap HR1.out (be HB) (IsS28.ge HI258.out)); (case side4 => exact HC1.out); rintro e w13 ⟨rfl, hi, hb, hk⟩; refine ⟨_, rfl, ?_⟩; replace BK259 := am (KeepBut.blk hk (g' := gb259) (o := .cells #[.int .i8 a2_0, .int .i8 a2_1, .int .i8 a2_2, .int .i8 a2_3, .int .i8 a2_4, .int .i8 a2_5] 38 (0, 0)) (kb BK259) NB259_258.out (by simp)); replace HO262 := am (Kd.R_mono (Kd.R_keep (IsS28.apart (show IsS28 w _ gb258 a0_0 a0_1 a0_2 from si28 HI258) (kr HO262) (by decide)) hk (fun _ h => h.2)) (fun _ h => h.1)); replace HB := am (hb); replace HI258 := am (hi); (try clear hb); (try clear hb2); (try clear hk); (try clear hi)) | ((with_reducible refine gate_callee (f := 109) rfl ?_); refine gL (some 20) Try.func109 #[.pointer (some ⟨gb258, 0, none⟩)] ?_; (with_reducible refine (spec_l01All.calls k gb258 t264 t265 t266 t267 t270 t271 t272 w _ ?side1 ?side2 A6.out).mono ?_); (case side1 => exact si28 HI258); (case side2 => exact be HB); rintro e w14 ⟨v268, rfl, ho0, hi, hb, hk⟩; refine ⟨_, rfl, ?_⟩; have HO269 := am (Kd.R_lower (Kd.R_new' ho0 (Kd.R_lt (kr HO262))) (below_size (be HB))); replace BK259 := am (KeepBut.blk hk (g' := gb259) (o := .cells #[.int .i8 a2_0, .int .i8 a2_1, .int .i8 a2_2, .int .i8 a2_3, .int .i8 a2_4, .int .i8 a2_5] 38 (0, 0)) (kb BK259) NB259_258.out (by simp)); replace HO262 := am (Kd.R_mono (Kd.R_told (Kd.R_oldK (IsS28.apart (show IsS28 w _ gb258 t264 t265 t266 from si28 HI258) (kr HO262) (by decide)) hk) (Kd.R_base ho0)) (fun _ h_ => h_.1)); replace HB := am (hb); replace HI258 := am (hi); (try clear hb); (try clear hb2); (try clear hk); (try clear hi); (try clear ho0)))
  go_loopg [8, 11] k (fun kq v8 v11 w' => ∃ (x8_1 : List (S36)) (x11_1 : Int) (x259000_1 : Int) (x259001_1 : Int) (x259002_1 : (Nat → Int)) (x260000_1 : Int) (x260001_1 : Int), v11 = .int .i64 x11_1 ∧ Aside0 (spec_PlacesFor.l0 kq l1 x8_1 t267 x11_1 x259000_1 x259001_1 x259002_1 x260000_1 x260001_1 a2_2 a2_3 a2_4 a2_5 = some (r1, r2)) ∧ Aside0 (kq ≤ k) ∧ Aside0 (Kd.R k36 36 w' w.heap.size (fun k_ => some k_ ≠ (v268 : Value).ownBlock) v8 x8_1) ∧ Aside0 (Kd.R k36 36 w' w.heap.size (fun k_ => some k_ ≠ (v8 : Value).ownBlock) v268 t267) ∧ Aside0 (w'.heap[gb259]? = some (.cells #[.int .i8 x260000_1, .int .i8 x260001_1, .int .i8 a2_2, .int .i8 a2_3, .int .i8 a2_4, .int .i8 a2_5] 38 (0, 0))) ∧ Aside0 (IsS28 w w' gb258 x259000_1 x259001_1 x259002_1) ∧ Aside0 (Below w.heap.size w w'))
  case atStart => exact ⟨(y260), (0), (t270), (t271), (t272), (a2_0), (a2_1), vv, H', ⟨Nat.le_refl _⟩, ⟨by (with_reducible repeat (first | apply Kd.R_alloc | apply Kd.R_drewN | apply Kd.R_drew)); exact Kd.R_mono HO262.out (fun _ hk => hk.2)⟩, ⟨by (with_reducible repeat (first | apply Kd.R_alloc | apply Kd.R_drewN | apply Kd.R_drew)); exact Kd.R_mono HO269.out (fun _ hk => hk.2)⟩, ⟨kb BK259⟩, ⟨si28 HI258⟩, ⟨be HB⟩⟩
  case round =>
   clear H'
   try clear c1
   try clear p2
   try clear c5
   try clear c5b0
   try clear c5b1
   try clear c7
   try clear c10
   try clear c11
   try clear c13
   try clear hcz12_0
   try clear hcz12_1
   try clear hcz12_2
   try clear hcz12_3
   try clear hcz12_4
   try clear hcz12_5
   try clear hfz12_0
   try clear hfz12_1
   try clear hfz12_2
   try clear hfz12_3
   try clear hfz12_4
   try clear hfz12_5
   obtain ⟨x8_1, x11_1, x259000_1, x259001_1, x259002_1, x260000_1, x260001_1, rfl, HA, HK1, HO_8, HO_10, BK259, HI258, HB⟩ := hrel
   cases gk with
   | zero => exact absurd HA.out (by simp [spec_PlacesFor.l0])
   | succ k1 =>
    have H := HA.out
    clear HA
    simp only [spec_PlacesFor.l0] at H
    by_cases c15 : x11_1 < (t267.length : Int)
    ·rw [if_pos c15] at H
     have c15b0 : decide (x11_1 < (t267.length : Int)) = true := decide_eq_true c15
     clear c15
     by_cases c16 : 0 ≤ x11_1
     ·rw [if_pos c16] at H
      have c16b0 : decide (0 ≤ x11_1) = true := decide_eq_true c16
      have c16b1 : 0 ≤ x11_1 := c16
      clear c16
      replace H := Option.bind_eq_some_iff.mp H
      obtain ⟨⟨t274, t275, t276, t277⟩, A170, H⟩ := H
      try dsimp only at H
      have A17 := am A170
      clear A170
      by_cases c18 : t274 = true
      ·subst c18
       rw [if_pos rfl] at H
       obtain ⟨y278, hy278⟩ : ∃ y_ : List (S38), y_ = (([] : List (S38))) := ⟨_, rfl⟩
       replace H : (if y278.length + l1.length < 23456248059221 then ((some (y278 ++ l1 : List (S38))).bind fun y281 => ((some (([(⟨(⟨(rd_T36 t267 x11_1).f0, (rd_T36 t267 x11_1).f1⟩ : S36), a2_2, a2_3, a2_4, a2_5⟩ : S38)] : List (S38)) : List (S38))).bind fun y284 => (if y281.length + y284.length < 23456248059221 then ((spec_l01Right.f k1 t275 t276 t277 (y281 ++ y284)).bind fun bt290 => (if bt290.1 = true then ((some (([(⟨(rd_T36 t267 x11_1).f0, (rd_T36 t267 x11_1).f1⟩ : S36)] : List (S36)) : List (S36))).bind fun y295 => (if x8_1.length + y295.length < 70368744177664 then (spec_PlacesFor.l0 k1 l1 (x8_1 ++ y295) t267 (wrap64 (x11_1 + 1)) bt290.2.1 bt290.2.2.1 bt290.2.2.2 ((rd_T36 t267 x11_1).f0) ((rd_T36 t267 x11_1).f1) a2_2 a2_3 a2_4 a2_5) else (none))) else (spec_PlacesFor.l0 k1 l1 x8_1 t267 (wrap64 (x11_1 + 1)) bt290.2.1 bt290.2.2.1 bt290.2.2.2 ((rd_T36 t267 x11_1).f0) ((rd_T36 t267 x11_1).f1) a2_2 a2_3 a2_4 a2_5))) else (none)))) else (none)) = some (r1, r2) := by first | (rw [hy278]; with_reducible exact H) | (have H2_ := (Option.bind_some _ _).symm.trans H; rw [hy278]; with_reducible exact H2_) | (have H2_ := (Option.bind_some _ _).symm.trans H; with_reducible exact H2_) | with_reducible exact H | (rw [hy278]; exact H) | exact H
       have Ny278 := am hy278
       clear hy278
       by_cases c19 : y278.length + l1.length < 23456248059221
       ·rw [if_pos c19] at H
        have LMc19 := am c19
        clear c19
        obtain ⟨y281, hy281⟩ : ∃ y_ : List (S38), y_ = (y278 ++ l1) := ⟨_, rfl⟩
        replace H : ((some (([(⟨(⟨(rd_T36 t267 x11_1).f0, (rd_T36 t267 x11_1).f1⟩ : S36), a2_2, a2_3, a2_4, a2_5⟩ : S38)] : List (S38)) : List (S38))).bind fun y284 => (if y281.length + y284.length < 23456248059221 then ((spec_l01Right.f k1 t275 t276 t277 (y281 ++ y284)).bind fun bt290 => (if bt290.1 = true then ((some (([(⟨(rd_T36 t267 x11_1).f0, (rd_T36 t267 x11_1).f1⟩ : S36)] : List (S36)) : List (S36))).bind fun y295 => (if x8_1.length + y295.length < 70368744177664 then (spec_PlacesFor.l0 k1 l1 (x8_1 ++ y295) t267 (wrap64 (x11_1 + 1)) bt290.2.1 bt290.2.2.1 bt290.2.2.2 ((rd_T36 t267 x11_1).f0) ((rd_T36 t267 x11_1).f1) a2_2 a2_3 a2_4 a2_5) else (none))) else (spec_PlacesFor.l0 k1 l1 x8_1 t267 (wrap64 (x11_1 + 1)) bt290.2.1 bt290.2.2.1 bt290.2.2.2 ((rd_T36 t267 x11_1).f0) ((rd_T36 t267 x11_1).f1) a2_2 a2_3 a2_4 a2_5))) else (none))) = some (r1, r2) := by first | (rw [hy281]; with_reducible exact H) | (have H2_ := (Option.bind_some _ _).symm.trans H; rw [hy281]; with_reducible exact H2_) | (have H2_ := (Option.bind_some _ _).symm.trans H; with_reducible exact H2_) | with_reducible exact H | (rw [hy281]; exact H) | exact H
        have Ny281 := am hy281
        clear hy281
        obtain ⟨y284, hy284⟩ : ∃ y_ : List (S38), y_ = (([(⟨(⟨(rd_T36 t267 x11_1).f0, (rd_T36 t267 x11_1).f1⟩ : S36), a2_2, a2_3, a2_4, a2_5⟩ : S38)] : List (S38))) := ⟨_, rfl⟩
        replace H : (if y281.length + y284.length < 23456248059221 then ((spec_l01Right.f k1 t275 t276 t277 (y281 ++ y284)).bind fun bt290 => (if bt290.1 = true then ((some (([(⟨(rd_T36 t267 x11_1).f0, (rd_T36 t267 x11_1).f1⟩ : S36)] : List (S36)) : List (S36))).bind fun y295 => (if x8_1.length + y295.length < 70368744177664 then (spec_PlacesFor.l0 k1 l1 (x8_1 ++ y295) t267 (wrap64 (x11_1 + 1)) bt290.2.1 bt290.2.2.1 bt290.2.2.2 ((rd_T36 t267 x11_1).f0) ((rd_T36 t267 x11_1).f1) a2_2 a2_3 a2_4 a2_5) else (none))) else (spec_PlacesFor.l0 k1 l1 x8_1 t267 (wrap64 (x11_1 + 1)) bt290.2.1 bt290.2.2.1 bt290.2.2.2 ((rd_T36 t267 x11_1).f0) ((rd_T36 t267 x11_1).f1) a2_2 a2_3 a2_4 a2_5))) else (none)) = some (r1, r2) := by first | (rw [hy284]; with_reducible exact H) | (have H2_ := (Option.bind_some _ _).symm.trans H; rw [hy284]; with_reducible exact H2_) | (have H2_ := (Option.bind_some _ _).symm.trans H; with_reducible exact H2_) | with_reducible exact H | (rw [hy284]; exact H) | exact H
        have Ny284 := am hy284
        clear hy284
        by_cases c20 : y281.length + y284.length < 23456248059221
        ·rw [if_pos c20] at H
         have LMc20 := am c20
         clear c20
         obtain ⟨y287, hy287⟩ : ∃ y_ : List (S38), y_ = (y281 ++ y284) := ⟨_, rfl⟩
         replace H : ((spec_l01Right.f k1 t275 t276 t277 y287).bind fun bt290 => (if bt290.1 = true then ((some (([(⟨(rd_T36 t267 x11_1).f0, (rd_T36 t267 x11_1).f1⟩ : S36)] : List (S36)) : List (S36))).bind fun y295 => (if x8_1.length + y295.length < 70368744177664 then (spec_PlacesFor.l0 k1 l1 (x8_1 ++ y295) t267 (wrap64 (x11_1 + 1)) bt290.2.1 bt290.2.2.1 bt290.2.2.2 ((rd_T36 t267 x11_1).f0) ((rd_T36 t267 x11_1).f1) a2_2 a2_3 a2_4 a2_5) else (none))) else (spec_PlacesFor.l0 k1 l1 x8_1 t267 (wrap64 (x11_1 + 1)) bt290.2.1 bt290.2.2.1 bt290.2.2.2 ((rd_T36 t267 x11_1).f0) ((rd_T36 t267 x11_1).f1) a2_2 a2_3 a2_4 a2_5))) = some (r1, r2) := by first | (rw [hy287]; with_reducible exact H) | (have H2_ := (Option.bind_some _ _).symm.trans H; rw [hy287]; with_reducible exact H2_) | (have H2_ := (Option.bind_some _ _).symm.trans H; with_reducible exact H2_) | with_reducible exact H | (rw [hy287]; exact H) | exact H
         have Ny287 := am hy287
         clear hy287
         replace H := Option.bind_eq_some_iff.mp H
         obtain ⟨⟨t290, t291, t292, t293⟩, A210, H⟩ := H
         try dsimp only at H
         have A21 := am A210
         clear A210
         by_cases c22 : t290 = true
         ·subst c22
          rw [if_pos rfl] at H
          obtain ⟨y295, hy295⟩ : ∃ y_ : List (S36), y_ = (([(⟨(rd_T36 t267 x11_1).f0, (rd_T36 t267 x11_1).f1⟩ : S36)] : List (S36))) := ⟨_, rfl⟩
          replace H : (if x8_1.length + y295.length < 70368744177664 then (spec_PlacesFor.l0 k1 l1 (x8_1 ++ y295) t267 (wrap64 (x11_1 + 1)) t291 t292 t293 ((rd_T36 t267 x11_1).f0) ((rd_T36 t267 x11_1).f1) a2_2 a2_3 a2_4 a2_5) else (none)) = some (r1, r2) := by first | (rw [hy295]; with_reducible exact H) | (have H2_ := (Option.bind_some _ _).symm.trans H; rw [hy295]; with_reducible exact H2_) | (have H2_ := (Option.bind_some _ _).symm.trans H; with_reducible exact H2_) | with_reducible exact H | (rw [hy295]; exact H) | exact H
          have Ny295 := am hy295
          clear hy295
          by_cases c23 : x8_1.length + y295.length < 70368744177664
          ·rw [if_pos c23] at H
           have LMc23 := am c23
           clear c23
           obtain ⟨y298, hy298⟩ : ∃ y_ : List (S36), y_ = (x8_1 ++ y295) := ⟨_, rfl⟩
           replace H : (spec_PlacesFor.l0 k1 l1 y298 t267 (wrap64 (x11_1 + 1)) t291 t292 t293 ((rd_T36 t267 x11_1).f0) ((rd_T36 t267 x11_1).f1) a2_2 a2_3 a2_4 a2_5) = some (r1, r2) := by first | (rw [hy298]; with_reducible exact H) | (have H2_ := (Option.bind_some _ _).symm.trans H; rw [hy298]; with_reducible exact H2_) | (have H2_ := (Option.bind_some _ _).symm.trans H; with_reducible exact H2_) | with_reducible exact H | (rw [hy298]; exact H) | exact H
           have Ny298 := am hy298
           clear hy298
           have H' := am H
           clear H
           obtain ⟨Ao24, co24, eo24⟩ := Kd.R_slice HO_10.out
           subst eo24
           have p273 : 0 ≤ (x11_1 : Int) := of_decide_eq_true (by first | (with_reducible assumption) | assumption)
           have q273 : x11_1 < (t267.length : Int) := of_decide_eq_true (by first | (with_reducible assumption) | assumption)
           obtain ⟨ad273, e273, hx273_0, hx273_1⟩ := at_T36 (Kd.R_reads' HO_10.out).2.2 x11_1 p273 q273
           cases e273
           replace p273 := eq_true p273
           replace q273 := eq_true q273
           have hnb25 := NB259_258.out
           have hnc25 := NB258_259.out
           obtain ⟨hcz26_0, hcz26_1, hcz26_2, hcz26_3, hcz26_4, hcz26_5, hfz26_0, hfz26_1, hfz26_2, hfz26_3, hfz26_4, hfz26_5⟩ := bx6 BK259
           try go_wp2
           have n0_ : Aside0 (Kd.R k36 36 ((wr.setCell ⟨gb259, 0, none⟩ (.int .i8 ((rd_T36 t267 x11_1).f0))).setCell ⟨gb259, 1, none⟩ (.int .i8 ((rd_T36 t267 x11_1).f1))) w.heap.size (fun k_ => some k_ ≠ (.slice (some ad273) t267.length co24 : Value).ownBlock) u8 x8_1) := ⟨by (with_reducible repeat (first | apply Kd.R_alloc | apply Kd.R_drewN | apply Kd.R_drew)); exact Kd.R_mono (Kd.R_far (p := ⟨gb259, 1, none⟩) (Kd.R_far (p := ⟨gb259, 0, none⟩) (Kd.R_types HO_8.out BK259.out (by decide)) (fun _ hk => hk.2) (.int .i8 ((rd_T36 t267 x11_1).f0))) (fun _ hk => hk.2) (.int .i8 ((rd_T36 t267 x11_1).f1))) (fun _ hk => hk.1)⟩
           have n1_ : Aside0 (Kd.R k36 36 ((wr.setCell ⟨gb259, 0, none⟩ (.int .i8 ((rd_T36 t267 x11_1).f0))).setCell ⟨gb259, 1, none⟩ (.int .i8 ((rd_T36 t267 x11_1).f1))) w.heap.size (fun k_ => some k_ ≠ (u8 : Value).ownBlock) (.slice (some ad273) t267.length co24) t267) := ⟨by (with_reducible repeat (first | apply Kd.R_alloc | apply Kd.R_drewN | apply Kd.R_drew)); exact Kd.R_mono (Kd.R_far (p := ⟨gb259, 1, none⟩) (Kd.R_far (p := ⟨gb259, 0, none⟩) (Kd.R_types HO_10.out BK259.out (by decide)) (fun _ hk => hk.2) (.int .i8 ((rd_T36 t267 x11_1).f0))) (fun _ hk => hk.2) (.int .i8 ((rd_T36 t267 x11_1).f1))) (fun _ hk => hk.1)⟩
           have n2_ : Aside0 (((wr.setCell ⟨gb259, 0, none⟩ (.int .i8 ((rd_T36 t267 x11_1).f0))).setCell ⟨gb259, 1, none⟩ (.int .i8 ((rd_T36 t267 x11_1).f1))).heap[gb259]? = some (.cells #[.int .i8 ((rd_T36 t267 x11_1).f0), .int .i8 ((rd_T36 t267 x11_1).f1), .int .i8 a2_2, .int .i8 a2_3, .int .i8 a2_4, .int .i8 a2_5] 38 (0, 0))) := ⟨by (with_reducible repeat (first | refine blk_drewN ?_ _ | refine blk_drew ?_ | refine blk_alloc ?_ _)); refine blk_put (cs := #[.int .i8 ((rd_T36 t267 x11_1).f0), .int .i8 x260001_1, .int .i8 a2_2, .int .i8 a2_3, .int .i8 a2_4, .int .i8 a2_5]) ?_ 1 _ rfl; (with_reducible repeat (first | refine blk_drewN ?_ _ | refine blk_drew ?_ | refine blk_alloc ?_ _)); refine blk_put (cs := #[.int .i8 x260000_1, .int .i8 x260001_1, .int .i8 a2_2, .int .i8 a2_3, .int .i8 a2_4, .int .i8 a2_5]) ?_ 0 _ rfl; exact kb BK259⟩
           have n3_ : Aside0 (IsS28 w ((wr.setCell ⟨gb259, 0, none⟩ (.int .i8 ((rd_T36 t267 x11_1).f0))).setCell ⟨gb259, 1, none⟩ (.int .i8 ((rd_T36 t267 x11_1).f1))) gb258 x259000_1 x259001_1 x259002_1) := ⟨si28 HI258⟩
           have n4_ : Aside0 (Below w.heap.size w ((wr.setCell ⟨gb259, 0, none⟩ (.int .i8 ((rd_T36 t267 x11_1).f0))).setCell ⟨gb259, 1, none⟩ (.int .i8 ((rd_T36 t267 x11_1).f1)))) := ⟨be HB⟩
           (try clear HO_8)
           (try clear HO_10)
           (try clear BK259)
           (try clear HI258)
           (try clear HB)
           generalize ((wr.setCell ⟨gb259, 0, none⟩ (.int .i8 ((rd_T36 t267 x11_1).f0))).setCell ⟨gb259, 1, none⟩ (.int .i8 ((rd_T36 t267 x11_1).f1))) = w27 at n0_ n1_ n2_ n3_ n4_ ⊢
           have HO_8 := n0_
           have HO_10 := n1_
           have BK259 := n2_
           have HI258 := n3_
           have HB := n4_
           clear n0_ n1_ n2_ n3_ n4_
           have n0_ := am (Kd.R_drew HO_8.out)
           have n1_ := am (Kd.R_drew HO_10.out)
           have n2_ := am (blk_drew BK259.out)
           have n3_ := am (IsS28.drew HI258.out)
           have n4_ := am (below_drew1 HB.out)
           clear HO_8
           clear HO_10
           clear BK259
           clear HI258
           clear HB
           have HO_8 := n0_
           have HO_10 := n1_
           have BK259 := n2_
           have HI258 := n3_
           have HB := n4_
           clear n0_ n1_ n2_ n3_ n4_
           refine start_ (n := 11) (S := fun w' => w'.cell? ⟨gb259, 0, none⟩ = some (.int .i8 ((rd_T36 t267 x11_1).f0)) ∧ w'.cell? ⟨gb259, 1, none⟩ = some (.int .i8 ((rd_T36 t267 x11_1).f1)) ∧ w'.cell? ⟨gb259, 2, none⟩ = some (.int .i8 a2_2) ∧ w'.cell? ⟨gb259, 3, none⟩ = some (.int .i8 a2_3) ∧ w'.cell? ⟨gb259, 4, none⟩ = some (.int .i8 a2_4) ∧ w'.cell? ⟨gb259, 5, none⟩ = some (.int .i8 a2_5)) (ds := []) #[false, false, false, false, false, false, false, false, false, false, false] (by kernel_rfl) rfl rfl ⟨(blk_cell BK259.out 0).trans rfl, (blk_cell BK259.out 1).trans rfl, (blk_cell BK259.out 2).trans rfl, (blk_cell BK259.out 3).trans rfl, (blk_cell BK259.out 4).trans rfl, (blk_cell BK259.out 5).trans rfl⟩ (fun hHeld => ?_); refine with_tabW spec_PlacesFor.tab10 spec_PlacesFor.bits10 (fun HT_ HW_ => ?_)
           generalize w27.drew = w28 at HO_8 HO_10 BK259 HI258 HB hHeld ⊢
           refine tS (i := 0) (some 32) #[true, false, false, false, false, false, false, false, false, false, false] (take_ofW HT_.out HW_.out (by kernel_rfl)) hHeld ?_
           refine one_ (i := 1) (N := some 33) #[true, true, false, false, false, false, false, false, false, false, false] rfl rfl (one_of HT_.out (by kernel_rfl)) (by decide) (fun K hK => ?_)
           refine goes_ Try.func105 (by kernel_rfl) rfl #[.pointer (some ⟨gb258, 0, none⟩), .agg #[.int .i8 ((rd_T36 t267 x11_1).f0), .int .i8 ((rd_T36 t267 x11_1).f1), .int .i8 a2_2, .int .i8 a2_3, .int .i8 a2_4, .int .i8 a2_5]] (by rfl) rfl rfl (by (try simp only [List.map_toArray, List.map_cons, List.map_nil]); first | done | rfl | (simp only [List.length_drop, List.length_take]; rfl)) ?_
           with_reducible refine (spec_l01Boat.calls gb258 x259000_1 x259001_1 x259002_1 ((rd_T36 t267 x11_1).f0) ((rd_T36 t267 x11_1).f1) a2_2 a2_3 a2_4 a2_5 true t275 t276 t277 w _ ?side1 ?side2 A17.out).mono ?_
           (case side1 => exact si28 HI258)
           (case side2 => exact be HB)
           rintro e w29 ⟨rfl, hi, hb, hk⟩
           refine ⟨_, rfl, ?_⟩
           have n0_ := am (Kd.R_mono (Kd.R_keep (IsS28.apart (show IsS28 w _ gb258 x259000_1 x259001_1 x259002_1 from si28 HI258) (kr HO_8) (by decide)) hk (fun _ h => h.2)) (fun _ h => h.1))
           have n1_ := am (Kd.R_mono (Kd.R_keep (IsS28.apart (show IsS28 w _ gb258 x259000_1 x259001_1 x259002_1 from si28 HI258) (kr HO_10) (by decide)) hk (fun _ h => h.2)) (fun _ h => h.1))
           have n2_ := am (KeepBut.blk hk (g' := gb259) (o := .cells #[.int .i8 ((rd_T36 t267 x11_1).f0), .int .i8 ((rd_T36 t267 x11_1).f1), .int .i8 a2_2, .int .i8 a2_3, .int .i8 a2_4, .int .i8 a2_5] 38 (0, 0)) (kb BK259) NB259_258.out (by simp))
           have n3_ := am (hb)
           have n4_ := am (hi)
           clear HO_8
           clear HO_10
           clear BK259
           clear HB
           clear HI258
           have HO_8 := n0_
           have HO_10 := n1_
           have BK259 := n2_
           have HB := n3_
           have HI258 := n4_
           clear n0_ n1_ n2_ n3_ n4_
           (try clear hb)
           (try clear hb2)
           (try clear hk)
           (try clear hi)
           refine hK.out _ _ ⟨(blk_cell BK259.out 0).trans rfl, (blk_cell BK259.out 1).trans rfl, (blk_cell BK259.out 2).trans rfl, (blk_cell BK259.out 3).trans rfl, (blk_cell BK259.out 4).trans rfl, (blk_cell BK259.out 5).trans rfl⟩ (fun hHeld => ?_)
           clear hK K
           refine norm_ (a' := ?_) ?_ ?_
           rotate_left
           ·show Act.put _ (some 33) _ = _
            simp only [Act.put, List.setIfInBounds_toArray, List.set_cons_zero, List.set_cons_succ, i64_w, i32_w]
            rfl
           refine pS (i := 2) (some 34) #[true, true, true, false, false, false, false, false, false, false, false] (any_of HT_.out (by kernel_rfl)) ?_
           refine pS (i := 4) (some 36) #[true, true, true, false, true, false, false, false, false, false, false] (any_of HT_.out (by kernel_rfl)) ?_
           refine tS (i := 6) (some 38) #[true, true, true, false, true, false, true, false, false, false, false] (take_ofW HT_.out HW_.out (by kernel_rfl)) hHeld ?_
           refine join_ (σ := Value × Value × Value) 3 #[true, true, true, true, true, true, true, true, false, false, false] (fun s_ => [(35, s_.1), (37, s_.2.1), (39, s_.2.2)]) (fun s_ w' => (w'.cell? ⟨gb259, 0, none⟩ = some (.int .i8 ((rd_T36 t267 x11_1).f0)) ∧ w'.cell? ⟨gb259, 1, none⟩ = some (.int .i8 ((rd_T36 t267 x11_1).f1)) ∧ w'.cell? ⟨gb259, 2, none⟩ = some (.int .i8 a2_2) ∧ w'.cell? ⟨gb259, 3, none⟩ = some (.int .i8 a2_3) ∧ w'.cell? ⟨gb259, 4, none⟩ = some (.int .i8 a2_4) ∧ w'.cell? ⟨gb259, 5, none⟩ = some (.int .i8 a2_5)) ∧ (Kd.R k38 38 w' w.heap.size (fun k_ => some k_ ≠ (s_.2.2 : Value).ownBlock ∧ k_ ≠ gb259) s_.2.1 y281) ∧ (Kd.R k38 38 w' w.heap.size (fun k_ => some k_ ≠ (s_.2.1 : Value).ownBlock ∧ k_ ≠ gb259) s_.2.2 y284) ∧ (Kd.R k36 36 w' w.heap.size (fun k_ => some k_ ≠ (u8 : Value).ownBlock) (.slice (some ad273) t267.length co24) t267) ∧ (Kd.R k36 36 w' w.heap.size (fun k_ => some k_ ≠ (.slice (some ad273) t267.length co24 : Value).ownBlock) u8 x8_1) ∧ (w'.heap[gb259]? = some (.cells #[.int .i8 ((rd_T36 t267 x11_1).f0), .int .i8 ((rd_T36 t267 x11_1).f1), .int .i8 a2_2, .int .i8 a2_3, .int .i8 a2_4, .int .i8 a2_5] 38 (0, 0))) ∧ (IsS28 w w' gb258 t275 t276 t277) ∧ (Below w.heap.size w w')) ?_ ?_
           rotate_left
           ·intro hCont
            refine two_ (i := 3) (j := 7) (Ni := some 35) (Nj := some 39) #[true, true, true, true, true, false, true, false, false, false, false] #[true, true, true, false, true, false, true, true, false, false, false] rfl rfl rfl rfl (two_of HT_.out (by kernel_rfl)) (by decide) (by decide) (fun K hK => ?_) (fun K hK => ?_)
            ·skip
             refine Kd.R_lit_step k38 _ 38 ?hg (N := 35) ?hd (xs := ([] : List (S38))) (inner := []) (ok := fun _ => True) (okp := fun _ => True) ?hr ?hp (fun _ hk => hk) trivial (Below.refl _ _) (Nat.le_refl _) (by simp) ?_; (case hd => rfl); (case hg => rfl); (case hr => first | (go_simp; done) | (go_simp; rfl)); (case hp => exact (Reps.none _ _))
             intro v279 w30 ho31 hb hg_ hnew_
             clear hg_ hnew_
             (first | rw [← Ny278.out] at ho31 | (simp only [Int.reduceToNat] at ho31; rw [← Ny278.out] at ho31))
             have n0_ := am (Kd.R_below (kr HO_8) hb)
             have n1_ := am (Kd.R_below (kr HO_10) hb)
             have n2_ := am (Kd.R_lower (Kd.R_newB ho31 (g := gb259) (o := .cells #[.int .i8 ((rd_T36 t267 x11_1).f0), .int .i8 ((rd_T36 t267 x11_1).f1), .int .i8 a2_2, .int .i8 a2_3, .int .i8 a2_4, .int .i8 a2_5] 38 (0, 0)) (kb BK259)) (below_size (be HB)))
             have n3_ := bB BK259 hb
             have n4_ := am (IsS28.below (si28 HI258) hb)
             have n5_ := am (below_step (be HB) hb)
             clear HO_8
             clear HO_10
             clear BK259
             clear HI258
             clear HB
             have HO_8 := n0_
             have HO_10 := n1_
             have HO280 := n2_
             have BK259 := n3_
             have HI258 := n4_
             have HB := n5_
             clear n0_ n1_ n2_ n3_ n4_ n5_
             clear hb ho31
             refine hK.out _ _ ⟨(blk_cell BK259.out 0).trans rfl, (blk_cell BK259.out 1).trans rfl, (blk_cell BK259.out 2).trans rfl, (blk_cell BK259.out 3).trans rfl, (blk_cell BK259.out 4).trans rfl, (blk_cell BK259.out 5).trans rfl⟩ (fun hHeld => ?_)
             clear hK K
             refine norm_ (a' := ?_) ?_ ?_
             rotate_left
             ·show Act.put _ (some 35) _ = _
              simp only [Act.put, List.setIfInBounds_toArray, List.set_cons_zero, List.set_cons_succ, i64_w, i32_w]
              rfl
             refine two_ (i := 5) (j := 7) (Ni := some 37) (Nj := some 39) #[true, true, true, true, true, true, true, false, false, false, false] #[true, true, true, true, true, false, true, true, false, false, false] rfl rfl rfl rfl (two_of HT_.out (by kernel_rfl)) (by decide) (by decide) (fun K hK => ?_) (fun K hK => ?_)
             ·skip
              refine Kd.R_append_rows_step k38 (w0 := w) w.heap.size (by rfl) (.tmp 35) (.tmp 36) 44 38 (.agg #[(.int .i8 0), (.int .i8 0), (.int .i8 0), (.int .i8 0), (.int .i8 0), (.int .i8 0)]) 6 rfl Try.underlying44 info38 rfl (by decide) (by omega) v279 y278 l1 _ _ _ (fun k_ => k_ ≠ gb259) (fun _ => False) rfl rfl ?aO ?aR (fun _ _ h => h) (fun _ h => h.elim) ?aF ?aB ?aS ?aL ?_
              (case aR => repeat (first | exact (Kd.C_below HR1.out HB.out) | (with_reducible refine Kd.C_alloc ?_ _) | (with_reducible refine Kd.C_drewN ?_ _) | (with_reducible refine Kd.C_drew ?_)))
              (case aB => exact (be HB))
              (case aF => exact (fun k_ hk => Kd.freshB (g := gb259) (o := .cells #[.int .i8 ((rd_T36 t267 x11_1).f0), .int .i8 ((rd_T36 t267 x11_1).f1), .int .i8 a2_2, .int .i8 a2_3, .int .i8 a2_4, .int .i8 a2_5] 38 (0, 0)) (kb BK259) k_ hk))
              (case aO => exact (by (with_reducible repeat (first | apply Kd.R_alloc | apply Kd.R_drewN | apply Kd.R_drew)); exact Kd.R_mono HO280.out (fun _ hk => hk.2)))
              (case aS => exact (below_size (be HB)))
              (case aL => have := LMc19.out; omega)
              intro v282 w32 ho hb hg hat
              rw [← Ny281.out] at ho
              have n0_ := am (Kd.R_over' (kr HO_8) (Kd.R_typed (kr HO280)) (by decide) hg)
              have n1_ := am (Kd.R_over' (kr HO_10) (Kd.R_typed (kr HO280)) (by decide) hg)
              have n2_ := am (blk_grown (g := gb259) (o := .cells #[.int .i8 ((rd_T36 t267 x11_1).f0), .int .i8 ((rd_T36 t267 x11_1).f1), .int .i8 a2_2, .int .i8 a2_3, .int .i8 a2_4, .int .i8 a2_5] 38 (0, 0)) (kb BK259) hg (Kd.R_away HO280.out (fun _ hk => hk.2)))
              have n3_ := am (IsS28.grown (si28 HI258) hg (IsS28.own_ne HI258.out HO280.out (by decide)))
              have n4_ := am (hb)
              have n5_ := am (ho)
              clear HO_8
              clear HO_10
              clear BK259
              clear HI258
              clear HB
              clear HO280
              have HO_8 := n0_
              have HO_10 := n1_
              have BK259 := n2_
              have HI258 := n3_
              have HB := n4_
              have HO283 := n5_
              clear n0_ n1_ n2_ n3_ n4_ n5_
              clear ho hb hg hat
              refine hK.out _ _ ⟨(blk_cell BK259.out 0).trans rfl, (blk_cell BK259.out 1).trans rfl, (blk_cell BK259.out 2).trans rfl, (blk_cell BK259.out 3).trans rfl, (blk_cell BK259.out 4).trans rfl, (blk_cell BK259.out 5).trans rfl⟩ (fun hHeld => ?_)
              clear hK K
              refine norm_ (a' := ?_) ?_ ?_
              rotate_left
              ·show Act.put _ (some 37) _ = _
               simp only [Act.put, List.setIfInBounds_toArray, List.set_cons_zero, List.set_cons_succ, i64_w, i32_w]
               rfl
              refine one_ (i := 7) (N := some 39) #[true, true, true, true, true, true, true, true, false, false, false] rfl rfl (one_of HT_.out (by kernel_rfl)) (by decide) (fun K hK => ?_)
              refine Kd.R_lit_step k38 _ 38 ?hg (N := 39) ?hd (xs := ([(⟨(⟨(rd_T36 t267 x11_1).f0, (rd_T36 t267 x11_1).f1⟩ : S36), a2_2, a2_3, a2_4, a2_5⟩ : S38)] : List (S38))) (inner := [.int .i8 ((rd_T36 t267 x11_1).f0), .int .i8 ((rd_T36 t267 x11_1).f1), .int .i8 a2_2, .int .i8 a2_3, .int .i8 a2_4, .int .i8 a2_5]) (ok := fun _ => True) (okp := fun _ => True) ?hr ?hp (fun _ hk => hk) trivial (Below.refl _ _) (Nat.le_refl _) (by simp) ?_; (case hd => rfl); (case hg => rfl); (case hr => first | (go_simp; done) | (go_simp; rfl)); (case hp => exact (Reps.c6 (show Kd.M k38 _ _ _ (⟨(⟨(rd_T36 t267 x11_1).f0, (rd_T36 t267 x11_1).f1⟩ : S36), a2_2, a2_3, a2_4, a2_5⟩ : S38) [.int .i8 ((rd_T36 t267 x11_1).f0), .int .i8 ((rd_T36 t267 x11_1).f1), .int .i8 a2_2, .int .i8 a2_3, .int .i8 a2_4, .int .i8 a2_5] from (k38_mkM _ _ _ (⟨(⟨(rd_T36 t267 x11_1).f0, (rd_T36 t267 x11_1).f1⟩ : S36), a2_2, a2_3, a2_4, a2_5⟩ : S38) )) (Reps.none _ _)))
              intro v285 w33 ho34 hb hg_ hnew_
              clear hg_ hnew_
              (first | rw [← Ny284.out] at ho34 | (simp only [Int.reduceToNat] at ho34; rw [← Ny284.out] at ho34))
              have n0_ := am (Kd.R_below (kr HO_8) hb)
              have n1_ := am (Kd.R_below (kr HO_10) hb)
              have n2_ := am (Kd.R_elder' (kr HO283) (Kd.R_base ho34) hb)
              have n3_ := am (Kd.R_lower (Kd.R_newB (Kd.R_new' ho34 (Kd.R_lt (kr HO283))) (g := gb259) (o := .cells #[.int .i8 ((rd_T36 t267 x11_1).f0), .int .i8 ((rd_T36 t267 x11_1).f1), .int .i8 a2_2, .int .i8 a2_3, .int .i8 a2_4, .int .i8 a2_5] 38 (0, 0)) (kb BK259)) (below_size (be HB)))
              have n4_ := bB BK259 hb
              have n5_ := am (IsS28.below (si28 HI258) hb)
              have n6_ := am (below_step (be HB) hb)
              clear HO_8
              clear HO_10
              clear HO283
              clear BK259
              clear HI258
              clear HB
              have HO_8 := n0_
              have HO_10 := n1_
              have HO283 := n2_
              have HO286 := n3_
              have BK259 := n4_
              have HI258 := n5_
              have HB := n6_
              clear n0_ n1_ n2_ n3_ n4_ n5_ n6_
              clear hb ho34
              refine hK.out _ _ ⟨(blk_cell BK259.out 0).trans rfl, (blk_cell BK259.out 1).trans rfl, (blk_cell BK259.out 2).trans rfl, (blk_cell BK259.out 3).trans rfl, (blk_cell BK259.out 4).trans rfl, (blk_cell BK259.out 5).trans rfl⟩ (fun hHeld => ?_)
              clear hK K
              refine norm_ (a' := ?_) ?_ ?_
              rotate_left
              ·show Act.put _ (some 39) _ = _
               simp only [Act.put, List.setIfInBounds_toArray, List.set_cons_zero, List.set_cons_succ, i64_w, i32_w]
               rfl
              exact norm_ (by simp only [putAll, Act.put, List.setIfInBounds_toArray, List.set_cons_zero, List.set_cons_succ]) (hCont (v279, v282, v285) _ ⟨hHeld, (by (with_reducible repeat (first | apply Kd.R_alloc | apply Kd.R_drewN | apply Kd.R_drew)); exact Kd.R_mono HO283.out (fun _ hk => ⟨hk.2, hk.1⟩)), (by (with_reducible repeat (first | apply Kd.R_alloc | apply Kd.R_drewN | apply Kd.R_drew)); exact Kd.R_mono HO286.out (fun _ hk => ⟨hk.1.2, hk.2⟩)), (kr HO_10), (kr HO_8), (kb BK259), (si28 HI258), (be HB)⟩)
             ·skip
              refine Kd.R_lit_step k38 _ 38 ?hg (N := 39) ?hd (xs := ([(⟨(⟨(rd_T36 t267 x11_1).f0, (rd_T36 t267 x11_1).f1⟩ : S36), a2_2, a2_3, a2_4, a2_5⟩ : S38)] : List (S38))) (inner := [.int .i8 ((rd_T36 t267 x11_1).f0), .int .i8 ((rd_T36 t267 x11_1).f1), .int .i8 a2_2, .int .i8 a2_3, .int .i8 a2_4, .int .i8 a2_5]) (ok := fun _ => True) (okp := fun _ => True) ?hr ?hp (fun _ hk => hk) trivial (Below.refl _ _) (Nat.le_refl _) (by simp) ?_; (case hd => rfl); (case hg => rfl); (case hr => first | (go_simp; done) | (go_simp; rfl)); (case hp => exact (Reps.c6 (show Kd.M k38 _ _ _ (⟨(⟨(rd_T36 t267 x11_1).f0, (rd_T36 t267 x11_1).f1⟩ : S36), a2_2, a2_3, a2_4, a2_5⟩ : S38) [.int .i8 ((rd_T36 t267 x11_1).f0), .int .i8 ((rd_T36 t267 x11_1).f1), .int .i8 a2_2, .int .i8 a2_3, .int .i8 a2_4, .int .i8 a2_5] from (k38_mkM _ _ _ (⟨(⟨(rd_T36 t267 x11_1).f0, (rd_T36 t267 x11_1).f1⟩ : S36), a2_2, a2_3, a2_4, a2_5⟩ : S38) )) (Reps.none _ _)))
              intro v285 w32 ho33 hb hg_ hnew_
              clear hg_ hnew_
              (first | rw [← Ny284.out] at ho33 | (simp only [Int.reduceToNat] at ho33; rw [← Ny284.out] at ho33))
              have n0_ := am (Kd.R_below (kr HO_8) hb)
              have n1_ := am (Kd.R_below (kr HO_10) hb)
              have n2_ := am (Kd.R_elder' (kr HO280) (Kd.R_base ho33) hb)
              have n3_ := am (Kd.R_lower (Kd.R_newB (Kd.R_new' ho33 (Kd.R_lt (kr HO280))) (g := gb259) (o := .cells #[.int .i8 ((rd_T36 t267 x11_1).f0), .int .i8 ((rd_T36 t267 x11_1).f1), .int .i8 a2_2, .int .i8 a2_3, .int .i8 a2_4, .int .i8 a2_5] 38 (0, 0)) (kb BK259)) (below_size (be HB)))
              have n4_ := bB BK259 hb
              have n5_ := am (IsS28.below (si28 HI258) hb)
              have n6_ := am (below_step (be HB) hb)
              clear HO_8
              clear HO_10
              clear HO280
              clear BK259
              clear HI258
              clear HB
              have HO_8 := n0_
              have HO_10 := n1_
              have HO280 := n2_
              have HO286 := n3_
              have BK259 := n4_
              have HI258 := n5_
              have HB := n6_
              clear n0_ n1_ n2_ n3_ n4_ n5_ n6_
              clear hb ho33
              refine hK.out _ _ ⟨(blk_cell BK259.out 0).trans rfl, (blk_cell BK259.out 1).trans rfl, (blk_cell BK259.out 2).trans rfl, (blk_cell BK259.out 3).trans rfl, (blk_cell BK259.out 4).trans rfl, (blk_cell BK259.out 5).trans rfl⟩ (fun hHeld => ?_)
              clear hK K
              refine norm_ (a' := ?_) ?_ ?_
              rotate_left
              ·show Act.put _ (some 39) _ = _
               simp only [Act.put, List.setIfInBounds_toArray, List.set_cons_zero, List.set_cons_succ, i64_w, i32_w]
               rfl
              refine one_ (i := 5) (N := some 37) #[true, true, true, true, true, true, true, true, false, false, false] rfl rfl (one_of HT_.out (by kernel_rfl)) (by decide) (fun K hK => ?_)
              refine Kd.R_append_rows_step k38 (w0 := w) w.heap.size (by rfl) (.tmp 35) (.tmp 36) 44 38 (.agg #[(.int .i8 0), (.int .i8 0), (.int .i8 0), (.int .i8 0), (.int .i8 0), (.int .i8 0)]) 6 rfl Try.underlying44 info38 rfl (by decide) (by omega) v279 y278 l1 _ _ _ (fun k_ => some k_ ≠ (v285 : Value).ownBlock ∧ k_ ≠ gb259) (fun _ => False) rfl rfl ?aO ?aR (fun _ _ h => h) (fun _ h => h.elim) ?aF ?aB ?aS ?aL ?_
              (case aR => repeat (first | exact (Kd.C_below HR1.out HB.out) | (with_reducible refine Kd.C_alloc ?_ _) | (with_reducible refine Kd.C_drewN ?_ _) | (with_reducible refine Kd.C_drew ?_)))
              (case aB => exact (be HB))
              (case aF => exact (fun k_ hk => ⟨Kd.fresh' (Kd.R_lt (kr HO286)) k_ hk, Kd.freshB (g := gb259) (o := .cells #[.int .i8 ((rd_T36 t267 x11_1).f0), .int .i8 ((rd_T36 t267 x11_1).f1), .int .i8 a2_2, .int .i8 a2_3, .int .i8 a2_4, .int .i8 a2_5] 38 (0, 0)) (kb BK259) k_ hk⟩))
              (case aO => exact (by (with_reducible repeat (first | apply Kd.R_alloc | apply Kd.R_drewN | apply Kd.R_drew)); exact Kd.R_mono HO280.out (fun _ hk => ⟨hk.2, hk.1.2⟩)))
              (case aS => exact (below_size (be HB)))
              (case aL => have := LMc19.out; omega)
              intro v282 w34 ho hb hg hat
              rw [← Ny281.out] at ho
              have n0_ := am (Kd.R_over' (kr HO_8) (Kd.R_typed (kr HO280)) (by decide) hg)
              have n1_ := am (Kd.R_over' (kr HO_10) (Kd.R_typed (kr HO280)) (by decide) hg)
              have n2_ := am (blk_grown (g := gb259) (o := .cells #[.int .i8 ((rd_T36 t267 x11_1).f0), .int .i8 ((rd_T36 t267 x11_1).f1), .int .i8 a2_2, .int .i8 a2_3, .int .i8 a2_4, .int .i8 a2_5] 38 (0, 0)) (kb BK259) hg (Kd.R_away HO280.out (fun _ hk => hk.1.2)))
              have n3_ := am (IsS28.grown (si28 HI258) hg (IsS28.own_ne HI258.out HO280.out (by decide)))
              have n4_ := am (Kd.R_after (ok := (fun k_ => k_ ≠ gb259)) (by (with_reducible repeat (first | apply Kd.R_alloc | apply Kd.R_drewN | apply Kd.R_drew)); exact Kd.R_mono HO286.out (fun _ hk => ⟨hk.2, hk.1.2⟩)) hg hat)
              have n5_ := am (hb)
              have n6_ := am (ho)
              clear HO_8
              clear HO_10
              clear BK259
              clear HI258
              clear HO286
              clear HB
              clear HO280
              have HO_8 := n0_
              have HO_10 := n1_
              have BK259 := n2_
              have HI258 := n3_
              have HO286 := n4_
              have HB := n5_
              have HO283 := n6_
              clear n0_ n1_ n2_ n3_ n4_ n5_ n6_
              clear ho hb hg hat
              refine hK.out _ _ ⟨(blk_cell BK259.out 0).trans rfl, (blk_cell BK259.out 1).trans rfl, (blk_cell BK259.out 2).trans rfl, (blk_cell BK259.out 3).trans rfl, (blk_cell BK259.out 4).trans rfl, (blk_cell BK259.out 5).trans rfl⟩ (fun hHeld => ?_)
              clear hK K
              refine norm_ (a' := ?_) ?_ ?_
              rotate_left
              ·show Act.put _ (some 37) _ = _
               simp only [Act.put, List.setIfInBounds_toArray, List.set_cons_zero, List.set_cons_succ, i64_w, i32_w]
               rfl
              exact norm_ (by simp only [putAll, Act.put, List.setIfInBounds_toArray, List.set_cons_zero, List.set_cons_succ]) (hCont (v279, v282, v285) _ ⟨hHeld, (kr HO283), (by (with_reducible repeat (first | apply Kd.R_alloc | apply Kd.R_drewN | apply Kd.R_drew)); exact Kd.R_mono HO286.out (fun _ hk => ⟨hk.2, hk.1⟩)), (kr HO_10), (kr HO_8), (kb BK259), (si28 HI258), (be HB)⟩)
            ·skip
             refine Kd.R_lit_step k38 _ 38 ?hg (N := 39) ?hd (xs := ([(⟨(⟨(rd_T36 t267 x11_1).f0, (rd_T36 t267 x11_1).f1⟩ : S36), a2_2, a2_3, a2_4, a2_5⟩ : S38)] : List (S38))) (inner := [.int .i8 ((rd_T36 t267 x11_1).f0), .int .i8 ((rd_T36 t267 x11_1).f1), .int .i8 a2_2, .int .i8 a2_3, .int .i8 a2_4, .int .i8 a2_5]) (ok := fun _ => True) (okp := fun _ => True) ?hr ?hp (fun _ hk => hk) trivial (Below.refl _ _) (Nat.le_refl _) (by simp) ?_; (case hd => rfl); (case hg => rfl); (case hr => first | (go_simp; done) | (go_simp; rfl)); (case hp => exact (Reps.c6 (show Kd.M k38 _ _ _ (⟨(⟨(rd_T36 t267 x11_1).f0, (rd_T36 t267 x11_1).f1⟩ : S36), a2_2, a2_3, a2_4, a2_5⟩ : S38) [.int .i8 ((rd_T36 t267 x11_1).f0), .int .i8 ((rd_T36 t267 x11_1).f1), .int .i8 a2_2, .int .i8 a2_3, .int .i8 a2_4, .int .i8 a2_5] from (k38_mkM _ _ _ (⟨(⟨(rd_T36 t267 x11_1).f0, (rd_T36 t267 x11_1).f1⟩ : S36), a2_2, a2_3, a2_4, a2_5⟩ : S38) )) (Reps.none _ _)))
             intro v285 w30 ho31 hb hg_ hnew_
             clear hg_ hnew_
             (first | rw [← Ny284.out] at ho31 | (simp only [Int.reduceToNat] at ho31; rw [← Ny284.out] at ho31))
             have n0_ := am (Kd.R_below (kr HO_8) hb)
             have n1_ := am (Kd.R_below (kr HO_10) hb)
             have n2_ := am (Kd.R_lower (Kd.R_newB ho31 (g := gb259) (o := .cells #[.int .i8 ((rd_T36 t267 x11_1).f0), .int .i8 ((rd_T36 t267 x11_1).f1), .int .i8 a2_2, .int .i8 a2_3, .int .i8 a2_4, .int .i8 a2_5] 38 (0, 0)) (kb BK259)) (below_size (be HB)))
             have n3_ := bB BK259 hb
             have n4_ := am (IsS28.below (si28 HI258) hb)
             have n5_ := am (below_step (be HB) hb)
             clear HO_8
             clear HO_10
             clear BK259
             clear HI258
             clear HB
             have HO_8 := n0_
             have HO_10 := n1_
             have HO286 := n2_
             have BK259 := n3_
             have HI258 := n4_
             have HB := n5_
             clear n0_ n1_ n2_ n3_ n4_ n5_
             clear hb ho31
             refine hK.out _ _ ⟨(blk_cell BK259.out 0).trans rfl, (blk_cell BK259.out 1).trans rfl, (blk_cell BK259.out 2).trans rfl, (blk_cell BK259.out 3).trans rfl, (blk_cell BK259.out 4).trans rfl, (blk_cell BK259.out 5).trans rfl⟩ (fun hHeld => ?_)
             clear hK K
             refine norm_ (a' := ?_) ?_ ?_
             rotate_left
             ·show Act.put _ (some 39) _ = _
              simp only [Act.put, List.setIfInBounds_toArray, List.set_cons_zero, List.set_cons_succ, i64_w, i32_w]
              rfl
             refine one_ (i := 3) (N := some 35) #[true, true, true, true, true, false, true, true, false, false, false] rfl rfl (one_of HT_.out (by kernel_rfl)) (by decide) (fun K hK => ?_)
             refine Kd.R_lit_step k38 _ 38 ?hg (N := 35) ?hd (xs := ([] : List (S38))) (inner := []) (ok := fun _ => True) (okp := fun _ => True) ?hr ?hp (fun _ hk => hk) trivial (Below.refl _ _) (Nat.le_refl _) (by simp) ?_; (case hd => rfl); (case hg => rfl); (case hr => first | (go_simp; done) | (go_simp; rfl)); (case hp => exact (Reps.none _ _))
             intro v279 w32 ho33 hb hg_ hnew_
             clear hg_ hnew_
             (first | rw [← Ny278.out] at ho33 | (simp only [Int.reduceToNat] at ho33; rw [← Ny278.out] at ho33))
             have n0_ := am (Kd.R_below (kr HO_8) hb)
             have n1_ := am (Kd.R_below (kr HO_10) hb)
             have n2_ := am (Kd.R_elder' (kr HO286) (Kd.R_base ho33) hb)
             have n3_ := am (Kd.R_lower (Kd.R_newB (Kd.R_new' ho33 (Kd.R_lt (kr HO286))) (g := gb259) (o := .cells #[.int .i8 ((rd_T36 t267 x11_1).f0), .int .i8 ((rd_T36 t267 x11_1).f1), .int .i8 a2_2, .int .i8 a2_3, .int .i8 a2_4, .int .i8 a2_5] 38 (0, 0)) (kb BK259)) (below_size (be HB)))
             have n4_ := bB BK259 hb
             have n5_ := am (IsS28.below (si28 HI258) hb)
             have n6_ := am (below_step (be HB) hb)
             clear HO_8
             clear HO_10
             clear HO286
             clear BK259
             clear HI258
             clear HB
             have HO_8 := n0_
             have HO_10 := n1_
             have HO286 := n2_
             have HO280 := n3_
             have BK259 := n4_
             have HI258 := n5_
             have HB := n6_
             clear n0_ n1_ n2_ n3_ n4_ n5_ n6_
             clear hb ho33
             refine hK.out _ _ ⟨(blk_cell BK259.out 0).trans rfl, (blk_cell BK259.out 1).trans rfl, (blk_cell BK259.out 2).trans rfl, (blk_cell BK259.out 3).trans rfl, (blk_cell BK259.out 4).trans rfl, (blk_cell BK259.out 5).trans rfl⟩ (fun hHeld => ?_)
             clear hK K
             refine norm_ (a' := ?_) ?_ ?_
             rotate_left
             ·show Act.put _ (some 35) _ = _
              simp only [Act.put, List.setIfInBounds_toArray, List.set_cons_zero, List.set_cons_succ, i64_w, i32_w]
              rfl
             refine one_ (i := 5) (N := some 37) #[true, true, true, true, true, true, true, true, false, false, false] rfl rfl (one_of HT_.out (by kernel_rfl)) (by decide) (fun K hK => ?_)
             refine Kd.R_append_rows_step k38 (w0 := w) w.heap.size (by rfl) (.tmp 35) (.tmp 36) 44 38 (.agg #[(.int .i8 0), (.int .i8 0), (.int .i8 0), (.int .i8 0), (.int .i8 0), (.int .i8 0)]) 6 rfl Try.underlying44 info38 rfl (by decide) (by omega) v279 y278 l1 _ _ _ (fun k_ => some k_ ≠ (v285 : Value).ownBlock ∧ k_ ≠ gb259) (fun _ => False) rfl rfl ?aO ?aR (fun _ _ h => h) (fun _ h => h.elim) ?aF ?aB ?aS ?aL ?_
             (case aR => repeat (first | exact (Kd.C_below HR1.out HB.out) | (with_reducible refine Kd.C_alloc ?_ _) | (with_reducible refine Kd.C_drewN ?_ _) | (with_reducible refine Kd.C_drew ?_)))
             (case aB => exact (be HB))
             (case aF => exact (fun k_ hk => ⟨Kd.fresh' (Kd.R_lt (kr HO286)) k_ hk, Kd.freshB (g := gb259) (o := .cells #[.int .i8 ((rd_T36 t267 x11_1).f0), .int .i8 ((rd_T36 t267 x11_1).f1), .int .i8 a2_2, .int .i8 a2_3, .int .i8 a2_4, .int .i8 a2_5] 38 (0, 0)) (kb BK259) k_ hk⟩))
             (case aO => exact (by (with_reducible repeat (first | apply Kd.R_alloc | apply Kd.R_drewN | apply Kd.R_drew)); exact Kd.R_mono HO280.out (fun _ hk => ⟨hk.1.2, hk.2⟩)))
             (case aS => exact (below_size (be HB)))
             (case aL => have := LMc19.out; omega)
             intro v282 w34 ho hb hg hat
             rw [← Ny281.out] at ho
             have n0_ := am (Kd.R_over' (kr HO_8) (Kd.R_typed (kr HO280)) (by decide) hg)
             have n1_ := am (Kd.R_over' (kr HO_10) (Kd.R_typed (kr HO280)) (by decide) hg)
             have n2_ := am (blk_grown (g := gb259) (o := .cells #[.int .i8 ((rd_T36 t267 x11_1).f0), .int .i8 ((rd_T36 t267 x11_1).f1), .int .i8 a2_2, .int .i8 a2_3, .int .i8 a2_4, .int .i8 a2_5] 38 (0, 0)) (kb BK259) hg (Kd.R_away HO280.out (fun _ hk => hk.2)))
             have n3_ := am (IsS28.grown (si28 HI258) hg (IsS28.own_ne HI258.out HO280.out (by decide)))
             have n4_ := am (Kd.R_after (ok := (fun k_ => k_ ≠ gb259)) (by (with_reducible repeat (first | apply Kd.R_alloc | apply Kd.R_drewN | apply Kd.R_drew)); exact Kd.R_mono HO286.out (fun _ hk => ⟨hk.1.2, hk.2⟩)) hg hat)
             have n5_ := am (hb)
             have n6_ := am (ho)
             clear HO_8
             clear HO_10
             clear BK259
             clear HI258
             clear HO286
             clear HB
             clear HO280
             have HO_8 := n0_
             have HO_10 := n1_
             have BK259 := n2_
             have HI258 := n3_
             have HO286 := n4_
             have HB := n5_
             have HO283 := n6_
             clear n0_ n1_ n2_ n3_ n4_ n5_ n6_
             clear ho hb hg hat
             refine hK.out _ _ ⟨(blk_cell BK259.out 0).trans rfl, (blk_cell BK259.out 1).trans rfl, (blk_cell BK259.out 2).trans rfl, (blk_cell BK259.out 3).trans rfl, (blk_cell BK259.out 4).trans rfl, (blk_cell BK259.out 5).trans rfl⟩ (fun hHeld => ?_)
             clear hK K
             refine norm_ (a' := ?_) ?_ ?_
             rotate_left
             ·show Act.put _ (some 37) _ = _
              simp only [Act.put, List.setIfInBounds_toArray, List.set_cons_zero, List.set_cons_succ, i64_w, i32_w]
              rfl
             exact norm_ (by simp only [putAll, Act.put, List.setIfInBounds_toArray, List.set_cons_zero, List.set_cons_succ]) (hCont (v279, v282, v285) _ ⟨hHeld, (kr HO283), (by (with_reducible repeat (first | apply Kd.R_alloc | apply Kd.R_drewN | apply Kd.R_drew)); exact Kd.R_mono HO286.out (fun _ hk => ⟨hk.2, hk.1⟩)), (kr HO_10), (kr HO_8), (kb BK259), (si28 HI258), (be HB)⟩)
           rintro ⟨v279, v282, v285⟩ w35 ⟨hS_, h0_, h1_, h2_, h3_, h4_, h5_, h6_⟩
           have n0_ : Aside0 (Kd.R k38 38 w35 w.heap.size (fun k_ => some k_ ≠ (v285 : Value).ownBlock ∧ k_ ≠ gb259) v282 y281) := ⟨h0_⟩
           have n1_ : Aside0 (Kd.R k38 38 w35 w.heap.size (fun k_ => some k_ ≠ (v282 : Value).ownBlock ∧ k_ ≠ gb259) v285 y284) := ⟨h1_⟩
           have n2_ : Aside0 (Kd.R k36 36 w35 w.heap.size (fun k_ => some k_ ≠ (u8 : Value).ownBlock) (.slice (some ad273) t267.length co24) t267) := ⟨h2_⟩
           have n3_ : Aside0 (Kd.R k36 36 w35 w.heap.size (fun k_ => some k_ ≠ (.slice (some ad273) t267.length co24 : Value).ownBlock) u8 x8_1) := ⟨h3_⟩
           have n4_ : Aside0 (w35.heap[gb259]? = some (.cells #[.int .i8 ((rd_T36 t267 x11_1).f0), .int .i8 ((rd_T36 t267 x11_1).f1), .int .i8 a2_2, .int .i8 a2_3, .int .i8 a2_4, .int .i8 a2_5] 38 (0, 0))) := ⟨h4_⟩
           have n5_ : Aside0 (IsS28 w w35 gb258 t275 t276 t277) := ⟨h5_⟩
           have n6_ : Aside0 (Below w.heap.size w w35) := ⟨h6_⟩
           clear HO_8
           clear HO_10
           clear BK259
           clear HI258
           clear HB
           clear h0_ h1_ h2_ h3_ h4_ h5_ h6_
           have HO283 := n0_
           have HO286 := n1_
           have HO_10 := n2_
           have HO_8 := n3_
           have BK259 := n4_
           have HI258 := n5_
           have HB := n6_
           clear n0_ n1_ n2_ n3_ n4_ n5_ n6_
           have hHeld : w35.cell? ⟨gb259, 0, none⟩ = some (.int .i8 ((rd_T36 t267 x11_1).f0)) ∧ w35.cell? ⟨gb259, 1, none⟩ = some (.int .i8 ((rd_T36 t267 x11_1).f1)) ∧ w35.cell? ⟨gb259, 2, none⟩ = some (.int .i8 a2_2) ∧ w35.cell? ⟨gb259, 3, none⟩ = some (.int .i8 a2_3) ∧ w35.cell? ⟨gb259, 4, none⟩ = some (.int .i8 a2_4) ∧ w35.cell? ⟨gb259, 5, none⟩ = some (.int .i8 a2_5) := hS_
           obtain ⟨Ao37, co37, eo37⟩ := Kd.R_slice HO286.out
           (first | subst eo37 | (injection eo37 with f1_ f2_ f3_; have f4_ := f1_.symm; have f5_ := f3_.symm; clear f1_ f2_ f3_; subst f4_; subst f5_))
           refine norm_ (a' := ?_) ?_ ?_
           rotate_left
           ·simp only [putAll, Act.put, List.setIfInBounds_toArray, List.set_cons_zero, List.set_cons_succ]
            rfl
           refine one_ (i := 8) (N := some 40) #[true, true, true, true, true, true, true, true, true, false, false] rfl rfl (one_of HT_.out (by kernel_rfl)) (by decide) (fun K hK => ?_)
           refine Kd.R_append_rows_step k38 (w0 := w) w.heap.size (by rfl) (.tmp 37) (.tmp 39) 44 38 (.agg #[(.int .i8 0), (.int .i8 0), (.int .i8 0), (.int .i8 0), (.int .i8 0), (.int .i8 0)]) 6 rfl Try.underlying44 info38 rfl (by decide) (by omega) v282 y281 y284 _ _ _ (fun k_ => some k_ ≠ (.slice Ao37 y284.length co37 : Value).ownBlock ∧ k_ ≠ gb259) (fun _ => False) rfl rfl ?aO ?aR (fun _ _ h => h) (fun _ h => h.elim) ?aF ?aB ?aS ?aL ?_
           (case aR => repeat (first | exact (Kd.R_reads' HO286.out).2.2 | (with_reducible refine Kd.C_alloc ?_ _) | (with_reducible refine Kd.C_drewN ?_ _) | (with_reducible refine Kd.C_drew ?_)))
           (case aB => exact (be HB))
           (case aF => exact (fun k_ hk => ⟨Kd.fresh' (Kd.R_lt (kr HO286)) k_ hk, Kd.freshB (g := gb259) (o := .cells #[.int .i8 ((rd_T36 t267 x11_1).f0), .int .i8 ((rd_T36 t267 x11_1).f1), .int .i8 a2_2, .int .i8 a2_3, .int .i8 a2_4, .int .i8 a2_5] 38 (0, 0)) (kb BK259) k_ hk⟩))
           (case aO => exact (kr HO283))
           (case aS => exact (below_size (be HB)))
           (case aL => have := LMc20.out; omega)
           intro v288 w36 ho hb hg hat
           rw [← Ny287.out] at ho
           have n0_ := am (Kd.R_over' (kr HO_8) (Kd.R_typed (kr HO283)) (by decide) hg)
           have n1_ := am (Kd.R_over' (kr HO_10) (Kd.R_typed (kr HO283)) (by decide) hg)
           have n2_ := am (blk_grown (g := gb259) (o := .cells #[.int .i8 ((rd_T36 t267 x11_1).f0), .int .i8 ((rd_T36 t267 x11_1).f1), .int .i8 a2_2, .int .i8 a2_3, .int .i8 a2_4, .int .i8 a2_5] 38 (0, 0)) (kb BK259) hg (Kd.R_away HO283.out (fun _ hk => hk.2)))
           have n3_ := am (IsS28.grown (si28 HI258) hg (IsS28.own_ne HI258.out HO283.out (by decide)))
           have n4_ := am (Kd.R_after (ok := (fun k_ => k_ ≠ gb259)) (by (with_reducible repeat (first | apply Kd.R_alloc | apply Kd.R_drewN | apply Kd.R_drew)); exact Kd.R_mono HO286.out (fun _ hk => ⟨hk.2, hk.1⟩)) hg hat)
           have n5_ := am (hb)
           have n6_ := am (ho)
           clear HO_8
           clear HO_10
           clear BK259
           clear HI258
           clear HO286
           clear HB
           clear HO283
           have HO_8 := n0_
           have HO_10 := n1_
           have BK259 := n2_
           have HI258 := n3_
           have HO286 := n4_
           have HB := n5_
           have HO289 := n6_
           clear n0_ n1_ n2_ n3_ n4_ n5_ n6_
           clear ho hb hg hat
           obtain ⟨Ao38, co38, eo38⟩ := Kd.R_slice HO289.out
           (first | subst eo38 | (injection eo38 with f1_ f2_ f3_; have f4_ := f1_.symm; have f5_ := f3_.symm; clear f1_ f2_ f3_; subst f4_; subst f5_))
           refine hK.out _ _ ⟨(blk_cell BK259.out 0).trans rfl, (blk_cell BK259.out 1).trans rfl, (blk_cell BK259.out 2).trans rfl, (blk_cell BK259.out 3).trans rfl, (blk_cell BK259.out 4).trans rfl, (blk_cell BK259.out 5).trans rfl⟩ (fun hHeld => ?_)
           clear hK K
           refine norm_ (a' := ?_) ?_ ?_
           rotate_left
           ·show Act.put _ (some 40) _ = _
            simp only [Act.put, List.setIfInBounds_toArray, List.set_cons_zero, List.set_cons_succ, i64_w, i32_w]
            rfl
           refine one_ (i := 9) (N := some 41) #[true, true, true, true, true, true, true, true, true, true, false] rfl rfl (one_of HT_.out (by kernel_rfl)) (by decide) (fun K hK => ?_)
           refine goes_ Try.func128 (by kernel_rfl) rfl #[.pointer (some ⟨gb258, 0, none⟩), .slice Ao38 y287.length co38] (by rfl) rfl rfl (by (try simp only [List.map_toArray, List.map_cons, List.map_nil]); first | done | rfl | (simp only [List.length_drop, List.length_take]; rfl)) ?_
           with_reducible refine (spec_l01Right.calls k1 gb258 t275 t276 t277 _ _ y287 true t291 t292 t293 w _ ?side1 ?side2 ?side3 ?side4 A21.out).mono ?_
           (case side1 => exact si28 HI258)
           (case side2 => exact be HB)
           (case side3 => exact Kd.C_foot_own (IsS28.apart (show IsS28 w _ gb258 t275 t276 t277 from si28 HI258) (kr HO289) (by decide)) (fun _ h_ => h_.2))
           (case side4 => exact (Kd.R_reads' HO289.out).2.1)
           rintro e w39 ⟨rfl, hi, hb, hk⟩
           refine ⟨_, rfl, ?_⟩
           have n0_ := am (Kd.R_mono (Kd.R_keep (IsS28.apart (show IsS28 w _ gb258 t275 t276 t277 from si28 HI258) (kr HO_8) (by decide)) hk (fun _ h => h.2)) (fun _ h => h.1))
           have n1_ := am (Kd.R_mono (Kd.R_keep (IsS28.apart (show IsS28 w _ gb258 t275 t276 t277 from si28 HI258) (kr HO_10) (by decide)) hk (fun _ h => h.2)) (fun _ h => h.1))
           have n2_ := am (KeepBut.blk hk (g' := gb259) (o := .cells #[.int .i8 ((rd_T36 t267 x11_1).f0), .int .i8 ((rd_T36 t267 x11_1).f1), .int .i8 a2_2, .int .i8 a2_3, .int .i8 a2_4, .int .i8 a2_5] 38 (0, 0)) (kb BK259) NB259_258.out (by simp))
           have n3_ := am (Kd.R_mono (Kd.R_keep (IsS28.apart (show IsS28 w _ gb258 t275 t276 t277 from si28 HI258) (kr HO286) (by decide)) hk (fun _ h => h.2)) (fun _ h => h.1))
           have n4_ := am (Kd.R_mono (Kd.R_keep (IsS28.apart (show IsS28 w _ gb258 t275 t276 t277 from si28 HI258) (kr HO289) (by decide)) hk (fun _ h => h.2)) (fun _ h => h.1))
           have n5_ := am (hb)
           have n6_ := am (hi)
           clear HO_8
           clear HO_10
           clear BK259
           clear HO286
           clear HO289
           clear HB
           clear HI258
           have HO_8 := n0_
           have HO_10 := n1_
           have BK259 := n2_
           have HO286 := n3_
           have HO289 := n4_
           have HB := n5_
           have HI258 := n6_
           clear n0_ n1_ n2_ n3_ n4_ n5_ n6_
           (try clear hb)
           (try clear hb2)
           (try clear hk)
           (try clear hi)
           refine hK.out _ _ ⟨(blk_cell BK259.out 0).trans rfl, (blk_cell BK259.out 1).trans rfl, (blk_cell BK259.out 2).trans rfl, (blk_cell BK259.out 3).trans rfl, (blk_cell BK259.out 4).trans rfl, (blk_cell BK259.out 5).trans rfl⟩ (fun hHeld => ?_)
           clear hK K
           refine norm_ (a' := ?_) ?_ ?_
           rotate_left
           ·show Act.put _ (some 41) _ = _
            simp only [Act.put, List.setIfInBounds_toArray, List.set_cons_zero, List.set_cons_succ, i64_w, i32_w]
            rfl
           refine pS (i := 10) (some 42) #[true, true, true, true, true, true, true, true, true, true, true] (any_of HT_.out (by kernel_rfl)) ?_
           refine done_ (done_of HT_.out (by kernel_rfl)) ?_
           have p294 : 0 ≤ (x11_1 : Int) := of_decide_eq_true (by first | (with_reducible assumption) | assumption)
           have q294 : x11_1 < (t267.length : Int) := of_decide_eq_true (by first | (with_reducible assumption) | assumption)
           obtain ⟨ad294, e294, hx294_0, hx294_1⟩ := at_T36 (Kd.R_reads' HO_10.out).2.2 x11_1 p294 q294
           obtain rfl : ad273 = ad294 := (by injection e294)
           replace p294 := eq_true p294
           replace q294 := eq_true q294
           try go_wp2_with (first | ((with_reducible refine gate_dst (N := 48) rfl ?_); (try (refine gate_guard (by rfl) ?_; dsimp only)); refine Kd.R_lit k36 _ 36 ?hg (N := 48) ?hd (xs := ([(⟨(rd_T36 t267 x11_1).f0, (rd_T36 t267 x11_1).f1⟩ : S36)] : List (S36))) (inner := [.int .i8 ((rd_T36 t267 x11_1).f0), .int .i8 ((rd_T36 t267 x11_1).f1)]) (ok := fun _ => True) (okp := fun _ => True) ?hr ?hp (fun _ hk => hk) trivial (Below.refl _ _) (Nat.le_refl _) (by simp) ?_; (case hd => rfl); (case hg => rfl); (case hr => first | (go_simp; done) | (go_simp; rfl)); (case hp => exact (Reps.c2 (show Kd.M k36 _ _ _ (⟨(rd_T36 t267 x11_1).f0, (rd_T36 t267 x11_1).f1⟩ : S36) [.int .i8 ((rd_T36 t267 x11_1).f0), .int .i8 ((rd_T36 t267 x11_1).f1)] from (k36_mkM _ _ _ (⟨(rd_T36 t267 x11_1).f0, (rd_T36 t267 x11_1).f1⟩ : S36) )) (Reps.none _ _))); intro v296 w40 ho41 hb hg_ hnew_; clear hg_ hnew_; (first | rw [← Ny295.out] at ho41 | (simp only [Int.reduceToNat] at ho41; rw [← Ny295.out] at ho41)); have HO297 := am (Kd.R_lower (Kd.R_new' (Kd.R_new' ho41 (Kd.R_lt (kr HO_8))) (Kd.R_lt (kr HO_10))) (below_size (be HB))); replace HO_8 := am (Kd.R_elder' (kr HO_8) (Kd.R_base ho41) hb); replace HO_10 := am (Kd.R_elder' (kr HO_10) (Kd.R_base ho41) hb); replace HO286 := am (Kd.R_below (kr HO286) hb); replace HO289 := am (Kd.R_below (kr HO289) hb); replace BK259 := bB BK259 hb; replace HI258 := am (IsS28.below (si28 HI258) hb); replace HB := am (below_step (be HB) hb); clear hb ho41; obtain ⟨Ao43, co43, eo43⟩ := Kd.R_slice HO297.out; subst eo43) | ((with_reducible refine gate_builtin (b := .append) (xs := #[.tmp 43, .tmp 48]) rfl ?_); (try (refine gate_guard (by rfl) ?_; dsimp only)); at_builtin; refine Kd.R_append_rows k36 (w0 := w) w.heap.size rfl (.tmp 43) (.tmp 48) 56 36 (.agg #[(.int .i8 0), (.int .i8 0)]) 2 rfl Try.underlying56 info36 rfl (by decide) (by omega) u8 x8_1 y295 _ _ _ (fun k_ => some k_ ≠ (.slice (some ad273) t267.length co24 : Value).ownBlock ∧ some k_ ≠ (.slice Ao43 y295.length co43 : Value).ownBlock) (fun _ => False) rfl rfl ?aO ?aR (fun _ _ h => h) (fun _ h => h.elim) ?aF ?aB ?aS ?aL ?_; (case aR => repeat (first | exact (Kd.R_reads' HO297.out).2.2 | (with_reducible refine Kd.C_alloc ?_ _) | (with_reducible refine Kd.C_drewN ?_ _) | (with_reducible refine Kd.C_drew ?_))); (case aB => exact (be HB)); (case aF => exact (fun k_ hk => ⟨Kd.fresh' (Kd.R_lt (kr HO_10)) k_ hk, Kd.fresh' (Kd.R_lt (kr HO297)) k_ hk⟩)); (case aO => exact (kr HO_8)); (case aS => exact (below_size (be HB))); (case aL => have := LMc23.out; omega); intro v299 w42 ho hb hg hat; rw [← Ny298.out] at ho; have HO300 := am (ho); replace HO_10 := am (Kd.R_after (ok := (fun k_ => some k_ ≠ (.slice Ao43 y295.length co43 : Value).ownBlock)) (by (with_reducible repeat (first | apply Kd.R_alloc | apply Kd.R_drewN | apply Kd.R_drew)); exact Kd.R_mono HO_10.out (fun _ hk => ⟨hk.2, hk.1⟩)) hg hat); replace BK259 := am (blk_grown (g := gb259) (o := .cells #[.int .i8 ((rd_T36 t267 x11_1).f0), .int .i8 ((rd_T36 t267 x11_1).f1), .int .i8 a2_2, .int .i8 a2_3, .int .i8 a2_4, .int .i8 a2_5] 38 (0, 0)) (kb BK259) hg (Kd.R_ne HO_8.out BK259.out (by decide))); replace HI258 := am (IsS28.grown (si28 HI258) hg (IsS28.own_ne HI258.out HO_8.out (by decide))); replace HO286 := am (Kd.R_over' (kr HO286) (Kd.R_typed (kr HO_8)) (by decide) hg); replace HO289 := am (Kd.R_over' (kr HO289) (Kd.R_typed (kr HO_8)) (by decide) hg); replace HO297 := am (Kd.R_after (ok := (fun k_ => some k_ ≠ (.slice (some ad273) t267.length co24 : Value).ownBlock)) (by (with_reducible repeat (first | apply Kd.R_alloc | apply Kd.R_drewN | apply Kd.R_drew)); exact Kd.R_mono HO297.out (fun _ hk => ⟨hk.2, hk.1.2⟩)) hg hat); replace HB := am (hb); clear HO_8; clear ho hb hg hat))
           go_roundg k1
           case measure => have := HK1.out; omega
           case rel => exact ⟨(y298), (wrap64 (x11_1 + 1)), (t291), (t292), (t293), ((rd_T36 t267 x11_1).f0), ((rd_T36 t267 x11_1).f1), vv, H', ⟨by have := HK1.out; omega⟩, ⟨by (with_reducible repeat (first | apply Kd.R_alloc | apply Kd.R_drewN | apply Kd.R_drew)); exact Kd.R_mono HO300.out (fun _ hk => hk.1)⟩, ⟨by (with_reducible repeat (first | apply Kd.R_alloc | apply Kd.R_drewN | apply Kd.R_drew)); exact Kd.R_mono HO_10.out (fun _ hk => hk.2)⟩, ⟨kb BK259⟩, ⟨si28 HI258⟩, ⟨be HB⟩⟩
          ·rw [if_neg c23] at H
           exact absurd H (by simp)
         ·replace c22 := Bool.eq_false_iff.mpr c22
          subst c22
          have H1 : (spec_PlacesFor.l0 k1 l1 x8_1 t267 (wrap64 (x11_1 + 1)) t291 t292 t293 ((rd_T36 t267 x11_1).f0) ((rd_T36 t267 x11_1).f1) a2_2 a2_3 a2_4 a2_5) = some (r1, r2) := by rw [if_neg (show ¬ (false = true) by decide)] at H; exact H
          clear H
          have H := H1
          clear H1
          have H' := am H
          clear H
          obtain ⟨Ao44, co44, eo44⟩ := Kd.R_slice HO_10.out
          subst eo44
          have p273 : 0 ≤ (x11_1 : Int) := of_decide_eq_true (by first | (with_reducible assumption) | assumption)
          have q273 : x11_1 < (t267.length : Int) := of_decide_eq_true (by first | (with_reducible assumption) | assumption)
          obtain ⟨ad273, e273, hx273_0, hx273_1⟩ := at_T36 (Kd.R_reads' HO_10.out).2.2 x11_1 p273 q273
          cases e273
          replace p273 := eq_true p273
          replace q273 := eq_true q273
          have hnb45 := NB259_258.out
          have hnc45 := NB258_259.out
          obtain ⟨hcz46_0, hcz46_1, hcz46_2, hcz46_3, hcz46_4, hcz46_5, hfz46_0, hfz46_1, hfz46_2, hfz46_3, hfz46_4, hfz46_5⟩ := bx6 BK259
          try go_wp2
          have n0_ : Aside0 (Kd.R k36 36 ((wr.setCell ⟨gb259, 0, none⟩ (.int .i8 ((rd_T36 t267 x11_1).f0))).setCell ⟨gb259, 1, none⟩ (.int .i8 ((rd_T36 t267 x11_1).f1))) w.heap.size (fun k_ => some k_ ≠ (.slice (some ad273) t267.length co44 : Value).ownBlock) u8 x8_1) := ⟨by (with_reducible repeat (first | apply Kd.R_alloc | apply Kd.R_drewN | apply Kd.R_drew)); exact Kd.R_mono (Kd.R_far (p := ⟨gb259, 1, none⟩) (Kd.R_far (p := ⟨gb259, 0, none⟩) (Kd.R_types HO_8.out BK259.out (by decide)) (fun _ hk => hk.2) (.int .i8 ((rd_T36 t267 x11_1).f0))) (fun _ hk => hk.2) (.int .i8 ((rd_T36 t267 x11_1).f1))) (fun _ hk => hk.1)⟩
          have n1_ : Aside0 (Kd.R k36 36 ((wr.setCell ⟨gb259, 0, none⟩ (.int .i8 ((rd_T36 t267 x11_1).f0))).setCell ⟨gb259, 1, none⟩ (.int .i8 ((rd_T36 t267 x11_1).f1))) w.heap.size (fun k_ => some k_ ≠ (u8 : Value).ownBlock) (.slice (some ad273) t267.length co44) t267) := ⟨by (with_reducible repeat (first | apply Kd.R_alloc | apply Kd.R_drewN | apply Kd.R_drew)); exact Kd.R_mono (Kd.R_far (p := ⟨gb259, 1, none⟩) (Kd.R_far (p := ⟨gb259, 0, none⟩) (Kd.R_types HO_10.out BK259.out (by decide)) (fun _ hk => hk.2) (.int .i8 ((rd_T36 t267 x11_1).f0))) (fun _ hk => hk.2) (.int .i8 ((rd_T36 t267 x11_1).f1))) (fun _ hk => hk.1)⟩
          have n2_ : Aside0 (((wr.setCell ⟨gb259, 0, none⟩ (.int .i8 ((rd_T36 t267 x11_1).f0))).setCell ⟨gb259, 1, none⟩ (.int .i8 ((rd_T36 t267 x11_1).f1))).heap[gb259]? = some (.cells #[.int .i8 ((rd_T36 t267 x11_1).f0), .int .i8 ((rd_T36 t267 x11_1).f1), .int .i8 a2_2, .int .i8 a2_3, .int .i8 a2_4, .int .i8 a2_5] 38 (0, 0))) := ⟨by (with_reducible repeat (first | refine blk_drewN ?_ _ | refine blk_drew ?_ | refine blk_alloc ?_ _)); refine blk_put (cs := #[.int .i8 ((rd_T36 t267 x11_1).f0), .int .i8 x260001_1, .int .i8 a2_2, .int .i8 a2_3, .int .i8 a2_4, .int .i8 a2_5]) ?_ 1 _ rfl; (with_reducible repeat (first | refine blk_drewN ?_ _ | refine blk_drew ?_ | refine blk_alloc ?_ _)); refine blk_put (cs := #[.int .i8 x260000_1, .int .i8 x260001_1, .int .i8 a2_2, .int .i8 a2_3, .int .i8 a2_4, .int .i8 a2_5]) ?_ 0 _ rfl; exact kb BK259⟩
          have n3_ : Aside0 (IsS28 w ((wr.setCell ⟨gb259, 0, none⟩ (.int .i8 ((rd_T36 t267 x11_1).f0))).setCell ⟨gb259, 1, none⟩ (.int .i8 ((rd_T36 t267 x11_1).f1))) gb258 x259000_1 x259001_1 x259002_1) := ⟨si28 HI258⟩
          have n4_ : Aside0 (Below w.heap.size w ((wr.setCell ⟨gb259, 0, none⟩ (.int .i8 ((rd_T36 t267 x11_1).f0))).setCell ⟨gb259, 1, none⟩ (.int .i8 ((rd_T36 t267 x11_1).f1)))) := ⟨be HB⟩
          (try clear HO_8)
          (try clear HO_10)
          (try clear BK259)
          (try clear HI258)
          (try clear HB)
          generalize ((wr.setCell ⟨gb259, 0, none⟩ (.int .i8 ((rd_T36 t267 x11_1).f0))).setCell ⟨gb259, 1, none⟩ (.int .i8 ((rd_T36 t267 x11_1).f1))) = w47 at n0_ n1_ n2_ n3_ n4_ ⊢
          have HO_8 := n0_
          have HO_10 := n1_
          have BK259 := n2_
          have HI258 := n3_
          have HB := n4_
          clear n0_ n1_ n2_ n3_ n4_
          have n0_ := am (Kd.R_drew HO_8.out)
          have n1_ := am (Kd.R_drew HO_10.out)
          have n2_ := am (blk_drew BK259.out)
          have n3_ := am (IsS28.drew HI258.out)
          have n4_ := am (below_drew1 HB.out)
          clear HO_8
          clear HO_10
          clear BK259
          clear HI258
          clear HB
          have HO_8 := n0_
          have HO_10 := n1_
          have BK259 := n2_
          have HI258 := n3_
          have HB := n4_
          clear n0_ n1_ n2_ n3_ n4_
          refine start_ (n := 11) (S := fun w' => w'.cell? ⟨gb259, 0, none⟩ = some (.int .i8 ((rd_T36 t267 x11_1).f0)) ∧ w'.cell? ⟨gb259, 1, none⟩ = some (.int .i8 ((rd_T36 t267 x11_1).f1)) ∧ w'.cell? ⟨gb259, 2, none⟩ = some (.int .i8 a2_2) ∧ w'.cell? ⟨gb259, 3, none⟩ = some (.int .i8 a2_3) ∧ w'.cell? ⟨gb259, 4, none⟩ = some (.int .i8 a2_4) ∧ w'.cell? ⟨gb259, 5, none⟩ = some (.int .i8 a2_5)) (ds := []) #[false, false, false, false, false, false, false, false, false, false, false] (by kernel_rfl) rfl rfl ⟨(blk_cell BK259.out 0).trans rfl, (blk_cell BK259.out 1).trans rfl, (blk_cell BK259.out 2).trans rfl, (blk_cell BK259.out 3).trans rfl, (blk_cell BK259.out 4).trans rfl, (blk_cell BK259.out 5).trans rfl⟩ (fun hHeld => ?_); refine with_tabW spec_PlacesFor.tab10 spec_PlacesFor.bits10 (fun HT_ HW_ => ?_)
          generalize w47.drew = w48 at HO_8 HO_10 BK259 HI258 HB hHeld ⊢
          refine tS (i := 0) (some 32) #[true, false, false, false, false, false, false, false, false, false, false] (take_ofW HT_.out HW_.out (by kernel_rfl)) hHeld ?_
          refine one_ (i := 1) (N := some 33) #[true, true, false, false, false, false, false, false, false, false, false] rfl rfl (one_of HT_.out (by kernel_rfl)) (by decide) (fun K hK => ?_)
          refine goes_ Try.func105 (by kernel_rfl) rfl #[.pointer (some ⟨gb258, 0, none⟩), .agg #[.int .i8 ((rd_T36 t267 x11_1).f0), .int .i8 ((rd_T36 t267 x11_1).f1), .int .i8 a2_2, .int .i8 a2_3, .int .i8 a2_4, .int .i8 a2_5]] (by rfl) rfl rfl (by (try simp only [List.map_toArray, List.map_cons, List.map_nil]); first | done | rfl | (simp only [List.length_drop, List.length_take]; rfl)) ?_
          with_reducible refine (spec_l01Boat.calls gb258 x259000_1 x259001_1 x259002_1 ((rd_T36 t267 x11_1).f0) ((rd_T36 t267 x11_1).f1) a2_2 a2_3 a2_4 a2_5 true t275 t276 t277 w _ ?side1 ?side2 A17.out).mono ?_
          (case side1 => exact si28 HI258)
          (case side2 => exact be HB)
          rintro e w49 ⟨rfl, hi, hb, hk⟩
          refine ⟨_, rfl, ?_⟩
          have n0_ := am (Kd.R_mono (Kd.R_keep (IsS28.apart (show IsS28 w _ gb258 x259000_1 x259001_1 x259002_1 from si28 HI258) (kr HO_8) (by decide)) hk (fun _ h => h.2)) (fun _ h => h.1))
          have n1_ := am (Kd.R_mono (Kd.R_keep (IsS28.apart (show IsS28 w _ gb258 x259000_1 x259001_1 x259002_1 from si28 HI258) (kr HO_10) (by decide)) hk (fun _ h => h.2)) (fun _ h => h.1))
          have n2_ := am (KeepBut.blk hk (g' := gb259) (o := .cells #[.int .i8 ((rd_T36 t267 x11_1).f0), .int .i8 ((rd_T36 t267 x11_1).f1), .int .i8 a2_2, .int .i8 a2_3, .int .i8 a2_4, .int .i8 a2_5] 38 (0, 0)) (kb BK259) NB259_258.out (by simp))
          have n3_ := am (hb)
          have n4_ := am (hi)
          clear HO_8
          clear HO_10
          clear BK259
          clear HB
          clear HI258
          have HO_8 := n0_
          have HO_10 := n1_
          have BK259 := n2_
          have HB := n3_
          have HI258 := n4_
          clear n0_ n1_ n2_ n3_ n4_
          (try clear hb)
          (try clear hb2)
          (try clear hk)
          (try clear hi)
          refine hK.out _ _ ⟨(blk_cell BK259.out 0).trans rfl, (blk_cell BK259.out 1).trans rfl, (blk_cell BK259.out 2).trans rfl, (blk_cell BK259.out 3).trans rfl, (blk_cell BK259.out 4).trans rfl, (blk_cell BK259.out 5).trans rfl⟩ (fun hHeld => ?_)
          clear hK K
          refine norm_ (a' := ?_) ?_ ?_
          rotate_left
          ·show Act.put _ (some 33) _ = _
           simp only [Act.put, List.setIfInBounds_toArray, List.set_cons_zero, List.set_cons_succ, i64_w, i32_w]
           rfl
          refine pS (i := 2) (some 34) #[true, true, true, false, false, false, false, false, false, false, false] (any_of HT_.out (by kernel_rfl)) ?_
          refine pS (i := 4) (some 36) #[true, true, true, false, true, false, false, false, false, false, false] (any_of HT_.out (by kernel_rfl)) ?_
          refine tS (i := 6) (some 38) #[true, true, true, false, true, false, true, false, false, false, false] (take_ofW HT_.out HW_.out (by kernel_rfl)) hHeld ?_
          refine join_ (σ := Value × Value × Value) 3 #[true, true, true, true, true, true, true, true, false, false, false] (fun s_ => [(35, s_.1), (37, s_.2.1), (39, s_.2.2)]) (fun s_ w' => (w'.cell? ⟨gb259, 0, none⟩ = some (.int .i8 ((rd_T36 t267 x11_1).f0)) ∧ w'.cell? ⟨gb259, 1, none⟩ = some (.int .i8 ((rd_T36 t267 x11_1).f1)) ∧ w'.cell? ⟨gb259, 2, none⟩ = some (.int .i8 a2_2) ∧ w'.cell? ⟨gb259, 3, none⟩ = some (.int .i8 a2_3) ∧ w'.cell? ⟨gb259, 4, none⟩ = some (.int .i8 a2_4) ∧ w'.cell? ⟨gb259, 5, none⟩ = some (.int .i8 a2_5)) ∧ (Kd.R k38 38 w' w.heap.size (fun k_ => some k_ ≠ (s_.2.2 : Value).ownBlock ∧ k_ ≠ gb259) s_.2.1 y281) ∧ (Kd.R k38 38 w' w.heap.size (fun k_ => some k_ ≠ (s_.2.1 : Value).ownBlock ∧ k_ ≠ gb259) s_.2.2 y284) ∧ (Kd.R k36 36 w' w.heap.size (fun k_ => some k_ ≠ (u8 : Value).ownBlock) (.slice (some ad273) t267.length co44) t267) ∧ (Kd.R k36 36 w' w.heap.size (fun k_ => some k_ ≠ (.slice (some ad273) t267.length co44 : Value).ownBlock) u8 x8_1) ∧ (w'.heap[gb259]? = some (.cells #[.int .i8 ((rd_T36 t267 x11_1).f0), .int .i8 ((rd_T36 t267 x11_1).f1), .int .i8 a2_2, .int .i8 a2_3, .int .i8 a2_4, .int .i8 a2_5] 38 (0, 0))) ∧ (IsS28 w w' gb258 t275 t276 t277) ∧ (Below w.heap.size w w')) ?_ ?_
          rotate_left
          ·intro hCont
           refine two_ (i := 3) (j := 7) (Ni := some 35) (Nj := some 39) #[true, true, true, true, true, false, true, false, false, false, false] #[true, true, true, false, true, false, true, true, false, false, false] rfl rfl rfl rfl (two_of HT_.out (by kernel_rfl)) (by decide) (by decide) (fun K hK => ?_) (fun K hK => ?_)
           ·skip
            refine Kd.R_lit_step k38 _ 38 ?hg (N := 35) ?hd (xs := ([] : List (S38))) (inner := []) (ok := fun _ => True) (okp := fun _ => True) ?hr ?hp (fun _ hk => hk) trivial (Below.refl _ _) (Nat.le_refl _) (by simp) ?_; (case hd => rfl); (case hg => rfl); (case hr => first | (go_simp; done) | (go_simp; rfl)); (case hp => exact (Reps.none _ _))
            intro v279 w50 ho51 hb hg_ hnew_
            clear hg_ hnew_
            (first | rw [← Ny278.out] at ho51 | (simp only [Int.reduceToNat] at ho51; rw [← Ny278.out] at ho51))
            have n0_ := am (Kd.R_below (kr HO_8) hb)
            have n1_ := am (Kd.R_below (kr HO_10) hb)
            have n2_ := am (Kd.R_lower (Kd.R_newB ho51 (g := gb259) (o := .cells #[.int .i8 ((rd_T36 t267 x11_1).f0), .int .i8 ((rd_T36 t267 x11_1).f1), .int .i8 a2_2, .int .i8 a2_3, .int .i8 a2_4, .int .i8 a2_5] 38 (0, 0)) (kb BK259)) (below_size (be HB)))
            have n3_ := bB BK259 hb
            have n4_ := am (IsS28.below (si28 HI258) hb)
            have n5_ := am (below_step (be HB) hb)
            clear HO_8
            clear HO_10
            clear BK259
            clear HI258
            clear HB
            have HO_8 := n0_
            have HO_10 := n1_
            have HO280 := n2_
            have BK259 := n3_
            have HI258 := n4_
            have HB := n5_
            clear n0_ n1_ n2_ n3_ n4_ n5_
            clear hb ho51
            refine hK.out _ _ ⟨(blk_cell BK259.out 0).trans rfl, (blk_cell BK259.out 1).trans rfl, (blk_cell BK259.out 2).trans rfl, (blk_cell BK259.out 3).trans rfl, (blk_cell BK259.out 4).trans rfl, (blk_cell BK259.out 5).trans rfl⟩ (fun hHeld => ?_)
            clear hK K
            refine norm_ (a' := ?_) ?_ ?_
            rotate_left
            ·show Act.put _ (some 35) _ = _
             simp only [Act.put, List.setIfInBounds_toArray, List.set_cons_zero, List.set_cons_succ, i64_w, i32_w]
             rfl
            refine two_ (i := 5) (j := 7) (Ni := some 37) (Nj := some 39) #[true, true, true, true, true, true, true, false, false, false, false] #[true, true, true, true, true, false, true, true, false, false, false] rfl rfl rfl rfl (two_of HT_.out (by kernel_rfl)) (by decide) (by decide) (fun K hK => ?_) (fun K hK => ?_)
            ·skip
             refine Kd.R_append_rows_step k38 (w0 := w) w.heap.size (by rfl) (.tmp 35) (.tmp 36) 44 38 (.agg #[(.int .i8 0), (.int .i8 0), (.int .i8 0), (.int .i8 0), (.int .i8 0), (.int .i8 0)]) 6 rfl Try.underlying44 info38 rfl (by decide) (by omega) v279 y278 l1 _ _ _ (fun k_ => k_ ≠ gb259) (fun _ => False) rfl rfl ?aO ?aR (fun _ _ h => h) (fun _ h => h.elim) ?aF ?aB ?aS ?aL ?_
             (case aR => repeat (first | exact (Kd.C_below HR1.out HB.out) | (with_reducible refine Kd.C_alloc ?_ _) | (with_reducible refine Kd.C_drewN ?_ _) | (with_reducible refine Kd.C_drew ?_)))
             (case aB => exact (be HB))
             (case aF => exact (fun k_ hk => Kd.freshB (g := gb259) (o := .cells #[.int .i8 ((rd_T36 t267 x11_1).f0), .int .i8 ((rd_T36 t267 x11_1).f1), .int .i8 a2_2, .int .i8 a2_3, .int .i8 a2_4, .int .i8 a2_5] 38 (0, 0)) (kb BK259) k_ hk))
             (case aO => exact (by (with_reducible repeat (first | apply Kd.R_alloc | apply Kd.R_drewN | apply Kd.R_drew)); exact Kd.R_mono HO280.out (fun _ hk => hk.2)))
             (case aS => exact (below_size (be HB)))
             (case aL => have := LMc19.out; omega)
             intro v282 w52 ho hb hg hat
             rw [← Ny281.out] at ho
             have n0_ := am (Kd.R_over' (kr HO_8) (Kd.R_typed (kr HO280)) (by decide) hg)
             have n1_ := am (Kd.R_over' (kr HO_10) (Kd.R_typed (kr HO280)) (by decide) hg)
             have n2_ := am (blk_grown (g := gb259) (o := .cells #[.int .i8 ((rd_T36 t267 x11_1).f0), .int .i8 ((rd_T36 t267 x11_1).f1), .int .i8 a2_2, .int .i8 a2_3, .int .i8 a2_4, .int .i8 a2_5] 38 (0, 0)) (kb BK259) hg (Kd.R_away HO280.out (fun _ hk => hk.2)))
             have n3_ := am (IsS28.grown (si28 HI258) hg (IsS28.own_ne HI258.out HO280.out (by decide)))
             have n4_ := am (hb)
             have n5_ := am (ho)
             clear HO_8
             clear HO_10
             clear BK259
             clear HI258
             clear HB
             clear HO280
             have HO_8 := n0_
             have HO_10 := n1_
             have BK259 := n2_
             have HI258 := n3_
             have HB := n4_
             have HO283 := n5_
             clear n0_ n1_ n2_ n3_ n4_ n5_
             clear ho hb hg hat
             refine hK.out _ _ ⟨(blk_cell BK259.out 0).trans rfl, (blk_cell BK259.out 1).trans rfl, (blk_cell BK259.out 2).trans rfl, (blk_cell BK259.out 3).trans rfl, (blk_cell BK259.out 4).trans rfl, (blk_cell BK259.out 5).trans rfl⟩ (fun hHeld => ?_)
             clear hK K
             refine norm_ (a' := ?_) ?_ ?_
             rotate_left
             ·show Act.put _ (some 37) _ = _
              simp only [Act.put, List.setIfInBounds_toArray, List.set_cons_zero, List.set_cons_succ, i64_w, i32_w]
              rfl
             refine one_ (i := 7) (N := some 39) #[true, true, true, true, true, true, true, true, false, false, false] rfl rfl (one_of HT_.out (by kernel_rfl)) (by decide) (fun K hK => ?_)
             refine Kd.R_lit_step k38 _ 38 ?hg (N := 39) ?hd (xs := ([(⟨(⟨(rd_T36 t267 x11_1).f0, (rd_T36 t267 x11_1).f1⟩ : S36), a2_2, a2_3, a2_4, a2_5⟩ : S38)] : List (S38))) (inner := [.int .i8 ((rd_T36 t267 x11_1).f0), .int .i8 ((rd_T36 t267 x11_1).f1), .int .i8 a2_2, .int .i8 a2_3, .int .i8 a2_4, .int .i8 a2_5]) (ok := fun _ => True) (okp := fun _ => True) ?hr ?hp (fun _ hk => hk) trivial (Below.refl _ _) (Nat.le_refl _) (by simp) ?_; (case hd => rfl); (case hg => rfl); (case hr => first | (go_simp; done) | (go_simp; rfl)); (case hp => exact (Reps.c6 (show Kd.M k38 _ _ _ (⟨(⟨(rd_T36 t267 x11_1).f0, (rd_T36 t267 x11_1).f1⟩ : S36), a2_2, a2_3, a2_4, a2_5⟩ : S38) [.int .i8 ((rd_T36 t267 x11_1).f0), .int .i8 ((rd_T36 t267 x11_1).f1), .int .i8 a2_2, .int .i8 a2_3, .int .i8 a2_4, .int .i8 a2_5] from (k38_mkM _ _ _ (⟨(⟨(rd_T36 t267 x11_1).f0, (rd_T36 t267 x11_1).f1⟩ : S36), a2_2, a2_3, a2_4, a2_5⟩ : S38) )) (Reps.none _ _)))
             intro v285 w53 ho54 hb hg_ hnew_
             clear hg_ hnew_
             (first | rw [← Ny284.out] at ho54 | (simp only [Int.reduceToNat] at ho54; rw [← Ny284.out] at ho54))
             have n0_ := am (Kd.R_below (kr HO_8) hb)
             have n1_ := am (Kd.R_below (kr HO_10) hb)
             have n2_ := am (Kd.R_elder' (kr HO283) (Kd.R_base ho54) hb)
             have n3_ := am (Kd.R_lower (Kd.R_newB (Kd.R_new' ho54 (Kd.R_lt (kr HO283))) (g := gb259) (o := .cells #[.int .i8 ((rd_T36 t267 x11_1).f0), .int .i8 ((rd_T36 t267 x11_1).f1), .int .i8 a2_2, .int .i8 a2_3, .int .i8 a2_4, .int .i8 a2_5] 38 (0, 0)) (kb BK259)) (below_size (be HB)))
             have n4_ := bB BK259 hb
             have n5_ := am (IsS28.below (si28 HI258) hb)
             have n6_ := am (below_step (be HB) hb)
             clear HO_8
             clear HO_10
             clear HO283
             clear BK259
             clear HI258
             clear HB
             have HO_8 := n0_
             have HO_10 := n1_
             have HO283 := n2_
             have HO286 := n3_
             have BK259 := n4_
             have HI258 := n5_
             have HB := n6_
             clear n0_ n1_ n2_ n3_ n4_ n5_ n6_
             clear hb ho54
             refine hK.out _ _ ⟨(blk_cell BK259.out 0).trans rfl, (blk_cell BK259.out 1).trans rfl, (blk_cell BK259.out 2).trans rfl, (blk_cell BK259.out 3).trans rfl, (blk_cell BK259.out 4).trans rfl, (blk_cell BK259.out 5).trans rfl⟩ (fun hHeld => ?_)
             clear hK K
             refine norm_ (a' := ?_) ?_ ?_
             rotate_left
             ·show Act.put _ (some 39) _ = _
              simp only [Act.put, List.setIfInBounds_toArray, List.set_cons_zero, List.set_cons_succ, i64_w, i32_w]
              rfl
             exact norm_ (by simp only [putAll, Act.put, List.setIfInBounds_toArray, List.set_cons_zero, List.set_cons_succ]) (hCont (v279, v282, v285) _ ⟨hHeld, (by (with_reducible repeat (first | apply Kd.R_alloc | apply Kd.R_drewN | apply Kd.R_drew)); exact Kd.R_mono HO283.out (fun _ hk => ⟨hk.2, hk.1⟩)), (by (with_reducible repeat (first | apply Kd.R_alloc | apply Kd.R_drewN | apply Kd.R_drew)); exact Kd.R_mono HO286.out (fun _ hk => ⟨hk.1.2, hk.2⟩)), (kr HO_10), (kr HO_8), (kb BK259), (si28 HI258), (be HB)⟩)
            ·skip
             refine Kd.R_lit_step k38 _ 38 ?hg (N := 39) ?hd (xs := ([(⟨(⟨(rd_T36 t267 x11_1).f0, (rd_T36 t267 x11_1).f1⟩ : S36), a2_2, a2_3, a2_4, a2_5⟩ : S38)] : List (S38))) (inner := [.int .i8 ((rd_T36 t267 x11_1).f0), .int .i8 ((rd_T36 t267 x11_1).f1), .int .i8 a2_2, .int .i8 a2_3, .int .i8 a2_4, .int .i8 a2_5]) (ok := fun _ => True) (okp := fun _ => True) ?hr ?hp (fun _ hk => hk) trivial (Below.refl _ _) (Nat.le_refl _) (by simp) ?_; (case hd => rfl); (case hg => rfl); (case hr => first | (go_simp; done) | (go_simp; rfl)); (case hp => exact (Reps.c6 (show Kd.M k38 _ _ _ (⟨(⟨(rd_T36 t267 x11_1).f0, (rd_T36 t267 x11_1).f1⟩ : S36), a2_2, a2_3, a2_4, a2_5⟩ : S38) [.int .i8 ((rd_T36 t267 x11_1).f0), .int .i8 ((rd_T36 t267 x11_1).f1), .int .i8 a2_2, .int .i8 a2_3, .int .i8 a2_4, .int .i8 a2_5] from (k38_mkM _ _ _ (⟨(⟨(rd_T36 t267 x11_1).f0, (rd_T36 t267 x11_1).f1⟩ : S36), a2_2, a2_3, a2_4, a2_5⟩ : S38) )) (Reps.none _ _)))
             intro v285 w52 ho53 hb hg_ hnew_
             clear hg_ hnew_
             (first | rw [← Ny284.out] at ho53 | (simp only [Int.reduceToNat] at ho53; rw [← Ny284.out] at ho53))
             have n0_ := am (Kd.R_below (kr HO_8) hb)
             have n1_ := am (Kd.R_below (kr HO_10) hb)
             have n2_ := am (Kd.R_elder' (kr HO280) (Kd.R_base ho53) hb)
             have n3_ := am (Kd.R_lower (Kd.R_newB (Kd.R_new' ho53 (Kd.R_lt (kr HO280))) (g := gb259) (o := .cells #[.int .i8 ((rd_T36 t267 x11_1).f0), .int .i8 ((rd_T36 t267 x11_1).f1), .int .i8 a2_2, .int .i8 a2_3, .int .i8 a2_4, .int .i8 a2_5] 38 (0, 0)) (kb BK259)) (below_size (be HB)))
             have n4_ := bB BK259 hb
             have n5_ := am (IsS28.below (si28 HI258) hb)
             have n6_ := am (below_step (be HB) hb)
             clear HO_8
             clear HO_10
             clear HO280
             clear BK259
             clear HI258
             clear HB
             have HO_8 := n0_
             have HO_10 := n1_
             have HO280 := n2_
             have HO286 := n3_
             have BK259 := n4_
             have HI258 := n5_
             have HB := n6_
             clear n0_ n1_ n2_ n3_ n4_ n5_ n6_
             clear hb ho53
             refine hK.out _ _ ⟨(blk_cell BK259.out 0).trans rfl, (blk_cell BK259.out 1).trans rfl, (blk_cell BK259.out 2).trans rfl, (blk_cell BK259.out 3).trans rfl, (blk_cell BK259.out 4).trans rfl, (blk_cell BK259.out 5).trans rfl⟩ (fun hHeld => ?_)
             clear hK K
             refine norm_ (a' := ?_) ?_ ?_
             rotate_left
             ·show Act.put _ (some 39) _ = _
              simp only [Act.put, List.setIfInBounds_toArray, List.set_cons_zero, List.set_cons_succ, i64_w, i32_w]
              rfl
             refine one_ (i := 5) (N := some 37) #[true, true, true, true, true, true, true, true, false, false, false] rfl rfl (one_of HT_.out (by kernel_rfl)) (by decide) (fun K hK => ?_)
             refine Kd.R_append_rows_step k38 (w0 := w) w.heap.size (by rfl) (.tmp 35) (.tmp 36) 44 38 (.agg #[(.int .i8 0), (.int .i8 0), (.int .i8 0), (.int .i8 0), (.int .i8 0), (.int .i8 0)]) 6 rfl Try.underlying44 info38 rfl (by decide) (by omega) v279 y278 l1 _ _ _ (fun k_ => some k_ ≠ (v285 : Value).ownBlock ∧ k_ ≠ gb259) (fun _ => False) rfl rfl ?aO ?aR (fun _ _ h => h) (fun _ h => h.elim) ?aF ?aB ?aS ?aL ?_
             (case aR => repeat (first | exact (Kd.C_below HR1.out HB.out) | (with_reducible refine Kd.C_alloc ?_ _) | (with_reducible refine Kd.C_drewN ?_ _) | (with_reducible refine Kd.C_drew ?_)))
             (case aB => exact (be HB))
             (case aF => exact (fun k_ hk => ⟨Kd.fresh' (Kd.R_lt (kr HO286)) k_ hk, Kd.freshB (g := gb259) (o := .cells #[.int .i8 ((rd_T36 t267 x11_1).f0), .int .i8 ((rd_T36 t267 x11_1).f1), .int .i8 a2_2, .int .i8 a2_3, .int .i8 a2_4, .int .i8 a2_5] 38 (0, 0)) (kb BK259) k_ hk⟩))
             (case aO => exact (by (with_reducible repeat (first | apply Kd.R_alloc | apply Kd.R_drewN | apply Kd.R_drew)); exact Kd.R_mono HO280.out (fun _ hk => ⟨hk.2, hk.1.2⟩)))
             (case aS => exact (below_size (be HB)))
             (case aL => have := LMc19.out; omega)
             intro v282 w54 ho hb hg hat
             rw [← Ny281.out] at ho
             have n0_ := am (Kd.R_over' (kr HO_8) (Kd.R_typed (kr HO280)) (by decide) hg)
             have n1_ := am (Kd.R_over' (kr HO_10) (Kd.R_typed (kr HO280)) (by decide) hg)
             have n2_ := am (blk_grown (g := gb259) (o := .cells #[.int .i8 ((rd_T36 t267 x11_1).f0), .int .i8 ((rd_T36 t267 x11_1).f1), .int .i8 a2_2, .int .i8 a2_3, .int .i8 a2_4, .int .i8 a2_5] 38 (0, 0)) (kb BK259) hg (Kd.R_away HO280.out (fun _ hk => hk.1.2)))
             have n3_ := am (IsS28.grown (si28 HI258) hg (IsS28.own_ne HI258.out HO280.out (by decide)))
             have n4_ := am (Kd.R_after (ok := (fun k_ => k_ ≠ gb259)) (by (with_reducible repeat (first | apply Kd.R_alloc | apply Kd.R_drewN | apply Kd.R_drew)); exact Kd.R_mono HO286.out (fun _ hk => ⟨hk.2, hk.1.2⟩)) hg hat)
             have n5_ := am (hb)
             have n6_ := am (ho)
             clear HO_8
             clear HO_10
             clear BK259
             clear HI258
             clear HO286
             clear HB
             clear HO280
             have HO_8 := n0_
             have HO_10 := n1_
             have BK259 := n2_
             have HI258 := n3_
             have HO286 := n4_
             have HB := n5_
             have HO283 := n6_
             clear n0_ n1_ n2_ n3_ n4_ n5_ n6_
             clear ho hb hg hat
             refine hK.out _ _ ⟨(blk_cell BK259.out 0).trans rfl, (blk_cell BK259.out 1).trans rfl, (blk_cell BK259.out 2).trans rfl, (blk_cell BK259.out 3).trans rfl, (blk_cell BK259.out 4).trans rfl, (blk_cell BK259.out 5).trans rfl⟩ (fun hHeld => ?_)
             clear hK K
             refine norm_ (a' := ?_) ?_ ?_
             rotate_left
             ·show Act.put _ (some 37) _ = _
              simp only [Act.put, List.setIfInBounds_toArray, List.set_cons_zero, List.set_cons_succ, i64_w, i32_w]
              rfl
             exact norm_ (by simp only [putAll, Act.put, List.setIfInBounds_toArray, List.set_cons_zero, List.set_cons_succ]) (hCont (v279, v282, v285) _ ⟨hHeld, (kr HO283), (by (with_reducible repeat (first | apply Kd.R_alloc | apply Kd.R_drewN | apply Kd.R_drew)); exact Kd.R_mono HO286.out (fun _ hk => ⟨hk.2, hk.1⟩)), (kr HO_10), (kr HO_8), (kb BK259), (si28 HI258), (be HB)⟩)
           ·skip
            refine Kd.R_lit_step k38 _ 38 ?hg (N := 39) ?hd (xs := ([(⟨(⟨(rd_T36 t267 x11_1).f0, (rd_T36 t267 x11_1).f1⟩ : S36), a2_2, a2_3, a2_4, a2_5⟩ : S38)] : List (S38))) (inner := [.int .i8 ((rd_T36 t267 x11_1).f0), .int .i8 ((rd_T36 t267 x11_1).f1), .int .i8 a2_2, .int .i8 a2_3, .int .i8 a2_4, .int .i8 a2_5]) (ok := fun _ => True) (okp := fun _ => True) ?hr ?hp (fun _ hk => hk) trivial (Below.refl _ _) (Nat.le_refl _) (by simp) ?_; (case hd => rfl); (case hg => rfl); (case hr => first | (go_simp; done) | (go_simp; rfl)); (case hp => exact (Reps.c6 (show Kd.M k38 _ _ _ (⟨(⟨(rd_T36 t267 x11_1).f0, (rd_T36 t267 x11_1).f1⟩ : S36), a2_2, a2_3, a2_4, a2_5⟩ : S38) [.int .i8 ((rd_T36 t267 x11_1).f0), .int .i8 ((rd_T36 t267 x11_1).f1), .int .i8 a2_2, .int .i8 a2_3, .int .i8 a2_4, .int .i8 a2_5] from (k38_mkM _ _ _ (⟨(⟨(rd_T36 t267 x11_1).f0, (rd_T36 t267 x11_1).f1⟩ : S36), a2_2, a2_3, a2_4, a2_5⟩ : S38) )) (Reps.none _ _)))
            intro v285 w50 ho51 hb hg_ hnew_
            clear hg_ hnew_
            (first | rw [← Ny284.out] at ho51 | (simp only [Int.reduceToNat] at ho51; rw [← Ny284.out] at ho51))
            have n0_ := am (Kd.R_below (kr HO_8) hb)
            have n1_ := am (Kd.R_below (kr HO_10) hb)
            have n2_ := am (Kd.R_lower (Kd.R_newB ho51 (g := gb259) (o := .cells #[.int .i8 ((rd_T36 t267 x11_1).f0), .int .i8 ((rd_T36 t267 x11_1).f1), .int .i8 a2_2, .int .i8 a2_3, .int .i8 a2_4, .int .i8 a2_5] 38 (0, 0)) (kb BK259)) (below_size (be HB)))
            have n3_ := bB BK259 hb
            have n4_ := am (IsS28.below (si28 HI258) hb)
            have n5_ := am (below_step (be HB) hb)
            clear HO_8
            clear HO_10
            clear BK259
            clear HI258
            clear HB
            have HO_8 := n0_
            have HO_10 := n1_
            have HO286 := n2_
            have BK259 := n3_
            have HI258 := n4_
            have HB := n5_
            clear n0_ n1_ n2_ n3_ n4_ n5_
            clear hb ho51
            refine hK.out _ _ ⟨(blk_cell BK259.out 0).trans rfl, (blk_cell BK259.out 1).trans rfl, (blk_cell BK259.out 2).trans rfl, (blk_cell BK259.out 3).trans rfl, (blk_cell BK259.out 4).trans rfl, (blk_cell BK259.out 5).trans rfl⟩ (fun hHeld => ?_)
            clear hK K
            refine norm_ (a' := ?_) ?_ ?_
            rotate_left
            ·show Act.put _ (some 39) _ = _
             simp only [Act.put, List.setIfInBounds_toArray, List.set_cons_zero, List.set_cons_succ, i64_w, i32_w]
             rfl
            refine one_ (i := 3) (N := some 35) #[true, true, true, true, true, false, true, true, false, false, false] rfl rfl (one_of HT_.out (by kernel_rfl)) (by decide) (fun K hK => ?_)
            refine Kd.R_lit_step k38 _ 38 ?hg (N := 35) ?hd (xs := ([] : List (S38))) (inner := []) (ok := fun _ => True) (okp := fun _ => True) ?hr ?hp (fun _ hk => hk) trivial (Below.refl _ _) (Nat.le_refl _) (by simp) ?_; (case hd => rfl); (case hg => rfl); (case hr => first | (go_simp; done) | (go_simp; rfl)); (case hp => exact (Reps.none _ _))
            intro v279 w52 ho53 hb hg_ hnew_
            clear hg_ hnew_
            (first | rw [← Ny278.out] at ho53 | (simp only [Int.reduceToNat] at ho53; rw [← Ny278.out] at ho53))
            have n0_ := am (Kd.R_below (kr HO_8) hb)
            have n1_ := am (Kd.R_below (kr HO_10) hb)
            have n2_ := am (Kd.R_elder' (kr HO286) (Kd.R_base ho53) hb)
            have n3_ := am (Kd.R_lower (Kd.R_newB (Kd.R_new' ho53 (Kd.R_lt (kr HO286))) (g := gb259) (o := .cells #[.int .i8 ((rd_T36 t267 x11_1).f0), .int .i8 ((rd_T36 t267 x11_1).f1), .int .i8 a2_2, .int .i8 a2_3, .int .i8 a2_4, .int .i8 a2_5] 38 (0, 0)) (kb BK259)) (below_size (be HB)))
            have n4_ := bB BK259 hb
            have n5_ := am (IsS28.below (si28 HI258) hb)
            have n6_ := am (below_step (be HB) hb)
            clear HO_8
            clear HO_10
            clear HO286
            clear BK259
            clear HI258
            clear HB
            have HO_8 := n0_
            have HO_10 := n1_
            have HO286 := n2_
            have HO280 := n3_
            have BK259 := n4_
            have HI258 := n5_
            have HB := n6_
            clear n0_ n1_ n2_ n3_ n4_ n5_ n6_
            clear hb ho53
            refine hK.out _ _ ⟨(blk_cell BK259.out 0).trans rfl, (blk_cell BK259.out 1).trans rfl, (blk_cell BK259.out 2).trans rfl, (blk_cell BK259.out 3).trans rfl, (blk_cell BK259.out 4).trans rfl, (blk_cell BK259.out 5).trans rfl⟩ (fun hHeld => ?_)
            clear hK K
            refine norm_ (a' := ?_) ?_ ?_
            rotate_left
            ·show Act.put _ (some 35) _ = _
             simp only [Act.put, List.setIfInBounds_toArray, List.set_cons_zero, List.set_cons_succ, i64_w, i32_w]
             rfl
            refine one_ (i := 5) (N := some 37) #[true, true, true, true, true, true, true, true, false, false, false] rfl rfl (one_of HT_.out (by kernel_rfl)) (by decide) (fun K hK => ?_)
            refine Kd.R_append_rows_step k38 (w0 := w) w.heap.size (by rfl) (.tmp 35) (.tmp 36) 44 38 (.agg #[(.int .i8 0), (.int .i8 0), (.int .i8 0), (.int .i8 0), (.int .i8 0), (.int .i8 0)]) 6 rfl Try.underlying44 info38 rfl (by decide) (by omega) v279 y278 l1 _ _ _ (fun k_ => some k_ ≠ (v285 : Value).ownBlock ∧ k_ ≠ gb259) (fun _ => False) rfl rfl ?aO ?aR (fun _ _ h => h) (fun _ h => h.elim) ?aF ?aB ?aS ?aL ?_
            (case aR => repeat (first | exact (Kd.C_below HR1.out HB.out) | (with_reducible refine Kd.C_alloc ?_ _) | (with_reducible refine Kd.C_drewN ?_ _) | (with_reducible refine Kd.C_drew ?_)))
            (case aB => exact (be HB))
            (case aF => exact (fun k_ hk => ⟨Kd.fresh' (Kd.R_lt (kr HO286)) k_ hk, Kd.freshB (g := gb259) (o := .cells #[.int .i8 ((rd_T36 t267 x11_1).f0), .int .i8 ((rd_T36 t267 x11_1).f1), .int .i8 a2_2, .int .i8 a2_3, .int .i8 a2_4, .int .i8 a2_5] 38 (0, 0)) (kb BK259) k_ hk⟩))
            (case aO => exact (by (with_reducible repeat (first | apply Kd.R_alloc | apply Kd.R_drewN | apply Kd.R_drew)); exact Kd.R_mono HO280.out (fun _ hk => ⟨hk.1.2, hk.2⟩)))
            (case aS => exact (below_size (be HB)))
            (case aL => have := LMc19.out; omega)
            intro v282 w54 ho hb hg hat
            rw [← Ny281.out] at ho
            have n0_ := am (Kd.R_over' (kr HO_8) (Kd.R_typed (kr HO280)) (by decide) hg)
            have n1_ := am (Kd.R_over' (kr HO_10) (Kd.R_typed (kr HO280)) (by decide) hg)
            have n2_ := am (blk_grown (g := gb259) (o := .cells #[.int .i8 ((rd_T36 t267 x11_1).f0), .int .i8 ((rd_T36 t267 x11_1).f1), .int .i8 a2_2, .int .i8 a2_3, .int .i8 a2_4, .int .i8 a2_5] 38 (0, 0)) (kb BK259) hg (Kd.R_away HO280.out (fun _ hk => hk.2)))
            have n3_ := am (IsS28.grown (si28 HI258) hg (IsS28.own_ne HI258.out HO280.out (by decide)))
            have n4_ := am (Kd.R_after (ok := (fun k_ => k_ ≠ gb259)) (by (with_reducible repeat (first | apply Kd.R_alloc | apply Kd.R_drewN | apply Kd.R_drew)); exact Kd.R_mono HO286.out (fun _ hk => ⟨hk.1.2, hk.2⟩)) hg hat)
            have n5_ := am (hb)
            have n6_ := am (ho)
            clear HO_8
            clear HO_10
            clear BK259
            clear HI258
            clear HO286
            clear HB
            clear HO280
            have HO_8 := n0_
            have HO_10 := n1_
            have BK259 := n2_
            have HI258 := n3_
            have HO286 := n4_
            have HB := n5_
            have HO283 := n6_
            clear n0_ n1_ n2_ n3_ n4_ n5_ n6_
            clear ho hb hg hat
            refine hK.out _ _ ⟨(blk_cell BK259.out 0).trans rfl, (blk_cell BK259.out 1).trans rfl, (blk_cell BK259.out 2).trans rfl, (blk_cell BK259.out 3).trans rfl, (blk_cell BK259.out 4).trans rfl, (blk_cell BK259.out 5).trans rfl⟩ (fun hHeld => ?_)
            clear hK K
            refine norm_ (a' := ?_) ?_ ?_
            rotate_left
            ·show Act.put _ (some 37) _ = _
             simp only [Act.put, List.setIfInBounds_toArray, List.set_cons_zero, List.set_cons_succ, i64_w, i32_w]
             rfl
            exact norm_ (by simp only [putAll, Act.put, List.setIfInBounds_toArray, List.set_cons_zero, List.set_cons_succ]) (hCont (v279, v282, v285) _ ⟨hHeld, (kr HO283), (by (with_reducible repeat (first | apply Kd.R_alloc | apply Kd.R_drewN | apply Kd.R_drew)); exact Kd.R_mono HO286.out (fun _ hk => ⟨hk.2, hk.1⟩)), (kr HO_10), (kr HO_8), (kb BK259), (si28 HI258), (be HB)⟩)
          rintro ⟨v279, v282, v285⟩ w55 ⟨hS_, h0_, h1_, h2_, h3_, h4_, h5_, h6_⟩
          have n0_ : Aside0 (Kd.R k38 38 w55 w.heap.size (fun k_ => some k_ ≠ (v285 : Value).ownBlock ∧ k_ ≠ gb259) v282 y281) := ⟨h0_⟩
          have n1_ : Aside0 (Kd.R k38 38 w55 w.heap.size (fun k_ => some k_ ≠ (v282 : Value).ownBlock ∧ k_ ≠ gb259) v285 y284) := ⟨h1_⟩
          have n2_ : Aside0 (Kd.R k36 36 w55 w.heap.size (fun k_ => some k_ ≠ (u8 : Value).ownBlock) (.slice (some ad273) t267.length co44) t267) := ⟨h2_⟩
          have n3_ : Aside0 (Kd.R k36 36 w55 w.heap.size (fun k_ => some k_ ≠ (.slice (some ad273) t267.length co44 : Value).ownBlock) u8 x8_1) := ⟨h3_⟩
          have n4_ : Aside0 (w55.heap[gb259]? = some (.cells #[.int .i8 ((rd_T36 t267 x11_1).f0), .int .i8 ((rd_T36 t267 x11_1).f1), .int .i8 a2_2, .int .i8 a2_3, .int .i8 a2_4, .int .i8 a2_5] 38 (0, 0))) := ⟨h4_⟩
          have n5_ : Aside0 (IsS28 w w55 gb258 t275 t276 t277) := ⟨h5_⟩
          have n6_ : Aside0 (Below w.heap.size w w55) := ⟨h6_⟩
          clear HO_8
          clear HO_10
          clear BK259
          clear HI258
          clear HB
          clear h0_ h1_ h2_ h3_ h4_ h5_ h6_
          have HO283 := n0_
          have HO286 := n1_
          have HO_10 := n2_
          have HO_8 := n3_
          have BK259 := n4_
          have HI258 := n5_
          have HB := n6_
          clear n0_ n1_ n2_ n3_ n4_ n5_ n6_
          have hHeld : w55.cell? ⟨gb259, 0, none⟩ = some (.int .i8 ((rd_T36 t267 x11_1).f0)) ∧ w55.cell? ⟨gb259, 1, none⟩ = some (.int .i8 ((rd_T36 t267 x11_1).f1)) ∧ w55.cell? ⟨gb259, 2, none⟩ = some (.int .i8 a2_2) ∧ w55.cell? ⟨gb259, 3, none⟩ = some (.int .i8 a2_3) ∧ w55.cell? ⟨gb259, 4, none⟩ = some (.int .i8 a2_4) ∧ w55.cell? ⟨gb259, 5, none⟩ = some (.int .i8 a2_5) := hS_
          obtain ⟨Ao57, co57, eo57⟩ := Kd.R_slice HO286.out
          (first | subst eo57 | (injection eo57 with f1_ f2_ f3_; have f4_ := f1_.symm; have f5_ := f3_.symm; clear f1_ f2_ f3_; subst f4_; subst f5_))
          refine norm_ (a' := ?_) ?_ ?_
          rotate_left
          ·simp only [putAll, Act.put, List.setIfInBounds_toArray, List.set_cons_zero, List.set_cons_succ]
           rfl
          refine one_ (i := 8) (N := some 40) #[true, true, true, true, true, true, true, true, true, false, false] rfl rfl (one_of HT_.out (by kernel_rfl)) (by decide) (fun K hK => ?_)
          refine Kd.R_append_rows_step k38 (w0 := w) w.heap.size (by rfl) (.tmp 37) (.tmp 39) 44 38 (.agg #[(.int .i8 0), (.int .i8 0), (.int .i8 0), (.int .i8 0), (.int .i8 0), (.int .i8 0)]) 6 rfl Try.underlying44 info38 rfl (by decide) (by omega) v282 y281 y284 _ _ _ (fun k_ => some k_ ≠ (.slice Ao57 y284.length co57 : Value).ownBlock ∧ k_ ≠ gb259) (fun _ => False) rfl rfl ?aO ?aR (fun _ _ h => h) (fun _ h => h.elim) ?aF ?aB ?aS ?aL ?_
          (case aR => repeat (first | exact (Kd.R_reads' HO286.out).2.2 | (with_reducible refine Kd.C_alloc ?_ _) | (with_reducible refine Kd.C_drewN ?_ _) | (with_reducible refine Kd.C_drew ?_)))
          (case aB => exact (be HB))
          (case aF => exact (fun k_ hk => ⟨Kd.fresh' (Kd.R_lt (kr HO286)) k_ hk, Kd.freshB (g := gb259) (o := .cells #[.int .i8 ((rd_T36 t267 x11_1).f0), .int .i8 ((rd_T36 t267 x11_1).f1), .int .i8 a2_2, .int .i8 a2_3, .int .i8 a2_4, .int .i8 a2_5] 38 (0, 0)) (kb BK259) k_ hk⟩))
          (case aO => exact (kr HO283))
          (case aS => exact (below_size (be HB)))
          (case aL => have := LMc20.out; omega)
          intro v288 w56 ho hb hg hat
          rw [← Ny287.out] at ho
          have n0_ := am (Kd.R_over' (kr HO_8) (Kd.R_typed (kr HO283)) (by decide) hg)
          have n1_ := am (Kd.R_over' (kr HO_10) (Kd.R_typed (kr HO283)) (by decide) hg)
          have n2_ := am (blk_grown (g := gb259) (o := .cells #[.int .i8 ((rd_T36 t267 x11_1).f0), .int .i8 ((rd_T36 t267 x11_1).f1), .int .i8 a2_2, .int .i8 a2_3, .int .i8 a2_4, .int .i8 a2_5] 38 (0, 0)) (kb BK259) hg (Kd.R_away HO283.out (fun _ hk => hk.2)))
          have n3_ := am (IsS28.grown (si28 HI258) hg (IsS28.own_ne HI258.out HO283.out (by decide)))
          have n4_ := am (Kd.R_after (ok := (fun k_ => k_ ≠ gb259)) (by (with_reducible repeat (first | apply Kd.R_alloc | apply Kd.R_drewN | apply Kd.R_drew)); exact Kd.R_mono HO286.out (fun _ hk => ⟨hk.2, hk.1⟩)) hg hat)
          have n5_ := am (hb)
          have n6_ := am (ho)
          clear HO_8
          clear HO_10
          clear BK259
          clear HI258
          clear HO286
          clear HB
          clear HO283
          have HO_8 := n0_
          have HO_10 := n1_
          have BK259 := n2_
          have HI258 := n3_
          have HO286 := n4_
          have HB := n5_
          have HO289 := n6_
          clear n0_ n1_ n2_ n3_ n4_ n5_ n6_
          clear ho hb hg hat
          obtain ⟨Ao58, co58, eo58⟩ := Kd.R_slice HO289.out
          (first | subst eo58 | (injection eo58 with f1_ f2_ f3_; have f4_ := f1_.symm; have f5_ := f3_.symm; clear f1_ f2_ f3_; subst f4_; subst f5_))
          refine hK.out _ _ ⟨(blk_cell BK259.out 0).trans rfl, (blk_cell BK259.out 1).trans rfl, (blk_cell BK259.out 2).trans rfl, (blk_cell BK259.out 3).trans rfl, (blk_cell BK259.out 4).trans rfl, (blk_cell BK259.out 5).trans rfl⟩ (fun hHeld => ?_)
          clear hK K
          refine norm_ (a' := ?_) ?_ ?_
          rotate_left
          ·show Act.put _ (some 40) _ = _
           simp only [Act.put, List.setIfInBounds_toArray, List.set_cons_zero, List.set_cons_succ, i64_w, i32_w]
           rfl
          refine one_ (i := 9) (N := some 41) #[true, true, true, true, true, true, true, true, true, true, false] rfl rfl (one_of HT_.out (by kernel_rfl)) (by decide) (fun K hK => ?_)
          refine goes_ Try.func128 (by kernel_rfl) rfl #[.pointer (some ⟨gb258, 0, none⟩), .slice Ao58 y287.length co58] (by rfl) rfl rfl (by (try simp only [List.map_toArray, List.map_cons, List.map_nil]); first | done | rfl | (simp only [List.length_drop, List.length_take]; rfl)) ?_
          with_reducible refine (spec_l01Right.calls k1 gb258 t275 t276 t277 _ _ y287 false t291 t292 t293 w _ ?side1 ?side2 ?side3 ?side4 A21.out).mono ?_
          (case side1 => exact si28 HI258)
          (case side2 => exact be HB)
          (case side3 => exact Kd.C_foot_own (IsS28.apart (show IsS28 w _ gb258 t275 t276 t277 from si28 HI258) (kr HO289) (by decide)) (fun _ h_ => h_.2))
          (case side4 => exact (Kd.R_reads' HO289.out).2.1)
          rintro e w59 ⟨rfl, hi, hb, hk⟩
          refine ⟨_, rfl, ?_⟩
          have n0_ := am (Kd.R_mono (Kd.R_keep (IsS28.apart (show IsS28 w _ gb258 t275 t276 t277 from si28 HI258) (kr HO_8) (by decide)) hk (fun _ h => h.2)) (fun _ h => h.1))
          have n1_ := am (Kd.R_mono (Kd.R_keep (IsS28.apart (show IsS28 w _ gb258 t275 t276 t277 from si28 HI258) (kr HO_10) (by decide)) hk (fun _ h => h.2)) (fun _ h => h.1))
          have n2_ := am (KeepBut.blk hk (g' := gb259) (o := .cells #[.int .i8 ((rd_T36 t267 x11_1).f0), .int .i8 ((rd_T36 t267 x11_1).f1), .int .i8 a2_2, .int .i8 a2_3, .int .i8 a2_4, .int .i8 a2_5] 38 (0, 0)) (kb BK259) NB259_258.out (by simp))
          have n3_ := am (Kd.R_mono (Kd.R_keep (IsS28.apart (show IsS28 w _ gb258 t275 t276 t277 from si28 HI258) (kr HO286) (by decide)) hk (fun _ h => h.2)) (fun _ h => h.1))
          have n4_ := am (Kd.R_mono (Kd.R_keep (IsS28.apart (show IsS28 w _ gb258 t275 t276 t277 from si28 HI258) (kr HO289) (by decide)) hk (fun _ h => h.2)) (fun _ h => h.1))
          have n5_ := am (hb)
          have n6_ := am (hi)
          clear HO_8
          clear HO_10
          clear BK259
          clear HO286
          clear HO289
          clear HB
          clear HI258
          have HO_8 := n0_
          have HO_10 := n1_
          have BK259 := n2_
          have HO286 := n3_
          have HO289 := n4_
          have HB := n5_
          have HI258 := n6_
          clear n0_ n1_ n2_ n3_ n4_ n5_ n6_
          (try clear hb)
          (try clear hb2)
          (try clear hk)
          (try clear hi)
          refine hK.out _ _ ⟨(blk_cell BK259.out 0).trans rfl, (blk_cell BK259.out 1).trans rfl, (blk_cell BK259.out 2).trans rfl, (blk_cell BK259.out 3).trans rfl, (blk_cell BK259.out 4).trans rfl, (blk_cell BK259.out 5).trans rfl⟩ (fun hHeld => ?_)
          clear hK K
          refine norm_ (a' := ?_) ?_ ?_
          rotate_left
          ·show Act.put _ (some 41) _ = _
           simp only [Act.put, List.setIfInBounds_toArray, List.set_cons_zero, List.set_cons_succ, i64_w, i32_w]
           rfl
          refine pS (i := 10) (some 42) #[true, true, true, true, true, true, true, true, true, true, true] (any_of HT_.out (by kernel_rfl)) ?_
          refine done_ (done_of HT_.out (by kernel_rfl)) ?_
          try go_wp2
          go_roundg k1
          case measure => have := HK1.out; omega
          case rel => exact ⟨(x8_1), (wrap64 (x11_1 + 1)), (t291), (t292), (t293), ((rd_T36 t267 x11_1).f0), ((rd_T36 t267 x11_1).f1), vv, H', ⟨by have := HK1.out; omega⟩, ⟨kr HO_8⟩, ⟨kr HO_10⟩, ⟨kb BK259⟩, ⟨si28 HI258⟩, ⟨be HB⟩⟩
        ·rw [if_neg c20] at H
         exact absurd H (by simp)
       ·rw [if_neg c19] at H
        exact absurd H (by simp)
      ·replace c18 := Bool.eq_false_iff.mpr c18
       subst c18
       have H1 : (spec_PlacesFor.l0 k1 l1 x8_1 t267 (wrap64 (x11_1 + 1)) t275 t276 t277 ((rd_T36 t267 x11_1).f0) ((rd_T36 t267 x11_1).f1) a2_2 a2_3 a2_4 a2_5) = some (r1, r2) := by rw [if_neg (show ¬ (false = true) by decide)] at H; exact H
       clear H
       have H := H1
       clear H1
       have H' := am H
       clear H
       obtain ⟨Ao60, co60, eo60⟩ := Kd.R_slice HO_10.out
       subst eo60
       have p273 : 0 ≤ (x11_1 : Int) := of_decide_eq_true (by first | (with_reducible assumption) | assumption)
       have q273 : x11_1 < (t267.length : Int) := of_decide_eq_true (by first | (with_reducible assumption) | assumption)
       obtain ⟨ad273, e273, hx273_0, hx273_1⟩ := at_T36 (Kd.R_reads' HO_10.out).2.2 x11_1 p273 q273
       cases e273
       replace p273 := eq_true p273
       replace q273 := eq_true q273
       have hnb61 := NB259_258.out
       have hnc61 := NB258_259.out
       obtain ⟨hcz62_0, hcz62_1, hcz62_2, hcz62_3, hcz62_4, hcz62_5, hfz62_0, hfz62_1, hfz62_2, hfz62_3, hfz62_4, hfz62_5⟩ := bx6 BK259
       try go_wp2
       have n0_ : Aside0 (Kd.R k36 36 ((wr.setCell ⟨gb259, 0, none⟩ (.int .i8 ((rd_T36 t267 x11_1).f0))).setCell ⟨gb259, 1, none⟩ (.int .i8 ((rd_T36 t267 x11_1).f1))) w.heap.size (fun k_ => some k_ ≠ (.slice (some ad273) t267.length co60 : Value).ownBlock) u8 x8_1) := ⟨by (with_reducible repeat (first | apply Kd.R_alloc | apply Kd.R_drewN | apply Kd.R_drew)); exact Kd.R_mono (Kd.R_far (p := ⟨gb259, 1, none⟩) (Kd.R_far (p := ⟨gb259, 0, none⟩) (Kd.R_types HO_8.out BK259.out (by decide)) (fun _ hk => hk.2) (.int .i8 ((rd_T36 t267 x11_1).f0))) (fun _ hk => hk.2) (.int .i8 ((rd_T36 t267 x11_1).f1))) (fun _ hk => hk.1)⟩
       have n1_ : Aside0 (Kd.R k36 36 ((wr.setCell ⟨gb259, 0, none⟩ (.int .i8 ((rd_T36 t267 x11_1).f0))).setCell ⟨gb259, 1, none⟩ (.int .i8 ((rd_T36 t267 x11_1).f1))) w.heap.size (fun k_ => some k_ ≠ (u8 : Value).ownBlock) (.slice (some ad273) t267.length co60) t267) := ⟨by (with_reducible repeat (first | apply Kd.R_alloc | apply Kd.R_drewN | apply Kd.R_drew)); exact Kd.R_mono (Kd.R_far (p := ⟨gb259, 1, none⟩) (Kd.R_far (p := ⟨gb259, 0, none⟩) (Kd.R_types HO_10.out BK259.out (by decide)) (fun _ hk => hk.2) (.int .i8 ((rd_T36 t267 x11_1).f0))) (fun _ hk => hk.2) (.int .i8 ((rd_T36 t267 x11_1).f1))) (fun _ hk => hk.1)⟩
       have n2_ : Aside0 (((wr.setCell ⟨gb259, 0, none⟩ (.int .i8 ((rd_T36 t267 x11_1).f0))).setCell ⟨gb259, 1, none⟩ (.int .i8 ((rd_T36 t267 x11_1).f1))).heap[gb259]? = some (.cells #[.int .i8 ((rd_T36 t267 x11_1).f0), .int .i8 ((rd_T36 t267 x11_1).f1), .int .i8 a2_2, .int .i8 a2_3, .int .i8 a2_4, .int .i8 a2_5] 38 (0, 0))) := ⟨by (with_reducible repeat (first | refine blk_drewN ?_ _ | refine blk_drew ?_ | refine blk_alloc ?_ _)); refine blk_put (cs := #[.int .i8 ((rd_T36 t267 x11_1).f0), .int .i8 x260001_1, .int .i8 a2_2, .int .i8 a2_3, .int .i8 a2_4, .int .i8 a2_5]) ?_ 1 _ rfl; (with_reducible repeat (first | refine blk_drewN ?_ _ | refine blk_drew ?_ | refine blk_alloc ?_ _)); refine blk_put (cs := #[.int .i8 x260000_1, .int .i8 x260001_1, .int .i8 a2_2, .int .i8 a2_3, .int .i8 a2_4, .int .i8 a2_5]) ?_ 0 _ rfl; exact kb BK259⟩
       have n3_ : Aside0 (IsS28 w ((wr.setCell ⟨gb259, 0, none⟩ (.int .i8 ((rd_T36 t267 x11_1).f0))).setCell ⟨gb259, 1, none⟩ (.int .i8 ((rd_T36 t267 x11_1).f1))) gb258 x259000_1 x259001_1 x259002_1) := ⟨si28 HI258⟩
       have n4_ : Aside0 (Below w.heap.size w ((wr.setCell ⟨gb259, 0, none⟩ (.int .i8 ((rd_T36 t267 x11_1).f0))).setCell ⟨gb259, 1, none⟩ (.int .i8 ((rd_T36 t267 x11_1).f1)))) := ⟨be HB⟩
       (try clear HO_8)
       (try clear HO_10)
       (try clear BK259)
       (try clear HI258)
       (try clear HB)
       generalize ((wr.setCell ⟨gb259, 0, none⟩ (.int .i8 ((rd_T36 t267 x11_1).f0))).setCell ⟨gb259, 1, none⟩ (.int .i8 ((rd_T36 t267 x11_1).f1))) = w63 at n0_ n1_ n2_ n3_ n4_ ⊢
       have HO_8 := n0_
       have HO_10 := n1_
       have BK259 := n2_
       have HI258 := n3_
       have HB := n4_
       clear n0_ n1_ n2_ n3_ n4_
       have n0_ := am (Kd.R_drew HO_8.out)
       have n1_ := am (Kd.R_drew HO_10.out)
       have n2_ := am (blk_drew BK259.out)
       have n3_ := am (IsS28.drew HI258.out)
       have n4_ := am (below_drew1 HB.out)
       clear HO_8
       clear HO_10
       clear BK259
       clear HI258
       clear HB
       have HO_8 := n0_
       have HO_10 := n1_
       have BK259 := n2_
       have HI258 := n3_
       have HB := n4_
       clear n0_ n1_ n2_ n3_ n4_
       refine start_ (n := 11) (S := fun w' => w'.cell? ⟨gb259, 0, none⟩ = some (.int .i8 ((rd_T36 t267 x11_1).f0)) ∧ w'.cell? ⟨gb259, 1, none⟩ = some (.int .i8 ((rd_T36 t267 x11_1).f1)) ∧ w'.cell? ⟨gb259, 2, none⟩ = some (.int .i8 a2_2) ∧ w'.cell? ⟨gb259, 3, none⟩ = some (.int .i8 a2_3) ∧ w'.cell? ⟨gb259, 4, none⟩ = some (.int .i8 a2_4) ∧ w'.cell? ⟨gb259, 5, none⟩ = some (.int .i8 a2_5)) (ds := []) #[false, false, false, false, false, false, false, false, false, false, false] (by kernel_rfl) rfl rfl ⟨(blk_cell BK259.out 0).trans rfl, (blk_cell BK259.out 1).trans rfl, (blk_cell BK259.out 2).trans rfl, (blk_cell BK259.out 3).trans rfl, (blk_cell BK259.out 4).trans rfl, (blk_cell BK259.out 5).trans rfl⟩ (fun hHeld => ?_); refine with_tabW spec_PlacesFor.tab10 spec_PlacesFor.bits10 (fun HT_ HW_ => ?_)
       generalize w63.drew = w64 at HO_8 HO_10 BK259 HI258 HB hHeld ⊢
       refine tS (i := 0) (some 32) #[true, false, false, false, false, false, false, false, false, false, false] (take_ofW HT_.out HW_.out (by kernel_rfl)) hHeld ?_
       refine one_ (i := 1) (N := some 33) #[true, true, false, false, false, false, false, false, false, false, false] rfl rfl (one_of HT_.out (by kernel_rfl)) (by decide) (fun K hK => ?_)
       refine goes_ Try.func105 (by kernel_rfl) rfl #[.pointer (some ⟨gb258, 0, none⟩), .agg #[.int .i8 ((rd_T36 t267 x11_1).f0), .int .i8 ((rd_T36 t267 x11_1).f1), .int .i8 a2_2, .int .i8 a2_3, .int .i8 a2_4, .int .i8 a2_5]] (by rfl) rfl rfl (by (try simp only [List.map_toArray, List.map_cons, List.map_nil]); first | done | rfl | (simp only [List.length_drop, List.length_take]; rfl)) ?_
       with_reducible refine (spec_l01Boat.calls gb258 x259000_1 x259001_1 x259002_1 ((rd_T36 t267 x11_1).f0) ((rd_T36 t267 x11_1).f1) a2_2 a2_3 a2_4 a2_5 false t275 t276 t277 w _ ?side1 ?side2 A17.out).mono ?_
       (case side1 => exact si28 HI258)
       (case side2 => exact be HB)
       rintro e w65 ⟨rfl, hi, hb, hk⟩
       refine ⟨_, rfl, ?_⟩
       have n0_ := am (Kd.R_mono (Kd.R_keep (IsS28.apart (show IsS28 w _ gb258 x259000_1 x259001_1 x259002_1 from si28 HI258) (kr HO_8) (by decide)) hk (fun _ h => h.2)) (fun _ h => h.1))
       have n1_ := am (Kd.R_mono (Kd.R_keep (IsS28.apart (show IsS28 w _ gb258 x259000_1 x259001_1 x259002_1 from si28 HI258) (kr HO_10) (by decide)) hk (fun _ h => h.2)) (fun _ h => h.1))
       have n2_ := am (KeepBut.blk hk (g' := gb259) (o := .cells #[.int .i8 ((rd_T36 t267 x11_1).f0), .int .i8 ((rd_T36 t267 x11_1).f1), .int .i8 a2_2, .int .i8 a2_3, .int .i8 a2_4, .int .i8 a2_5] 38 (0, 0)) (kb BK259) NB259_258.out (by simp))
       have n3_ := am (hb)
       have n4_ := am (hi)
       clear HO_8
       clear HO_10
       clear BK259
       clear HB
       clear HI258
       have HO_8 := n0_
       have HO_10 := n1_
       have BK259 := n2_
       have HB := n3_
       have HI258 := n4_
       clear n0_ n1_ n2_ n3_ n4_
       (try clear hb)
       (try clear hb2)
       (try clear hk)
       (try clear hi)
       refine hK.out _ _ ⟨(blk_cell BK259.out 0).trans rfl, (blk_cell BK259.out 1).trans rfl, (blk_cell BK259.out 2).trans rfl, (blk_cell BK259.out 3).trans rfl, (blk_cell BK259.out 4).trans rfl, (blk_cell BK259.out 5).trans rfl⟩ (fun hHeld => ?_)
       clear hK K
       refine norm_ (a' := ?_) ?_ ?_
       rotate_left
       ·show Act.put _ (some 33) _ = _
        simp only [Act.put, List.setIfInBounds_toArray, List.set_cons_zero, List.set_cons_succ, i64_w, i32_w]
        rfl
       refine pS (i := 2) (some 34) #[true, true, true, false, false, false, false, false, false, false, false] (any_of HT_.out (by kernel_rfl)) ?_
       refine pure_ (i := 3) (N := some 35) (v := undef) (a' := ?_) #[true, true, true, true, false, false, false, false, false, false, false] rfl rfl (any_of HT_.out (by kernel_rfl)) (fun _ _ _ h => h) (Or.inr ⟨by rfl, rfl⟩) ?_ ?_
       rotate_left
       ·simp only [Act.put, List.setIfInBounds_toArray, List.set_cons_zero, List.set_cons_succ, i64_w, i32_w]
        rfl
       refine pure_ (i := 4) (N := some 36) (v := undef) (a' := ?_) #[true, true, true, true, true, false, false, false, false, false, false] rfl rfl (any_of HT_.out (by kernel_rfl)) (fun _ _ _ h => h) (Or.inr ⟨by rfl, rfl⟩) ?_ ?_
       rotate_left
       ·simp only [Act.put, List.setIfInBounds_toArray, List.set_cons_zero, List.set_cons_succ, i64_w, i32_w]
        rfl
       refine pure_ (i := 5) (N := some 37) (v := undef) (a' := ?_) #[true, true, true, true, true, true, false, false, false, false, false] rfl rfl (any_of HT_.out (by kernel_rfl)) (fun _ _ _ h => h) (Or.inr ⟨by rfl, rfl⟩) ?_ ?_
       rotate_left
       ·simp only [Act.put, List.setIfInBounds_toArray, List.set_cons_zero, List.set_cons_succ, i64_w, i32_w]
        rfl
       refine pure_ (i := 6) (N := some 38) (v := undef) (a' := ?_) #[true, true, true, true, true, true, true, false, false, false, false] rfl rfl (any_of HT_.out (by kernel_rfl)) (fun _ _ _ h => h) (Or.inr ⟨by rfl, rfl⟩) ?_ ?_
       rotate_left
       ·simp only [Act.put, List.setIfInBounds_toArray, List.set_cons_zero, List.set_cons_succ, i64_w, i32_w]
        rfl
       refine pure_ (i := 7) (N := some 39) (v := undef) (a' := ?_) #[true, true, true, true, true, true, true, true, false, false, false] rfl rfl (any_of HT_.out (by kernel_rfl)) (fun _ _ _ h => h) (Or.inr ⟨by rfl, rfl⟩) ?_ ?_
       rotate_left
       ·simp only [Act.put, List.setIfInBounds_toArray, List.set_cons_zero, List.set_cons_succ, i64_w, i32_w]
        rfl
       refine pure_ (i := 8) (N := some 40) (v := undef) (a' := ?_) #[true, true, true, true, true, true, true, true, true, false, false] rfl rfl (any_of HT_.out (by kernel_rfl)) (fun _ _ _ h => h) (Or.inr ⟨by rfl, rfl⟩) ?_ ?_
       rotate_left
       ·simp only [Act.put, List.setIfInBounds_toArray, List.set_cons_zero, List.set_cons_succ, i64_w, i32_w]
        rfl
       refine pure_ (i := 9) (N := some 41) (v := undef) (a' := ?_) #[true, true, true, true, true, true, true, true, true, true, false] rfl rfl (any_of HT_.out (by kernel_rfl)) (fun _ _ _ h => h) (Or.inr ⟨by rfl, rfl⟩) ?_ ?_
       rotate_left
       ·simp only [Act.put, List.setIfInBounds_toArray, List.set_cons_zero, List.set_cons_succ, i64_w, i32_w]
        rfl
       refine pS (i := 10) (some 42) #[true, true, true, true, true, true, true, true, true, true, true] (any_of HT_.out (by kernel_rfl)) ?_
       refine done_ (done_of HT_.out (by kernel_rfl)) ?_
       try go_wp2
       go_roundg k1
       case measure => have := HK1.out; omega
       case rel => exact ⟨(x8_1), (wrap64 (x11_1 + 1)), (t275), (t276), (t277), ((rd_T36 t267 x11_1).f0), ((rd_T36 t267 x11_1).f1), vv, H', ⟨by have := HK1.out; omega⟩, ⟨kr HO_8⟩, ⟨kr HO_10⟩, ⟨kb BK259⟩, ⟨si28 HI258⟩, ⟨be HB⟩⟩
     ·rw [if_neg c16] at H
      exact absurd H (by simp)
    ·rw [if_neg c15] at H
     have c15b0 : decide (x11_1 < (t267.length : Int)) = false := decide_eq_false c15
     clear c15
     simp only [Option.some.injEq, Prod.mk.injEq] at H
     obtain ⟨rfl, rfl⟩ := H
     obtain ⟨Ao66, co66, eo66⟩ := Kd.R_slice HO_10.out
     subst eo66
     go_wp2
     go_ret2
     exact ⟨_, by first | rfl | (simp [errW_none, errW_some] <;> rfl) | (simp [*, errW_none, errW_some] <;> rfl), by (with_reducible repeat (first | apply Kd.R_alloc | apply Kd.R_drewN | apply Kd.R_drew)); exact Kd.R_mono HO_8.out (fun _ hk => trivial), be HB⟩
 ·rw [if_neg c5] at H
  have c5b0 : (t263 == 0) = false := beq_eq_false_iff_ne.mpr c5
  have c5b1 : (t263 != 0) = true := bne_iff_ne.mpr c5
  simp only [Option.some.injEq, Prod.mk.injEq] at H
  obtain ⟨rfl, rfl⟩ := H
  go_enter Try.func71, Try.ntmps71
  go_wp2_with (first | ((with_reducible refine gate_dst (N := 3) rfl ?_); (try (refine gate_guard (by rfl) ?_; dsimp only)); refine bxe (N := 3) (cs := (csBay a0_0 a0_1 a0_2)) (t := 28) ?_; intro gb258 hg w67 hbox hb; have HI258 := am ((show IsS28 w w67 gb258 a0_0 a0_1 a0_2 from ⟨hbox, by rw [hg]; exact (below_size (be HB))⟩)); have GW258 := am (gN hg (below_size (be HB))); have GE258 := am (gN hg (below_size (be HB))); replace HB := am (below_step (be HB) hb); clear hb hbox hg) | ((with_reducible refine gate_dst (N := 5) rfl ?_); (try (refine gate_guard (by rfl) ?_; dsimp only)); refine bxe (N := 5) (cs := #[.int .i8 a2_0, .int .i8 a2_1, .int .i8 a2_2, .int .i8 a2_3, .int .i8 a2_4, .int .i8 a2_5]) (t := 38) ?_; intro gb259 hg w68 hbox hb; have BK259 := am (hbox); have GW259 := am (gN hg (below_size (be HB))); have GE259 := am (gN hg (below_size (be HB))); have NB258_259 := am (nLi hg (IsS28.lt (show IsS28 w _ gb258 a0_0 a0_1 a0_2 from si28 HI258))); have NB259_258 := am (nRi hg (IsS28.lt (show IsS28 w _ gb258 a0_0 a0_1 a0_2 from si28 HI258))); replace HI258 := am (IsS28.below (si28 HI258) hb); replace HB := am (below_step (be HB) hb); clear hb hbox hg) | ((with_reducible refine gate_dst (N := 12) rfl ?_); (try (refine gate_guard (by rfl) ?_; dsimp only)); refine Kd.R_lit k36 _ 36 ?hg (N := 12) ?hd (xs := ([] : List (S36))) (inner := []) (ok := fun _ => True) (okp := fun _ => True) ?hr ?hp (fun _ hk => hk) trivial (Below.refl _ _) (Nat.le_refl _) (by simp) ?_; (case hd => rfl); (case hg => rfl); (case hr => first | (go_simp; done) | (go_simp; rfl)); (case hp => exact (Reps.none _ _)); intro v261 w69 ho70 hb hg_ hnew_; clear hg_ hnew_; (first | rw [← Ny260.out] at ho70 | (simp only [Int.reduceToNat] at ho70; rw [← Ny260.out] at ho70)); have HO262 := am (Kd.R_lower ho70 (below_size (be HB))); replace HI258 := am (IsS28.below (si28 HI258) hb); replace BK259 := bB BK259 hb; replace HB := am (below_step (be HB) hb); clear hb ho70; have hnb71 := NB259_258.out; have hnc71 := NB258_259.out; obtain ⟨hcz72_0, hcz72_1, hcz72_2, hcz72_3, hcz72_4, hcz72_5, hfz72_0, hfz72_1, hfz72_2, hfz72_3, hfz72_4, hfz72_5⟩ := bx6 BK259) | ((with_reducible refine gate_callee (f := 130) rfl ?_); refine gL (some 15) Try.func130 #[.pointer (some ⟨gb258, 0, none⟩), .slice A1 l1.length c1, .agg #[.int .i8 a2_0, .int .i8 a2_1, .int .i8 a2_2, .int .i8 a2_3, .int .i8 a2_4, .int .i8 a2_5]] ?_; (with_reducible refine (spec_l01With.calls k gb258 a0_0 a0_1 a0_2 _ _ l1 a2_0 a2_1 a2_2 a2_3 a2_4 a2_5 t263 t264 t265 t266 w _ ?side1 ?side2 ?side3 ?side4 A4.out).mono ?_); (case side1 => exact si28 HI258); (case side2 => exact be HB); (case side3 => exact Kd.C_foot_came k38_heap HR1.out (be HB) (IsS28.ge HI258.out)); (case side4 => exact HC1.out); rintro e w73 ⟨rfl, hi, hb, hk⟩; refine ⟨_, rfl, ?_⟩; replace BK259 := am (KeepBut.blk hk (g' := gb259) (o := .cells #[.int .i8 a2_0, .int .i8 a2_1, .int .i8 a2_2, .int .i8 a2_3, .int .i8 a2_4, .int .i8 a2_5] 38 (0, 0)) (kb BK259) NB259_258.out (by simp)); replace HO262 := am (Kd.R_mono (Kd.R_keep (IsS28.apart (show IsS28 w _ gb258 a0_0 a0_1 a0_2 from si28 HI258) (kr HO262) (by decide)) hk (fun _ h => h.2)) (fun _ h => h.1)); replace HB := am (hb); replace HI258 := am (hi); (try clear hb); (try clear hb2); (try clear hk); (try clear hi)))
  go_ret2
  exact ⟨_, by first | rfl | (simp [errW_none, errW_some] <;> rfl) | (simp [*, errW_none, errW_some] <;> rfl), by (with_reducible repeat (first | apply Kd.R_alloc | apply Kd.R_drewN | apply Kd.R_drew)); exact HO262.out, be HB⟩

end Go.Proofs.Ytcollbifdfhfoaa.PFnExactPlacesFor
