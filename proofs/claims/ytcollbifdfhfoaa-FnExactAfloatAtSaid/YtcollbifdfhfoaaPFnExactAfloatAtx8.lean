-- Written by a program out of this seat's translation (functions, and that the code comes to them).
import Derived.Test.YtcollbifdfhfoaaPFnExactAfloatAtx0
namespace Go.Proofs.Ytcollbifdfhfoaa.PFnExactAfloatAt
open Go.RowKit Go.Proofs.YtcollbifdfhfoaaW.PrintWords Go.Proofs.YtcollbifdfhfoaaW.PrintLast Go.Proofs.YtcollbifdfhfoaaW.PrintMore
attribute [local go_sem] max2_int min2_int max_two min_two max_three min_three max_four min_four   -- for this text's walks alone
open Go.Proofs.Ytcollbifdfhfoaa.Bay Go.Proofs.Ytcollbifdfhfoaa.Short
attribute [local go_sem ↓] lv26_eq lv28_eq
attribute [local go_sem] lvv_set lvv_drewN lvv_drew lv26_run BayAt26_set BayAt26_drewN BayAt26_drew lv28_run BayAt28_set BayAt28_drewN BayAt28_drew
set_option linter.unusedVariables false
set_option linter.unusedSimpArgs false

/-! ### impl_part: function 176 -/
def impl_part.l0 : Nat → List (S103) → Int → Int → Option (Int × Int × Int)
 | 0, _, _, _ => none
 | k + 1, x0, x1, x7 => if 0 ≤ (wrap64 (x7 + 1)) then (if (wrap64 (x7 + 1)) < (x0.length : Int) then (if (wrap64 ((rd_T103 x0 (wrap64 (x7 + 1))).f0)) ≤ x1 then (if (wrap64 (x7 + 2)) < (x0.length : Int) then (impl_part.l0 k x0 x1 (wrap64 (x7 + 1))) else (if 0 ≤ x7 then (if x7 < (x0.length : Int) then (if (wrap64 ((wrap64 ((rd_T103 x0 (wrap64 (x7 + 1))).f0)) - (wrap64 ((rd_T103 x0 x7).f0)))) = 0 then (none) else (some (x7, wrap64 (Int.tdiv (wrap64 (6 * (wrap64 (x1 - (wrap64 ((rd_T103 x0 x7).f0)))))) (wrap64 ((wrap64 ((rd_T103 x0 (wrap64 (x7 + 1))).f0)) - (wrap64 ((rd_T103 x0 x7).f0))))), Int.tmod (wrap64 (6 * (wrap64 (x1 - (wrap64 ((rd_T103 x0 x7).f0)))))) (wrap64 ((wrap64 ((rd_T103 x0 (wrap64 (x7 + 1))).f0)) - (wrap64 ((rd_T103 x0 x7).f0))))))) else (none)) else (none))) else (if 0 ≤ x7 then (if x7 < (x0.length : Int) then (if (wrap64 ((wrap64 ((rd_T103 x0 (wrap64 (x7 + 1))).f0)) - (wrap64 ((rd_T103 x0 x7).f0)))) = 0 then (none) else (some (x7, wrap64 (Int.tdiv (wrap64 (6 * (wrap64 (x1 - (wrap64 ((rd_T103 x0 x7).f0)))))) (wrap64 ((wrap64 ((rd_T103 x0 (wrap64 (x7 + 1))).f0)) - (wrap64 ((rd_T103 x0 x7).f0))))), Int.tmod (wrap64 (6 * (wrap64 (x1 - (wrap64 ((rd_T103 x0 x7).f0)))))) (wrap64 ((wrap64 ((rd_T103 x0 (wrap64 (x7 + 1))).f0)) - (wrap64 ((rd_T103 x0 x7).f0))))))) else (none)) else (none))) else (none)) else (none)
def impl_part.f (k : Nat) (l0 : List (S103)) (a1 : Int) : Option (Int × Int × Int) := impl_part.l0 k l0 a1 0
set_option maxHeartbeats 8000000 in
set_option maxRecDepth 100000 in
theorem impl_part.calls (k : Nat) (A0 : Option Addr) (c0 : Nat) (l0 : List (S103)) (a1 : Int) (r1 : Int) (r2 : Int) (r3 : Int) (w : World) (hr0 : Kd.C k103 w A0 l0.length l0) (hc0 : l0.length ≤ c0) (h : impl_part.f k l0 a1 = some (r1, r2, r3)) :
  Calls Try.prog 176 #[.slice A0 l0.length c0, .int .i64 a1] w fun e w' => e = .returned (.tuple #[.int .i64 r1, .int .i64 r2, .int .i64 r3]) ∧ Drawn0 w w' := by
 have HR0 := am hr0
 have HC0 := am hc0
 clear hr0 hc0
 have H : (impl_part.l0 k l0 a1 0) = some (r1, r2, r3) := h
 clear h
 have H' := am H
 clear H
 go_enter Try.func176, Try.ntmps176
 go_wp2
 repeat (go_quiet (fail); try go_wp2)
 go_loopg [7] k (fun kq v7 w' => ∃ (x7_1 : Int), v7 = .int .i64 x7_1 ∧ Aside0 (impl_part.l0 kq l0 a1 x7_1 = some (r1, r2, r3)) ∧ Aside0 (kq ≤ k) ∧ Drawn0 w w')
 case atStart => exact ⟨(0), vv, H', ⟨Nat.le_refl _⟩, by repeat (first | exact Drawn0.refl _ | apply Drawn0.step)⟩
 case round =>
  clear H'
  try clear c1
  try clear p2
  obtain ⟨x7_1, rfl, HA, HK1, ⟨m1, rfl⟩⟩ := hrel
  cases gk with
  | zero => exact absurd HA.out (by simp [impl_part.l0])
  | succ k1 =>
   have H := HA.out
   clear HA
   simp only [impl_part.l0] at H
   obtain ⟨ji3, hji3⟩ : ∃ j_ : Int, (wrap64 (x7_1 + 1)) = j_ := ⟨_, rfl⟩
   replace H : (if 0 ≤ (ji3) then (if (ji3) < (l0.length : Int) then (if (wrap64 ((rd_T103 l0 (ji3)).f0)) ≤ a1 then (if (wrap64 (x7_1 + 2)) < (l0.length : Int) then (impl_part.l0 k1 l0 a1 ji3) else (if 0 ≤ x7_1 then (if x7_1 < (l0.length : Int) then (if (wrap64 ((wrap64 ((rd_T103 l0 (ji3)).f0)) - (wrap64 ((rd_T103 l0 x7_1).f0)))) = 0 then (none) else (some (x7_1, wrap64 (Int.tdiv (wrap64 (6 * (wrap64 (a1 - (wrap64 ((rd_T103 l0 x7_1).f0)))))) (wrap64 ((wrap64 ((rd_T103 l0 (ji3)).f0)) - (wrap64 ((rd_T103 l0 x7_1).f0))))), Int.tmod (wrap64 (6 * (wrap64 (a1 - (wrap64 ((rd_T103 l0 x7_1).f0)))))) (wrap64 ((wrap64 ((rd_T103 l0 (ji3)).f0)) - (wrap64 ((rd_T103 l0 x7_1).f0))))))) else (none)) else (none))) else (if 0 ≤ x7_1 then (if x7_1 < (l0.length : Int) then (if (wrap64 ((wrap64 ((rd_T103 l0 (ji3)).f0)) - (wrap64 ((rd_T103 l0 x7_1).f0)))) = 0 then (none) else (some (x7_1, wrap64 (Int.tdiv (wrap64 (6 * (wrap64 (a1 - (wrap64 ((rd_T103 l0 x7_1).f0)))))) (wrap64 ((wrap64 ((rd_T103 l0 (ji3)).f0)) - (wrap64 ((rd_T103 l0 x7_1).f0))))), Int.tmod (wrap64 (6 * (wrap64 (a1 - (wrap64 ((rd_T103 l0 x7_1).f0)))))) (wrap64 ((wrap64 ((rd_T103 l0 (ji3)).f0)) - (wrap64 ((rd_T103 l0 x7_1).f0))))))) else (none)) else (none))) else (none)) else (none)) = some (r1, r2, r3) := by first | (rw [hji3] at H; exact H) | (simp only [hji3] at H ⊢; exact H)
   have hji3w : (IntKind.i64.wrap (x7_1 + 1)) = ji3 := (i64_w _).trans hji3
   by_cases c4 : 0 ≤ (ji3)
   ·rw [if_pos c4] at H
    have c4b0 : decide (0 ≤ (ji3)) = true := decide_eq_true c4
    have c4b1 : 0 ≤ (ji3) := c4
    clear c4
    by_cases c5 : (ji3) < (l0.length : Int)
    ·rw [if_pos c5] at H
     have c5b0 : decide ((ji3) < (l0.length : Int)) = true := decide_eq_true c5
     clear c5
     by_cases c6 : (wrap64 ((rd_T103 l0 (ji3)).f0)) ≤ a1
     ·rw [if_pos c6] at H
      have c6b0 : decide ((wrap64 ((rd_T103 l0 (ji3)).f0)) ≤ a1) = true := decide_eq_true c6
      clear c6
      by_cases c7 : (wrap64 (x7_1 + 2)) < (l0.length : Int)
      ·rw [if_pos c7] at H
       have c7b0 : decide ((wrap64 (x7_1 + 2)) < (l0.length : Int)) = true := decide_eq_true c7
       clear c7
       have H' := am H
       clear H
       have p261 : 0 ≤ ((ji3) : Int) := of_decide_eq_true (by first | (with_reducible assumption) | assumption)
       have q261 : (ji3) < (l0.length : Int) := of_decide_eq_true (by first | (with_reducible assumption) | assumption)
       obtain ⟨ad261, e261, hx261_0, hx261_1⟩ := at_T103 HR0.out (ji3) p261 q261
       cases e261
       replace p261 := eq_true p261
       replace q261 := eq_true q261
       go_wp2
       repeat (go_quiet (fail); try go_wp2)
       go_roundg k1
       case measure => have := HK1.out; omega
       case rel => exact ⟨(ji3), (by first | rfl | (simp; done) | (simp only [← hji3] <;> (first | rfl | simp)) | (simp [*]; done)), H', ⟨by have := HK1.out; omega⟩, by repeat (first | exact Drawn0.refl _ | apply Drawn0.step)⟩
      ·rw [if_neg c7] at H
       have c7b0 : decide ((wrap64 (x7_1 + 2)) < (l0.length : Int)) = false := decide_eq_false c7
       clear c7
       by_cases c8 : 0 ≤ x7_1
       ·rw [if_pos c8] at H
        have c8b0 : decide (0 ≤ x7_1) = true := decide_eq_true c8
        have c8b1 : 0 ≤ x7_1 := c8
        clear c8
        by_cases c9 : x7_1 < (l0.length : Int)
        ·rw [if_pos c9] at H
         have c9b0 : decide (x7_1 < (l0.length : Int)) = true := decide_eq_true c9
         clear c9
         by_cases c10 : (wrap64 ((wrap64 ((rd_T103 l0 (ji3)).f0)) - (wrap64 ((rd_T103 l0 x7_1).f0)))) = 0
         ·rw [if_pos c10] at H
          exact absurd H (by simp)
         ·rw [if_neg c10] at H
          have c10b0 : ((wrap64 ((wrap64 ((rd_T103 l0 (ji3)).f0)) - (wrap64 ((rd_T103 l0 x7_1).f0)))) == 0) = false := beq_eq_false_iff_ne.mpr c10
          have c10b1 : ((wrap64 ((wrap64 ((rd_T103 l0 (ji3)).f0)) - (wrap64 ((rd_T103 l0 x7_1).f0)))) != 0) = true := bne_iff_ne.mpr c10
          simp only [Option.some.injEq, Prod.mk.injEq] at H
          obtain ⟨rfl, rfl, rfl⟩ := H
          have p261 : 0 ≤ ((ji3) : Int) := of_decide_eq_true (by first | (with_reducible assumption) | assumption)
          have q261 : (ji3) < (l0.length : Int) := of_decide_eq_true (by first | (with_reducible assumption) | assumption)
          obtain ⟨ad261, e261, hx261_0, hx261_1⟩ := at_T103 HR0.out (ji3) p261 q261
          cases e261
          replace p261 := eq_true p261
          replace q261 := eq_true q261
          have p262 : 0 ≤ (x7_1 : Int) := of_decide_eq_true (by first | (with_reducible assumption) | assumption)
          have q262 : x7_1 < (l0.length : Int) := of_decide_eq_true (by first | (with_reducible assumption) | assumption)
          obtain ⟨ad262, e262, hx262_0, hx262_1⟩ := at_T103 HR0.out x7_1 p262 q262
          obtain rfl : ad261 = ad262 := (by injection e262)
          replace p262 := eq_true p262
          replace q262 := eq_true q262
          have p263 : 0 ≤ ((ji3) : Int) := of_decide_eq_true (by first | (with_reducible assumption) | assumption)
          have q263 : (ji3) < (l0.length : Int) := of_decide_eq_true (by first | (with_reducible assumption) | assumption)
          obtain ⟨ad263, e263, hx263_0, hx263_1⟩ := at_T103 HR0.out (ji3) p263 q263
          obtain rfl : ad261 = ad263 := (by injection e263)
          replace p263 := eq_true p263
          replace q263 := eq_true q263
          go_wp2
          repeat (go_quiet (fail); try go_wp2)
          go_ret3
          exact ⟨by first | rfl | (simp; done) | (simp only [← hji3] <;> (first | rfl | simp)) | (simp [*]; done), by repeat (first | exact Drawn0.refl _ | apply Drawn0.step)⟩
        ·rw [if_neg c9] at H
         exact absurd H (by simp)
       ·rw [if_neg c8] at H
        exact absurd H (by simp)
     ·rw [if_neg c6] at H
      have c6b0 : decide ((wrap64 ((rd_T103 l0 (ji3)).f0)) ≤ a1) = false := decide_eq_false c6
      clear c6
      by_cases c11 : 0 ≤ x7_1
      ·rw [if_pos c11] at H
       have c11b0 : decide (0 ≤ x7_1) = true := decide_eq_true c11
       have c11b1 : 0 ≤ x7_1 := c11
       clear c11
       by_cases c12 : x7_1 < (l0.length : Int)
       ·rw [if_pos c12] at H
        have c12b0 : decide (x7_1 < (l0.length : Int)) = true := decide_eq_true c12
        clear c12
        by_cases c13 : (wrap64 ((wrap64 ((rd_T103 l0 (ji3)).f0)) - (wrap64 ((rd_T103 l0 x7_1).f0)))) = 0
        ·rw [if_pos c13] at H
         exact absurd H (by simp)
        ·rw [if_neg c13] at H
         have c13b0 : ((wrap64 ((wrap64 ((rd_T103 l0 (ji3)).f0)) - (wrap64 ((rd_T103 l0 x7_1).f0)))) == 0) = false := beq_eq_false_iff_ne.mpr c13
         have c13b1 : ((wrap64 ((wrap64 ((rd_T103 l0 (ji3)).f0)) - (wrap64 ((rd_T103 l0 x7_1).f0)))) != 0) = true := bne_iff_ne.mpr c13
         simp only [Option.some.injEq, Prod.mk.injEq] at H
         obtain ⟨rfl, rfl, rfl⟩ := H
         have p261 : 0 ≤ ((ji3) : Int) := of_decide_eq_true (by first | (with_reducible assumption) | assumption)
         have q261 : (ji3) < (l0.length : Int) := of_decide_eq_true (by first | (with_reducible assumption) | assumption)
         obtain ⟨ad261, e261, hx261_0, hx261_1⟩ := at_T103 HR0.out (ji3) p261 q261
         cases e261
         replace p261 := eq_true p261
         replace q261 := eq_true q261
         have p264 : 0 ≤ (x7_1 : Int) := of_decide_eq_true (by first | (with_reducible assumption) | assumption)
         have q264 : x7_1 < (l0.length : Int) := of_decide_eq_true (by first | (with_reducible assumption) | assumption)
         obtain ⟨ad264, e264, hx264_0, hx264_1⟩ := at_T103 HR0.out x7_1 p264 q264
         obtain rfl : ad261 = ad264 := (by injection e264)
         replace p264 := eq_true p264
         replace q264 := eq_true q264
         have p265 : 0 ≤ ((ji3) : Int) := of_decide_eq_true (by first | (with_reducible assumption) | assumption)
         have q265 : (ji3) < (l0.length : Int) := of_decide_eq_true (by first | (with_reducible assumption) | assumption)
         obtain ⟨ad265, e265, hx265_0, hx265_1⟩ := at_T103 HR0.out (ji3) p265 q265
         obtain rfl : ad261 = ad265 := (by injection e265)
         replace p265 := eq_true p265
         replace q265 := eq_true q265
         go_wp2
         repeat (go_quiet (fail); try go_wp2)
         go_ret3
         exact ⟨by first | rfl | (simp; done) | (simp only [← hji3] <;> (first | rfl | simp)) | (simp [*]; done), by repeat (first | exact Drawn0.refl _ | apply Drawn0.step)⟩
       ·rw [if_neg c12] at H
        exact absurd H (by simp)
      ·rw [if_neg c11] at H
       exact absurd H (by simp)
    ·rw [if_neg c5] at H
     exact absurd H (by simp)
   ·rw [if_neg c4] at H
    exact absurd H (by simp)

/-! ### impl_twelfths: function 177 -/
def impl_twelfths.f  : Option (List Int) := some (([1, 2, 3, 3, 2, 1] : List Int))
set_option maxHeartbeats 8000000 in
set_option maxRecDepth 100000 in
theorem impl_twelfths.calls  (r : List Int) (w : World) (h : impl_twelfths.f  = some r) :
  Calls Try.prog 177 #[] w fun e w' => ∃ v0_ : Value, e = .returned (v0_) ∧ Kd.R (Kd.int .i64) 2 w' w.heap.size (fun _ => True) v0_ r ∧ Below w.heap.size w w' := by
 have HB := am (Below.refl w.heap.size w)
 have H : (some (([1, 2, 3, 3, 2, 1] : List Int))) = some r := h
 clear h
 obtain ⟨y266, hy266⟩ : ∃ y_ : List Int, y_ = (([1, 2, 3, 3, 2, 1] : List Int)) := ⟨_, rfl⟩
 replace H : (some y266) = some r := by first | (rw [hy266]; with_reducible exact H) | (have H2_ := (Option.bind_some _ _).symm.trans H; rw [hy266]; with_reducible exact H2_) | (have H2_ := (Option.bind_some _ _).symm.trans H; with_reducible exact H2_) | with_reducible exact H | (rw [hy266]; exact H) | exact H
 have Ny266 := am hy266
 clear hy266
 obtain rfl := Option.some.inj H
 go_enter Try.func177, Try.ntmps177
 go_wp2_with (first | ((with_reducible refine gate_dst (N := 1) rfl ?_); refine Kd.R_lit (Kd.int .i64) _ 2 ?hg (N := 1) ?hd (xs := ([1, 2, 3, 3, 2, 1] : List Int)) (inner := [.int .i64 1, .int .i64 2, .int .i64 3, .int .i64 3, .int .i64 2, .int .i64 1]) (ok := fun _ => True) (okp := fun _ => True) ?hr ?hp (fun _ hk => hk) trivial (Below.refl _ _) (Nat.le_refl _) (by simp) ?_; (case hd => rfl); (case hg => rfl); (case hr => first | (go_simp; done) | (go_simp; rfl)); (case hp => exact (Reps.one (show Kd.M (Kd.int .i64) _ _ _ 1 [.int .i64 1] from rfl) (Reps.one (show Kd.M (Kd.int .i64) _ _ _ 2 [.int .i64 2] from rfl) (Reps.one (show Kd.M (Kd.int .i64) _ _ _ 3 [.int .i64 3] from rfl) (Reps.one (show Kd.M (Kd.int .i64) _ _ _ 3 [.int .i64 3] from rfl) (Reps.one (show Kd.M (Kd.int .i64) _ _ _ 2 [.int .i64 2] from rfl) (Reps.one (show Kd.M (Kd.int .i64) _ _ _ 1 [.int .i64 1] from rfl) (Reps.none _ _)))))))); intro v267 w1 ho2 hb hg_ hnew_; clear hg_ hnew_; (first | rw [← Ny266.out] at ho2 | (simp only [Int.reduceToNat] at ho2; rw [← Ny266.out] at ho2)); have HO268 := am (Kd.R_lower ho2 (below_size (be HB))); replace HB := am (below_step (be HB) hb); clear hb ho2))
 go_ret
 exact ⟨_, by first | rfl | (simp [errW_none, errW_some] <;> rfl) | (simp [*, errW_none, errW_some] <;> rfl), by (with_reducible repeat (first | apply Kd.R_alloc | apply Kd.R_drewN | apply Kd.R_drew)); exact HO268.out, be HB⟩

end Go.Proofs.Ytcollbifdfhfoaa.PFnExactAfloatAt
