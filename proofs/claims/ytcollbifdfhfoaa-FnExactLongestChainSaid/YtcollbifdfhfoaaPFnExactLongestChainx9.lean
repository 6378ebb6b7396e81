-- Written by a program out of this seat's translation (functions, and that the code comes to them).
import Derived.Test.YtcollbifdfhfoaaPFnExactLongestChainx0
import Derived.Test.YtcollbifdfhfoaaPFnExactLongestChainx8
namespace Go.Proofs.Ytcollbifdfhfoaa.PFnExactLongestChain
open Go.RowKit Go.Proofs.YtcollbifdfhfoaaW.PrintWords Go.Proofs.YtcollbifdfhfoaaW.PrintLast Go.Proofs.YtcollbifdfhfoaaW.PrintMore
attribute [local go_sem] max2_int min2_int max_two min_two max_three min_three max_four min_four   -- for this text's walks alone
open Go.Proofs.Ytcollbifdfhfoaa.Bay Go.Proofs.Ytcollbifdfhfoaa.Short
attribute [local go_sem ↓] lv26_eq lv28_eq
attribute [local go_sem] lvv_set lvv_drewN lvv_drew lv26_run BayAt26_set BayAt26_drewN BayAt26_drew lv28_run BayAt28_set BayAt28_drewN BayAt28_drew
set_option linter.unusedVariables false
set_option linter.unusedSimpArgs false

/-! ### impl_allPlaces: function 111 -/
mutual
def impl_allPlaces.l0 : Nat → List (S36) → Int → Int → Int → Int → (Nat → Int) → Option ((List (S36)))
 | 0, _, _, _, _, _, _ => none
 | k + 1, x3, x8, x9, x295000, x295001, x295002 => if x9 < x8 then (impl_allPlaces.l1 k x3 x9 x8 x9 x295000 0 x295000 x295001 x295002) else (some x3)
def impl_allPlaces.l1 : Nat → List (S36) → Int → Int → Int → Int → Int → Int → Int → (Nat → Int) → Option ((List (S36)))
 | 0, _, _, _, _, _, _, _, _, _ => none
 | k + 1, x3, x4, x8, x9, x13, x14, x295000, x295001, x295002 => if x14 < x13 then (if x3.length < 70368744177664 then (impl_allPlaces.l1 k (x3 ++ [(⟨x14, x4⟩ : S36)]) x4 x8 x9 x13 (IntKind.i8.wrap (x14 + 1)) x295000 x295001 x295002) else (none)) else (impl_allPlaces.l0 k x3 x8 (IntKind.i8.wrap (x9 + 1)) x295000 x295001 x295002)
end
def impl_allPlaces.f (k : Nat) (a0_0 : Int) (a0_1 : Int) (a0_2 : (Nat → Int)) : Option ((List (S36))) := impl_allPlaces.l0 k (([] : List (S36))) a0_1 0 a0_0 a0_1 a0_2
set_option maxHeartbeats 8000000 in
set_option maxRecDepth 100000 in
theorem impl_allPlaces.calls (k : Nat) (a0_0 : Int) (a0_1 : Int) (a0_2 : (Nat → Int)) (r : List (S36)) (w : World) (h : impl_allPlaces.f k a0_0 a0_1 a0_2 = some r) :
  Calls Try.prog 111 #[.agg (csBay a0_0 a0_1 a0_2)] w fun e w' => ∃ v0_ : Value, e = .returned (v0_) ∧ Kd.R k36 36 w' w.heap.size (fun _ => True) v0_ r ∧ Below w.heap.size w w' := by
 have hu28 := Try.underlying28
 have hu36 := Try.underlying36
 have HB := am (Below.refl w.heap.size w)
 have H : (impl_allPlaces.l0 k (([] : List (S36))) a0_1 0 a0_0 a0_1 a0_2) = some r := h
 clear h
 obtain ⟨y295, hy295⟩ : ∃ y_ : List (S36), y_ = (([] : List (S36))) := ⟨_, rfl⟩
 replace H : (impl_allPlaces.l0 k y295 a0_1 0 a0_0 a0_1 a0_2) = some r := by first | (rw [hy295]; with_reducible exact H) | (have H2_ := (Option.bind_some _ _).symm.trans H; rw [hy295]; with_reducible exact H2_) | (have H2_ := (Option.bind_some _ _).symm.trans H; with_reducible exact H2_) | with_reducible exact H | (rw [hy295]; exact H) | exact H
 have Ny295 := am hy295
 clear hy295
 have H' := am H
 clear H
 go_enter Try.func111, Try.ntmps111
 go_wp2_with (first | ((with_reducible refine gate_dst (N := 1) rfl ?_); refine bxe (N := 1) (cs := (csBay a0_0 a0_1 a0_2)) (t := 28) ?_; intro gb294 hg w2 hbox hb; have BK294 := am (hbox); have GW294 := am (gN hg (below_size (be HB))); have GE294 := am (gN hg (below_size (be HB))); replace HB := am (below_step (be HB) hb); clear hb hbox hg) | ((with_reducible refine gate_dst (N := 6) rfl ?_); refine Kd.R_lit k36 _ 36 ?hg (N := 6) ?hd (xs := ([] : List (S36))) (inner := []) (ok := fun _ => True) (okp := fun _ => True) ?hr ?hp (fun _ hk => hk) trivial (Below.refl _ _) (Nat.le_refl _) (by simp) ?_; (case hd => rfl); (case hg => rfl); (case hr => first | (go_simp; done) | (go_simp; rfl)); (case hp => exact (Reps.none _ _)); intro v296 w3 ho4 hb hg_ hnew_; clear hg_ hnew_; (first | rw [← Ny295.out] at ho4 | (simp only [Int.reduceToNat] at ho4; rw [← Ny295.out] at ho4)); have HO297 := am (Kd.R_lower ho4 (below_size (be HB))); replace BK294 := bB BK294 hb; replace HB := am (below_step (be HB) hb); clear hb ho4; obtain ⟨hcz5_0, hcz5_1, hwz5, haz5, hyz5, hvz5, hfz5_0, hfz5_1, hfz5_2⟩ := bb28 BK294))
 go_loopg [3, 9] k (fun kq v3 v9 w' => ∃ (x3_1 : List (S36)) (x9_1 : Int), v9 = .int .i8 x9_1 ∧ Aside0 (impl_allPlaces.l0 kq x3_1 a0_1 x9_1 a0_0 a0_1 a0_2 = some r) ∧ Aside0 (kq ≤ k) ∧ Aside0 (Kd.R k36 36 w' w.heap.size (fun _ => True) v3 x3_1) ∧ Aside0 (w'.heap[gb294]? = some (.cells (csBay a0_0 a0_1 a0_2) 28 (0, 0))) ∧ Aside0 (Below w.heap.size w w'))
 case atStart => exact ⟨(y295), (0), vv, H', ⟨Nat.le_refl _⟩, ⟨kr HO297⟩, ⟨kb BK294⟩, ⟨be HB⟩⟩
 case round =>
  clear H'
  try clear c1
  try clear p2
  try clear hcz5_0
  try clear hcz5_1
  try clear hfz5_0
  try clear hfz5_1
  try clear hfz5_2
  obtain ⟨x3_1, x9_1, rfl, HA, HK1, HO_3, BK294, HB⟩ := hrel
  cases gk with
  | zero => exact absurd HA.out (by simp [impl_allPlaces.l0])
  | succ k1 =>
   have H := HA.out
   clear HA
   simp only [impl_allPlaces.l0] at H
   by_cases c6 : x9_1 < a0_1
   ·rw [if_pos c6] at H
    have c6b0 : decide (x9_1 < a0_1) = true := decide_eq_true c6
    clear c6
    have H' := am H
    clear H
    have hcz7_0 : wr.cell? ⟨gb294, 0, none⟩ = some (.int .i8 a0_0) := (blk_cell BK294.out 0).trans rfl
    have hcz7_1 : wr.cell? ⟨gb294, 1, none⟩ = some (.int .i8 a0_1) := (blk_cell BK294.out 1).trans rfl
    have hwz7 := lv28_at BK294.out; have haz7 := at_cells BK294.out; have hyz7 := BayAt28_of BK294.out; have hvz7 := lvv_of BK294.out
    have hfz7_0 := blk_frozen BK294.out 0
    have hfz7_1 := blk_frozen BK294.out 1
    have hfz7_2 := blk_frozen BK294.out 2
    go_wp2
    go_loopg [3, 14] k1 (fun kq v3 v14 w' => ∃ (x3_2 : List (S36)) (x14_2 : Int), v14 = .int .i8 x14_2 ∧ Aside0 (impl_allPlaces.l1 kq x3_2 x9_1 a0_1 x9_1 a0_0 x14_2 a0_0 a0_1 a0_2 = some r) ∧ Aside0 (kq ≤ k1) ∧ Aside0 (Kd.R k36 36 w' w.heap.size (fun _ => True) v3 x3_2) ∧ Aside0 (w'.heap[gb294]? = some (.cells (csBay a0_0 a0_1 a0_2) 28 (0, 0))) ∧ Aside0 (Below w.heap.size w w'))
    case atStart => exact ⟨(x3_1), (0), vv, H', ⟨Nat.le_refl _⟩, ⟨kr HO_3⟩, ⟨kb BK294⟩, ⟨be HB⟩⟩
    case round =>
     clear H'
     try clear c1
     try clear p2
     try clear c6
     try clear c6b0
     try clear hcz5_0
     try clear hcz5_1
     try clear hcz7_0
     try clear hcz7_1
     try clear hfz5_0
     try clear hfz5_1
     try clear hfz5_2
     try clear hfz7_0
     try clear hfz7_1
     try clear hfz7_2
     try clear p2
     obtain ⟨x3_2, x14_2, rfl, HA, HK2, HO_3, BK294, HB⟩ := hrel
     cases gk with
     | zero => exact absurd HA.out (by simp [impl_allPlaces.l1])
     | succ k2 =>
      have H := HA.out
      clear HA
      simp only [impl_allPlaces.l1] at H
      by_cases c8 : x14_2 < a0_0
      ·rw [if_pos c8] at H
       have c8b0 : decide (x14_2 < a0_0) = true := decide_eq_true c8
       clear c8
       by_cases c9 : x3_2.length < 70368744177664
       ·rw [if_pos c9] at H
        have LMc9 := am c9
        clear c9
        obtain ⟨y298, hy298⟩ : ∃ y_ : List (S36), y_ = (x3_2 ++ [(⟨x14_2, x9_1⟩ : S36)]) := ⟨_, rfl⟩
        replace H : (impl_allPlaces.l1 k2 y298 x9_1 a0_1 x9_1 a0_0 (IntKind.i8.wrap (x14_2 + 1)) a0_0 a0_1 a0_2) = some r := by first | (rw [hy298]; with_reducible exact H) | (have H2_ := (Option.bind_some _ _).symm.trans H; rw [hy298]; with_reducible exact H2_) | (have H2_ := (Option.bind_some _ _).symm.trans H; with_reducible exact H2_) | with_reducible exact H | (rw [hy298]; exact H) | exact H
        have Ny298 := am hy298
        clear hy298
        have H' := am H
        clear H
        go_wp2_with (first | ((with_reducible refine gate_builtin (b := .append) (xs := #[.tmp 17, .tmp 21]) rfl ?_); at_builtin; refine Kd.R_append k36 (w0 := w) w.heap.size rfl (.tmp 17) (.tmp 21) 56 36 (.agg #[(.int .i8 0), (.int .i8 0)]) 2 rfl Try.underlying56 info36 rfl (by decide) (by omega) u3 x3_2 (⟨x14_2, x9_1⟩ : S36) [.int .i8 x14_2, .int .i8 x9_1] (fun _ => True) (fun _ => False) rfl rfl ?aP (fun _ hk => hk.elim) ?aF ?aO ?aB ?aS ?aL ?_; (case aP => exact k36_mkM _ _ _ (⟨x14_2, x9_1⟩ : S36)); (case aB => exact (be HB)); (case aF => exact (fun _ _ => trivial)); (case aO => exact (kr HO_3)); (case aS => exact (below_size (be HB))); (case aL => have := LMc9.out; omega); intro v299 w10 ho hb hg hat; rw [← Ny298.out] at ho; have HO300 := am (ho); replace BK294 := am (blk_grown (g := gb294) (o := .cells (csBay a0_0 a0_1 a0_2) 28 (0, 0)) (kb BK294) hg (Kd.R_ne HO_3.out BK294.out (by decide))); replace HB := am (hb); clear HO_3; clear ho hb hg hat))
        go_roundg k2
        case measure => have := HK1.out; have := HK2.out; omega
        case rel => exact ⟨(y298), (IntKind.i8.wrap (x14_2 + 1)), vv, H', ⟨by have := HK1.out; have := HK2.out; omega⟩, ⟨kr HO300⟩, ⟨kb BK294⟩, ⟨be HB⟩⟩
       ·rw [if_neg c9] at H
        exact absurd H (by simp)
      ·rw [if_neg c8] at H
       have c8b0 : decide (x14_2 < a0_0) = false := decide_eq_false c8
       clear c8
       have H' := am H
       clear H
       go_wp2
       go_roundg k2
       case measure => have := HK1.out; have := HK2.out; omega
       case rel => exact ⟨(x3_2), (IntKind.i8.wrap (x9_1 + 1)), vv, H', ⟨by have := HK1.out; have := HK2.out; omega⟩, ⟨kr HO_3⟩, ⟨kb BK294⟩, ⟨be HB⟩⟩
   ·rw [if_neg c6] at H
    have c6b0 : decide (x9_1 < a0_1) = false := decide_eq_false c6
    clear c6
    obtain rfl := Option.some.inj H
    go_wp2
    go_ret
    exact ⟨_, by first | rfl | (simp [errW_none, errW_some] <;> rfl) | (simp [*, errW_none, errW_some] <;> rfl), by (with_reducible repeat (first | apply Kd.R_alloc | apply Kd.R_drewN | apply Kd.R_drew)); exact HO_3.out, be HB⟩

/-! ### impl_far: function 171 -/
def impl_far.f (a0_0 : Int) (a0_1 : Int) (a1_0 : Int) (a1_1 : Int) : Option (Int) := some (wrap64 ((wrap64 ((wrap64 ((wrap64 (a0_0)) - (wrap64 (a1_0)))) * (wrap64 ((wrap64 (a0_0)) - (wrap64 (a1_0)))))) + (wrap64 ((wrap64 ((wrap64 (a0_1)) - (wrap64 (a1_1)))) * (wrap64 ((wrap64 (a0_1)) - (wrap64 (a1_1))))))))
set_option maxHeartbeats 8000000 in
set_option maxRecDepth 100000 in
theorem impl_far.calls (a0_0 : Int) (a0_1 : Int) (a1_0 : Int) (a1_1 : Int) (r : Int) (w : World) (h : impl_far.f a0_0 a0_1 a1_0 a1_1 = some r) :
  Calls Try.prog 171 #[.agg #[.int .i8 a0_0, .int .i8 a0_1], .agg #[.int .i8 a1_0, .int .i8 a1_1]] w fun e w' => e = .returned (.int .i64 r) ∧ Below w.heap.size w w' := by
 have hu36 := Try.underlying36
 have HB := am (Below.refl w.heap.size w)
 have H : (some (wrap64 ((wrap64 ((wrap64 ((wrap64 (a0_0)) - (wrap64 (a1_0)))) * (wrap64 ((wrap64 (a0_0)) - (wrap64 (a1_0)))))) + (wrap64 ((wrap64 ((wrap64 (a0_1)) - (wrap64 (a1_1)))) * (wrap64 ((wrap64 (a0_1)) - (wrap64 (a1_1))))))))) = some r := h
 clear h
 obtain rfl := Option.some.inj H
 go_enter Try.func171, Try.ntmps171
 go_wp2_with (first | ((with_reducible refine gate_dst (N := 2) rfl ?_); refine bxe (N := 2) (cs := #[.int .i8 a0_0, .int .i8 a0_1]) (t := 36) ?_; intro gb301 hg w3 hbox hb; have BK301 := am (hbox); have GW301 := am (gN hg (below_size (be HB))); have GE301 := am (gN hg (below_size (be HB))); replace HB := am (below_step (be HB) hb); clear hb hbox hg) | ((with_reducible refine gate_dst (N := 3) rfl ?_); refine bxe (N := 3) (cs := #[.int .i8 a1_0, .int .i8 a1_1]) (t := 36) ?_; intro gb302 hg w4 hbox hb; have BK302 := am (hbox); have GW302 := am (gN hg (below_size (be HB))); have GE302 := am (gN hg (below_size (be HB))); have NB301_302 := nL BK301 hg; have NB302_301 := nR BK301 hg; replace BK301 := bB BK301 hb; replace HB := am (below_step (be HB) hb); clear hb hbox hg; have hnb5 := NB301_302.out; have hnc5 := NB302_301.out; obtain ⟨hcz6_0, hcz6_1, hfz6_0, hfz6_1⟩ := bx2 BK301; obtain ⟨hcz7_0, hcz7_1, hfz7_0, hfz7_1⟩ := bx2 BK302))
 repeat (go_quiet (first | ((with_reducible refine gate_dst (N := 2) rfl ?_); refine bxe (N := 2) (cs := #[.int .i8 a0_0, .int .i8 a0_1]) (t := 36) ?_; intro gb301 hg w3 hbox hb; have BK301 := am (hbox); have GW301 := am (gN hg (below_size (be HB))); have GE301 := am (gN hg (below_size (be HB))); replace HB := am (below_step (be HB) hb); clear hb hbox hg) | ((with_reducible refine gate_dst (N := 3) rfl ?_); refine bxe (N := 3) (cs := #[.int .i8 a1_0, .int .i8 a1_1]) (t := 36) ?_; intro gb302 hg w4 hbox hb; have BK302 := am (hbox); have GW302 := am (gN hg (below_size (be HB))); have GE302 := am (gN hg (below_size (be HB))); have NB301_302 := nL BK301 hg; have NB302_301 := nR BK301 hg; replace BK301 := bB BK301 hb; replace HB := am (below_step (be HB) hb); clear hb hbox hg; have hnb5 := NB301_302.out; have hnc5 := NB302_301.out; obtain ⟨hcz6_0, hcz6_1, hfz6_0, hfz6_1⟩ := bx2 BK301; obtain ⟨hcz7_0, hcz7_1, hfz7_0, hfz7_1⟩ := bx2 BK302)); try go_wp2_with (first | ((with_reducible refine gate_dst (N := 2) rfl ?_); refine bxe (N := 2) (cs := #[.int .i8 a0_0, .int .i8 a0_1]) (t := 36) ?_; intro gb301 hg w3 hbox hb; have BK301 := am (hbox); have GW301 := am (gN hg (below_size (be HB))); have GE301 := am (gN hg (below_size (be HB))); replace HB := am (below_step (be HB) hb); clear hb hbox hg) | ((with_reducible refine gate_dst (N := 3) rfl ?_); refine bxe (N := 3) (cs := #[.int .i8 a1_0, .int .i8 a1_1]) (t := 36) ?_; intro gb302 hg w4 hbox hb; have BK302 := am (hbox); have GW302 := am (gN hg (below_size (be HB))); have GE302 := am (gN hg (below_size (be HB))); have NB301_302 := nL BK301 hg; have NB302_301 := nR BK301 hg; replace BK301 := bB BK301 hb; replace HB := am (below_step (be HB) hb); clear hb hbox hg; have hnb5 := NB301_302.out; have hnc5 := NB302_301.out; obtain ⟨hcz6_0, hcz6_1, hfz6_0, hfz6_1⟩ := bx2 BK301; obtain ⟨hcz7_0, hcz7_1, hfz7_0, hfz7_1⟩ := bx2 BK302)))
 go_ret
 exact ⟨by first | rfl | (simp [errW_none, errW_some] <;> rfl) | (simp [*, errW_none, errW_some] <;> rfl), be HB⟩

/-! ### impl_swingPlaces: function 123 -/
def impl_swingPlaces.l0 : Nat → Int → List (S36) → List (S36) → Int → Int → Int → Int → Int → Int → Int → Int → Option ((List (S36)))
 | 0, _, _, _, _, _, _, _, _, _, _, _ => none
 | k + 1, x5, x6, x14, x15, x16, x305000, x305001, x305002, x305003, x305004, x305005 => if x16 < x15 then (if 0 ≤ x16 then (if x16 < (x14.length : Int) then ((impl_far.f ((rd_T36 x14 x16).f0) ((rd_T36 x14 x16).f1) x305000 x305001).bind fun t314 => (if t314 ≤ (wrap64 (x5 * x5)) then (if x6.length < 70368744177664 then (impl_swingPlaces.l0 k x5 (x6 ++ [(⟨(rd_T36 x14 x16).f0, (rd_T36 x14 x16).f1⟩ : S36)]) x14 x15 (wrap64 (x16 + 1)) x305000 x305001 x305002 x305003 x305004 x305005) else (none)) else (impl_swingPlaces.l0 k x5 x6 x14 x15 (wrap64 (x16 + 1)) x305000 x305001 x305002 x305003 x305004 x305005))) else (none)) else (none)) else (some x6)
def impl_swingPlaces.f (k : Nat) (a0_0 : Int) (a0_1 : Int) (a0_2 : (Nat → Int)) (a1_0 : Int) (a1_1 : Int) (a1_2 : Int) (a1_3 : Int) (a1_4 : Int) (a1_5 : Int) : Option ((List (S36))) := (impl_swingOf.f k a0_0 a0_1 a0_2 a1_0 a1_1 a1_2 a1_3 a1_4 a1_5).bind fun t305 => ((impl_allPlaces.f k a0_0 a0_1 a0_2).bind fun t309 => (impl_swingPlaces.l0 k t305 (([] : List (S36))) t309 (t309.length : Int) 0 a1_0 a1_1 a1_2 a1_3 a1_4 a1_5))
set_option maxHeartbeats 8000000 in
set_option maxRecDepth 100000 in
theorem impl_swingPlaces.calls (k : Nat) (a0_0 : Int) (a0_1 : Int) (a0_2 : (Nat → Int)) (a1_0 : Int) (a1_1 : Int) (a1_2 : Int) (a1_3 : Int) (a1_4 : Int) (a1_5 : Int) (r : List (S36)) (w : World) (h : impl_swingPlaces.f k a0_0 a0_1 a0_2 a1_0 a1_1 a1_2 a1_3 a1_4 a1_5 = some r) :
  Calls Try.prog 123 #[.agg (csBay a0_0 a0_1 a0_2), .agg #[.int .i8 a1_0, .int .i8 a1_1, .int .i8 a1_2, .int .i8 a1_3, .int .i8 a1_4, .int .i8 a1_5]] w fun e w' => ∃ v0_ : Value, e = .returned (v0_) ∧ Kd.R k36 36 w' w.heap.size (fun _ => True) v0_ r ∧ Below w.heap.size w w' := by
 have hu28 := Try.underlying28
 have hu38 := Try.underlying38
 have hu36 := Try.underlying36
 have HB := am (Below.refl w.heap.size w)
 have H : ((impl_swingOf.f k a0_0 a0_1 a0_2 a1_0 a1_1 a1_2 a1_3 a1_4 a1_5).bind fun t305 => ((impl_allPlaces.f k a0_0 a0_1 a0_2).bind fun t309 => (impl_swingPlaces.l0 k t305 (([] : List (S36))) t309 (t309.length : Int) 0 a1_0 a1_1 a1_2 a1_3 a1_4 a1_5))) = some r := h
 clear h
 replace H := Option.bind_eq_some_iff.mp H
 obtain ⟨t305, A30, H⟩ := H
 try dsimp only at H
 have A3 := am A30
 clear A30
 obtain ⟨y306, hy306⟩ : ∃ y_ : List (S36), y_ = (([] : List (S36))) := ⟨_, rfl⟩
 replace H : ((impl_allPlaces.f k a0_0 a0_1 a0_2).bind fun t309 => (impl_swingPlaces.l0 k t305 y306 t309 (t309.length : Int) 0 a1_0 a1_1 a1_2 a1_3 a1_4 a1_5)) = some r := by first | (rw [hy306]; with_reducible exact H) | (have H2_ := (Option.bind_some _ _).symm.trans H; rw [hy306]; with_reducible exact H2_) | (have H2_ := (Option.bind_some _ _).symm.trans H; with_reducible exact H2_) | with_reducible exact H | (rw [hy306]; exact H) | exact H
 have Ny306 := am hy306
 clear hy306
 replace H := Option.bind_eq_some_iff.mp H
 obtain ⟨t309, A40, H⟩ := H
 try dsimp only at H
 have A4 := am A40
 clear A40
 have H' := am H
 clear H
 go_enter Try.func123, Try.ntmps123
 go_wp2_with (first | ((with_reducible refine gate_dst (N := 2) rfl ?_); refine bxe (N := 2) (cs := (csBay a0_0 a0_1 a0_2)) (t := 28) ?_; intro gb303 hg w5 hbox hb; have BK303 := am (hbox); have GW303 := am (gN hg (below_size (be HB))); have GE303 := am (gN hg (below_size (be HB))); replace HB := am (below_step (be HB) hb); clear hb hbox hg) | ((with_reducible refine gate_dst (N := 3) rfl ?_); refine bxe (N := 3) (cs := #[.int .i8 a1_0, .int .i8 a1_1, .int .i8 a1_2, .int .i8 a1_3, .int .i8 a1_4, .int .i8 a1_5]) (t := 38) ?_; intro gb304 hg w6 hbox hb; have BK304 := am (hbox); have GW304 := am (gN hg (below_size (be HB))); have GE304 := am (gN hg (below_size (be HB))); have NB303_304 := nL BK303 hg; have NB304_303 := nR BK303 hg; replace BK303 := bB BK303 hb; replace HB := am (below_step (be HB) hb); clear hb hbox hg; have hnb7 := NB303_304.out; have hnc7 := NB304_303.out; obtain ⟨hcz8_0, hcz8_1, hwz8, haz8, hyz8, hvz8, hfz8_0, hfz8_1, hfz8_2⟩ := bb28 BK303; obtain ⟨hcz9_0, hcz9_1, hcz9_2, hcz9_3, hcz9_4, hcz9_5, hfz9_0, hfz9_1, hfz9_2, hfz9_3, hfz9_4, hfz9_5⟩ := bx6 BK304) | ((with_reducible refine gate_callee (f := 115) rfl ?_); refine gL (some 11) Try.func115 #[.agg (csBay a0_0 a0_1 a0_2), .agg #[.int .i8 a1_0, .int .i8 a1_1, .int .i8 a1_2, .int .i8 a1_3, .int .i8 a1_4, .int .i8 a1_5]] ?_; (with_reducible refine (impl_swingOf.calls k a0_0 a0_1 a0_2 a1_0 a1_1 a1_2 a1_3 a1_4 a1_5 t305 _ A3.out).mono ?_); rintro e w10 ⟨rfl, hb⟩; refine ⟨_, rfl, ?_⟩; replace BK303 := bB BK303 hb; replace BK304 := bB BK304 hb; replace HB := am (below_step (be HB) hb); (try clear hb); (try clear hb2); (try clear hk); (try clear hi)) | ((with_reducible refine gate_dst (N := 12) rfl ?_); refine Kd.R_lit k36 _ 36 ?hg (N := 12) ?hd (xs := ([] : List (S36))) (inner := []) (ok := fun _ => True) (okp := fun _ => True) ?hr ?hp (fun _ hk => hk) trivial (Below.refl _ _) (Nat.le_refl _) (by simp) ?_; (case hd => rfl); (case hg => rfl); (case hr => first | (go_simp; done) | (go_simp; rfl)); (case hp => exact (Reps.none _ _)); intro v307 w11 ho12 hb hg_ hnew_; clear hg_ hnew_; (first | rw [← Ny306.out] at ho12 | (simp only [Int.reduceToNat] at ho12; rw [← Ny306.out] at ho12)); have HO308 := am (Kd.R_lower ho12 (below_size (be HB))); replace BK303 := bB BK303 hb; replace BK304 := bB BK304 hb; replace HB := am (below_step (be HB) hb); clear hb ho12; obtain ⟨hcz13_0, hcz13_1, hwz13, haz13, hyz13, hvz13, hfz13_0, hfz13_1, hfz13_2⟩ := bb28 BK303) | ((with_reducible refine gate_callee (f := 111) rfl ?_); refine gL (some 14) Try.func111 #[.agg (csBay a0_0 a0_1 a0_2)] ?_; (with_reducible refine (impl_allPlaces.calls k a0_0 a0_1 a0_2 t309 _ A4.out).mono ?_); rintro e w14 ⟨v310, rfl, ho0, hb⟩; refine ⟨_, rfl, ?_⟩; have HO311 := am (Kd.R_lower (Kd.R_new' ho0 (Kd.R_lt (kr HO308))) (below_size (be HB))); replace HO308 := am (Kd.R_elder' (kr HO308) (Kd.R_base ho0) hb); replace BK303 := bB BK303 hb; replace BK304 := bB BK304 hb; replace HB := am (below_step (be HB) hb); (try clear hb); (try clear hb2); (try clear hk); (try clear hi); (try clear ho0); obtain ⟨Ao15, co15, eo15⟩ := Kd.R_slice HO311.out; subst eo15))
 go_loopg [6, 16] k (fun kq v6 v16 w' => ∃ (x6_1 : List (S36)) (x16_1 : Int), v16 = .int .i64 x16_1 ∧ Aside0 (impl_swingPlaces.l0 kq t305 x6_1 t309 (t309.length : Int) x16_1 a1_0 a1_1 a1_2 a1_3 a1_4 a1_5 = some r) ∧ Aside0 (kq ≤ k) ∧ Aside0 (Kd.R k36 36 w' w.heap.size (fun k_ => some k_ ≠ ((.slice Ao15 t309.length co15) : Value).ownBlock) v6 x6_1) ∧ Aside0 (Kd.R k36 36 w' w.heap.size (fun k_ => some k_ ≠ (v6 : Value).ownBlock) (.slice Ao15 t309.length co15) t309) ∧ Aside0 (w'.heap[gb303]? = some (.cells (csBay a0_0 a0_1 a0_2) 28 (0, 0))) ∧ Aside0 (w'.heap[gb304]? = some (.cells #[.int .i8 a1_0, .int .i8 a1_1, .int .i8 a1_2, .int .i8 a1_3, .int .i8 a1_4, .int .i8 a1_5] 38 (0, 0))) ∧ Aside0 (Below w.heap.size w w'))
 case atStart => exact ⟨(y306), (0), vv, H', ⟨Nat.le_refl _⟩, ⟨by (with_reducible repeat (first | apply Kd.R_alloc | apply Kd.R_drewN | apply Kd.R_drew)); exact Kd.R_mono HO308.out (fun _ hk => hk.2)⟩, ⟨by (with_reducible repeat (first | apply Kd.R_alloc | apply Kd.R_drewN | apply Kd.R_drew)); exact Kd.R_mono HO311.out (fun _ hk => hk.2)⟩, ⟨kb BK303⟩, ⟨kb BK304⟩, ⟨be HB⟩⟩
 case round =>
  clear H'
  try clear c1
  try clear p2
  try clear c7
  try clear c11
  try clear c12
  try clear hcz13_0
  try clear hcz13_1
  try clear hcz8_0
  try clear hcz8_1
  try clear hcz9_0
  try clear hcz9_1
  try clear hcz9_2
  try clear hcz9_3
  try clear hcz9_4
  try clear hcz9_5
  try clear hfz13_0
  try clear hfz13_1
  try clear hfz13_2
  try clear hfz8_0
  try clear hfz8_1
  try clear hfz8_2
  try clear hfz9_0
  try clear hfz9_1
  try clear hfz9_2
  try clear hfz9_3
  try clear hfz9_4
  try clear hfz9_5
  obtain ⟨x6_1, x16_1, rfl, HA, HK1, HO_6, HO_14, BK303, BK304, HB⟩ := hrel
  cases gk with
  | zero => exact absurd HA.out (by simp [impl_swingPlaces.l0])
  | succ k1 =>
   have H := HA.out
   clear HA
   simp only [impl_swingPlaces.l0] at H
   by_cases c16 : x16_1 < (t309.length : Int)
   ·rw [if_pos c16] at H
    have c16b0 : decide (x16_1 < (t309.length : Int)) = true := decide_eq_true c16
    clear c16
    by_cases c17 : 0 ≤ x16_1
    ·rw [if_pos c17] at H
     have c17b0 : decide (0 ≤ x16_1) = true := decide_eq_true c17
     have c17b1 : 0 ≤ x16_1 := c17
     clear c17
     by_cases c18 : x16_1 < (t309.length : Int)
     ·rw [if_pos c18] at H
      have c18b0 : decide (x16_1 < (t309.length : Int)) = true := decide_eq_true c18
      clear c18
      replace H := Option.bind_eq_some_iff.mp H
      obtain ⟨t314, A190, H⟩ := H
      try dsimp only at H
      have A19 := am A190
      clear A190
      by_cases c20 : t314 ≤ (wrap64 (t305 * t305))
      ·rw [if_pos c20] at H
       have c20b0 : decide (t314 ≤ (wrap64 (t305 * t305))) = true := decide_eq_true c20
       clear c20
       by_cases c21 : x6_1.length < 70368744177664
       ·rw [if_pos c21] at H
        have LMc21 := am c21
        clear c21
        obtain ⟨y315, hy315⟩ : ∃ y_ : List (S36), y_ = (x6_1 ++ [(⟨(rd_T36 t309 x16_1).f0, (rd_T36 t309 x16_1).f1⟩ : S36)]) := ⟨_, rfl⟩
        replace H : (impl_swingPlaces.l0 k1 t305 y315 t309 (t309.length : Int) (wrap64 (x16_1 + 1)) a1_0 a1_1 a1_2 a1_3 a1_4 a1_5) = some r := by first | (rw [hy315]; with_reducible exact H) | (have H2_ := (Option.bind_some _ _).symm.trans H; rw [hy315]; with_reducible exact H2_) | (have H2_ := (Option.bind_some _ _).symm.trans H; with_reducible exact H2_) | with_reducible exact H | (rw [hy315]; exact H) | exact H
        have Ny315 := am hy315
        clear hy315
        have H' := am H
        clear H
        have p312 : 0 ≤ (x16_1 : Int) := of_decide_eq_true (by first | (with_reducible assumption) | assumption)
        have q312 : x16_1 < (t309.length : Int) := of_decide_eq_true (by first | (with_reducible assumption) | assumption)
        obtain ⟨ad312, e312, hx312_0, hx312_1⟩ := at_T36 (Kd.R_reads' HO_14.out).2.2 x16_1 p312 q312
        cases e312
        replace p312 := eq_true p312
        replace q312 := eq_true q312
        go_wp2_with (first | ((with_reducible refine gate_dst (N := 8) rfl ?_); refine bxe (N := 8) (cs := #[.int .i8 0, .int .i8 0]) (t := 36) ?_; intro gb313 hg w22 hbox hb; have BK313 := am (hbox); have GW313 := am (gN hg (below_size (be HB))); have GE313 := am (gN hg (below_size (be HB))); have NB303_313 := nL BK303 hg; have NB313_303 := nR BK303 hg; have NB304_313 := nL BK304 hg; have NB313_304 := nR BK304 hg; replace HO_6 := am (Kd.R_below (Kd.R_elderB (kr HO_6) gb313 (Nat.le_of_eq hg.symm)) hb); replace HO_14 := am (Kd.R_below (Kd.R_elderB (kr HO_14) gb313 (Nat.le_of_eq hg.symm)) hb); replace BK303 := bB BK303 hb; replace BK304 := bB BK304 hb; replace HB := am (below_step (be HB) hb); clear hb hbox hg; have hnb23 := NB313_303.out; have hnc23 := NB303_313.out; have hnb24 := NB313_304.out; have hnc24 := NB304_313.out; obtain ⟨hcz25_0, hcz25_1, hfz25_0, hfz25_1⟩ := bx2 BK313; have hnb26 := NB304_303.out; have hnc26 := NB303_304.out; obtain ⟨hcz27_0, hcz27_1, hcz27_2, hcz27_3, hcz27_4, hcz27_5, hfz27_0, hfz27_1, hfz27_2, hfz27_3, hfz27_4, hfz27_5⟩ := bx6 BK304) | ((with_reducible refine gate_callee (f := 171) rfl ?_); refine gL (some 23) Try.func171 #[.agg #[.int .i8 ((rd_T36 t309 x16_1).f0), .int .i8 ((rd_T36 t309 x16_1).f1)], .agg #[.int .i8 a1_0, .int .i8 a1_1]] ?_; (with_reducible refine (impl_far.calls ((rd_T36 t309 x16_1).f0) ((rd_T36 t309 x16_1).f1) a1_0 a1_1 t314 _ A19.out).mono ?_); rintro e w28 ⟨rfl, hb⟩; refine ⟨_, rfl, ?_⟩; replace HO_6 := am (Kd.R_below (by (with_reducible repeat (first | apply Kd.R_alloc | apply Kd.R_drewN | apply Kd.R_drew)); exact (Kd.R_mono (Kd.R_far (p := ⟨gb313, 1, none⟩) (Kd.R_far (p := ⟨gb313, 0, none⟩) (Kd.R_mono HO_6.out (fun k_ hk => (⟨hk, hk.2⟩ : _ ∧ k_ ≠ gb313))) (fun _ hk => hk.2) (.int .i8 ((rd_T36 t309 x16_1).f0))) (fun _ hk => hk.2) (.int .i8 ((rd_T36 t309 x16_1).f1))) (fun _ h_ => h_.1))) hb); replace HO_14 := am (Kd.R_below (by (with_reducible repeat (first | apply Kd.R_alloc | apply Kd.R_drewN | apply Kd.R_drew)); exact (Kd.R_mono (Kd.R_far (p := ⟨gb313, 1, none⟩) (Kd.R_far (p := ⟨gb313, 0, none⟩) (Kd.R_mono HO_14.out (fun k_ hk => (⟨hk, hk.2⟩ : _ ∧ k_ ≠ gb313))) (fun _ hk => hk.2) (.int .i8 ((rd_T36 t309 x16_1).f0))) (fun _ hk => hk.2) (.int .i8 ((rd_T36 t309 x16_1).f1))) (fun _ h_ => h_.1))) hb); replace BK303 := am (blk_below (g := gb303) (o := .cells (csBay a0_0 a0_1 a0_2) 28 (0, 0)) (by (with_reducible repeat (first | refine blk_drewN ?_ _ | refine blk_drew ?_ | refine blk_alloc ?_ _)); refine blk_far ?_ NB303_313.out _; (with_reducible repeat (first | refine blk_drewN ?_ _ | refine blk_drew ?_ | refine blk_alloc ?_ _)); refine blk_far ?_ NB303_313.out _; exact kb BK303) hb); replace BK304 := am (blk_below (g := gb304) (o := .cells #[.int .i8 a1_0, .int .i8 a1_1, .int .i8 a1_2, .int .i8 a1_3, .int .i8 a1_4, .int .i8 a1_5] 38 (0, 0)) (by (with_reducible repeat (first | refine blk_drewN ?_ _ | refine blk_drew ?_ | refine blk_alloc ?_ _)); refine blk_far ?_ NB304_313.out _; (with_reducible repeat (first | refine blk_drewN ?_ _ | refine blk_drew ?_ | refine blk_alloc ?_ _)); refine blk_far ?_ NB304_313.out _; exact kb BK304) hb); replace BK313 := am (blk_below (g := gb313) (o := .cells #[.int .i8 ((rd_T36 t309 x16_1).f0), .int .i8 ((rd_T36 t309 x16_1).f1)] 36 (0, 0)) (by (with_reducible repeat (first | refine blk_drewN ?_ _ | refine blk_drew ?_ | refine blk_alloc ?_ _)); refine blk_put (cs := #[.int .i8 ((rd_T36 t309 x16_1).f0), .int .i8 0]) ?_ 1 _ rfl; (with_reducible repeat (first | refine blk_drewN ?_ _ | refine blk_drew ?_ | refine blk_alloc ?_ _)); refine blk_put (cs := #[.int .i8 0, .int .i8 0]) ?_ 0 _ rfl; exact kb BK313) hb); replace HB := am (below_step (be HB) hb); (try clear hb); (try clear hb2); (try clear hk); (try clear hi); obtain ⟨hcz29_0, hcz29_1, hfz29_0, hfz29_1⟩ := bx2 BK313) | ((with_reducible refine gate_builtin (b := .append) (xs := #[.tmp 28, .tmp 30]) rfl ?_); at_builtin; refine Kd.R_append k36 (w0 := w) w.heap.size rfl (.tmp 28) (.tmp 30) 56 36 (.agg #[(.int .i8 0), (.int .i8 0)]) 2 rfl Try.underlying56 info36 rfl (by decide) (by omega) u6 x6_1 (⟨(rd_T36 t309 x16_1).f0, (rd_T36 t309 x16_1).f1⟩ : S36) [.int .i8 ((rd_T36 t309 x16_1).f0), .int .i8 ((rd_T36 t309 x16_1).f1)] (fun k_ => some k_ ≠ (.slice (some ad312) t309.length co15 : Value).ownBlock ∧ k_ ≠ gb313) (fun _ => False) rfl rfl ?aP (fun _ hk => hk.elim) ?aF ?aO ?aB ?aS ?aL ?_; (case aP => exact k36_mkM _ _ _ (⟨(rd_T36 t309 x16_1).f0, (rd_T36 t309 x16_1).f1⟩ : S36)); (case aB => exact (be HB)); (case aF => exact (fun k_ hk => ⟨Kd.fresh' (Kd.R_lt (kr HO_14)) k_ hk, Kd.freshB (g := gb313) (o := .cells #[.int .i8 ((rd_T36 t309 x16_1).f0), .int .i8 ((rd_T36 t309 x16_1).f1)] 36 (0, 0)) (kb BK313) k_ hk⟩)); (case aO => exact (kr HO_6)); (case aS => exact (below_size (be HB))); (case aL => have := LMc21.out; omega); intro v316 w30 ho hb hg hat; rw [← Ny315.out] at ho; have HO317 := am (ho); replace HO_14 := am (Kd.R_after (ok := (fun k_ => k_ ≠ gb313)) (by (with_reducible repeat (first | apply Kd.R_alloc | apply Kd.R_drewN | apply Kd.R_drew)); exact Kd.R_mono HO_14.out (fun _ hk => ⟨hk.2, hk.1⟩)) hg hat); replace BK303 := am (blk_grown (g := gb303) (o := .cells (csBay a0_0 a0_1 a0_2) 28 (0, 0)) (kb BK303) hg (Kd.R_ne HO_6.out BK303.out (by decide))); replace BK304 := am (blk_grown (g := gb304) (o := .cells #[.int .i8 a1_0, .int .i8 a1_1, .int .i8 a1_2, .int .i8 a1_3, .int .i8 a1_4, .int .i8 a1_5] 38 (0, 0)) (kb BK304) hg (Kd.R_ne HO_6.out BK304.out (by decide))); replace BK313 := am (blk_grown (g := gb313) (o := .cells #[.int .i8 ((rd_T36 t309 x16_1).f0), .int .i8 ((rd_T36 t309 x16_1).f1)] 36 (0, 0)) (kb BK313) hg (Kd.R_away HO_6.out (fun _ hk => hk.2))); replace HB := am (hb); clear HO_6; clear ho hb hg hat))
        go_roundg k1
        case measure => have := HK1.out; omega
        case rel => exact ⟨(y315), (wrap64 (x16_1 + 1)), vv, H', ⟨by have := HK1.out; omega⟩, ⟨by (with_reducible repeat (first | apply Kd.R_alloc | apply Kd.R_drewN | apply Kd.R_drew)); exact Kd.R_mono HO317.out (fun _ hk => hk.1)⟩, ⟨by (with_reducible repeat (first | apply Kd.R_alloc | apply Kd.R_drewN | apply Kd.R_drew)); exact Kd.R_mono HO_14.out (fun _ hk => hk.2)⟩, ⟨kb BK303⟩, ⟨kb BK304⟩, ⟨be HB⟩⟩
       ·rw [if_neg c21] at H
        exact absurd H (by simp)
      ·rw [if_neg c20] at H
       have c20b0 : decide (t314 ≤ (wrap64 (t305 * t305))) = false := decide_eq_false c20
       clear c20
       have H' := am H
       clear H
       have p312 : 0 ≤ (x16_1 : Int) := of_decide_eq_true (by first | (with_reducible assumption) | assumption)
       have q312 : x16_1 < (t309.length : Int) := of_decide_eq_true (by first | (with_reducible assumption) | assumption)
       obtain ⟨ad312, e312, hx312_0, hx312_1⟩ := at_T36 (Kd.R_reads' HO_14.out).2.2 x16_1 p312 q312
       cases e312
       replace p312 := eq_true p312
       replace q312 := eq_true q312
       go_wp2_with (first | ((with_reducible refine gate_dst (N := 8) rfl ?_); refine bxe (N := 8) (cs := #[.int .i8 0, .int .i8 0]) (t := 36) ?_; intro gb313 hg w31 hbox hb; have BK313 := am (hbox); have GW313 := am (gN hg (below_size (be HB))); have GE313 := am (gN hg (below_size (be HB))); have NB303_313 := nL BK303 hg; have NB313_303 := nR BK303 hg; have NB304_313 := nL BK304 hg; have NB313_304 := nR BK304 hg; replace HO_6 := am (Kd.R_below (Kd.R_elderB (kr HO_6) gb313 (Nat.le_of_eq hg.symm)) hb); replace HO_14 := am (Kd.R_below (Kd.R_elderB (kr HO_14) gb313 (Nat.le_of_eq hg.symm)) hb); replace BK303 := bB BK303 hb; replace BK304 := bB BK304 hb; replace HB := am (below_step (be HB) hb); clear hb hbox hg; have hnb32 := NB313_303.out; have hnc32 := NB303_313.out; have hnb33 := NB313_304.out; have hnc33 := NB304_313.out; obtain ⟨hcz34_0, hcz34_1, hfz34_0, hfz34_1⟩ := bx2 BK313; have hnb35 := NB304_303.out; have hnc35 := NB303_304.out; obtain ⟨hcz36_0, hcz36_1, hcz36_2, hcz36_3, hcz36_4, hcz36_5, hfz36_0, hfz36_1, hfz36_2, hfz36_3, hfz36_4, hfz36_5⟩ := bx6 BK304) | ((with_reducible refine gate_callee (f := 171) rfl ?_); refine gL (some 23) Try.func171 #[.agg #[.int .i8 ((rd_T36 t309 x16_1).f0), .int .i8 ((rd_T36 t309 x16_1).f1)], .agg #[.int .i8 a1_0, .int .i8 a1_1]] ?_; (with_reducible refine (impl_far.calls ((rd_T36 t309 x16_1).f0) ((rd_T36 t309 x16_1).f1) a1_0 a1_1 t314 _ A19.out).mono ?_); rintro e w37 ⟨rfl, hb⟩; refine ⟨_, rfl, ?_⟩; replace HO_6 := am (Kd.R_below (by (with_reducible repeat (first | apply Kd.R_alloc | apply Kd.R_drewN | apply Kd.R_drew)); exact (Kd.R_mono (Kd.R_far (p := ⟨gb313, 1, none⟩) (Kd.R_far (p := ⟨gb313, 0, none⟩) (Kd.R_mono HO_6.out (fun k_ hk => (⟨hk, hk.2⟩ : _ ∧ k_ ≠ gb313))) (fun _ hk => hk.2) (.int .i8 ((rd_T36 t309 x16_1).f0))) (fun _ hk => hk.2) (.int .i8 ((rd_T36 t309 x16_1).f1))) (fun _ h_ => h_.1))) hb); replace HO_14 := am (Kd.R_below (by (with_reducible repeat (first | apply Kd.R_alloc | apply Kd.R_drewN | apply Kd.R_drew)); exact (Kd.R_mono (Kd.R_far (p := ⟨gb313, 1, none⟩) (Kd.R_far (p := ⟨gb313, 0, none⟩) (Kd.R_mono HO_14.out (fun k_ hk => (⟨hk, hk.2⟩ : _ ∧ k_ ≠ gb313))) (fun _ hk => hk.2) (.int .i8 ((rd_T36 t309 x16_1).f0))) (fun _ hk => hk.2) (.int .i8 ((rd_T36 t309 x16_1).f1))) (fun _ h_ => h_.1))) hb); replace BK303 := am (blk_below (g := gb303) (o := .cells (csBay a0_0 a0_1 a0_2) 28 (0, 0)) (by (with_reducible repeat (first | refine blk_drewN ?_ _ | refine blk_drew ?_ | refine blk_alloc ?_ _)); refine blk_far ?_ NB303_313.out _; (with_reducible repeat (first | refine blk_drewN ?_ _ | refine blk_drew ?_ | refine blk_alloc ?_ _)); refine blk_far ?_ NB303_313.out _; exact kb BK303) hb); replace BK304 := am (blk_below (g := gb304) (o := .cells #[.int .i8 a1_0, .int .i8 a1_1, .int .i8 a1_2, .int .i8 a1_3, .int .i8 a1_4, .int .i8 a1_5] 38 (0, 0)) (by (with_reducible repeat (first | refine blk_drewN ?_ _ | refine blk_drew ?_ | refine blk_alloc ?_ _)); refine blk_far ?_ NB304_313.out _; (with_reducible repeat (first | refine blk_drewN ?_ _ | refine blk_drew ?_ | refine blk_alloc ?_ _)); refine blk_far ?_ NB304_313.out _; exact kb BK304) hb); replace BK313 := am (blk_below (g := gb313) (o := .cells #[.int .i8 ((rd_T36 t309 x16_1).f0), .int .i8 ((rd_T36 t309 x16_1).f1)] 36 (0, 0)) (by (with_reducible repeat (first | refine blk_drewN ?_ _ | refine blk_drew ?_ | refine blk_alloc ?_ _)); refine blk_put (cs := #[.int .i8 ((rd_T36 t309 x16_1).f0), .int .i8 0]) ?_ 1 _ rfl; (with_reducible repeat (first | refine blk_drewN ?_ _ | refine blk_drew ?_ | refine blk_alloc ?_ _)); refine blk_put (cs := #[.int .i8 0, .int .i8 0]) ?_ 0 _ rfl; exact kb BK313) hb); replace HB := am (below_step (be HB) hb); (try clear hb); (try clear hb2); (try clear hk); (try clear hi)))
       go_roundg k1
       case measure => have := HK1.out; omega
       case rel => exact ⟨(x6_1), (wrap64 (x16_1 + 1)), vv, H', ⟨by have := HK1.out; omega⟩, ⟨by (with_reducible repeat (first | apply Kd.R_alloc | apply Kd.R_drewN | apply Kd.R_drew)); exact Kd.R_mono HO_6.out (fun _ hk => hk.1)⟩, ⟨by (with_reducible repeat (first | apply Kd.R_alloc | apply Kd.R_drewN | apply Kd.R_drew)); exact Kd.R_mono HO_14.out (fun _ hk => hk.1)⟩, ⟨kb BK303⟩, ⟨kb BK304⟩, ⟨be HB⟩⟩
     ·rw [if_neg c18] at H
      exact absurd H (by simp)
    ·rw [if_neg c17] at H
     exact absurd H (by simp)
   ·rw [if_neg c16] at H
    have c16b0 : decide (x16_1 < (t309.length : Int)) = false := decide_eq_false c16
    clear c16
    obtain rfl := Option.some.inj H
    go_wp2
    go_ret
    exact ⟨_, by first | rfl | (simp [errW_none, errW_some] <;> rfl) | (simp [*, errW_none, errW_some] <;> rfl), by (with_reducible repeat (first | apply Kd.R_alloc | apply Kd.R_drewN | apply Kd.R_drew)); exact Kd.R_mono HO_6.out (fun _ hk => trivial), be HB⟩

/-! ### impl_shoals: function 124 -/
def impl_shoals.l0 : Nat → List (S36) → List (S36) → Int → Int → Int → Int → (Nat → Int) → Int → Int → Int → Int → Int → Int → Option ((List (S36)))
 | 0, _, _, _, _, _, _, _, _, _, _, _, _, _ => none
 | k + 1, x5, x11, x12, x13, x319000, x319001, x319002, x320000, x320001, x320002, x320003, x320004, x320005 => if x13 < x12 then (if 0 ≤ x13 then (if x13 < (x11.length : Int) then ((impl_depth.f x319000 x319001 x319002 ((rd_T36 x11 x13).f0) ((rd_T36 x11 x13).f1)).bind fun t328 => (if t328 < (wrap64 (x320004)) then (if x5.length < 70368744177664 then (impl_shoals.l0 k (x5 ++ [(⟨(rd_T36 x11 x13).f0, (rd_T36 x11 x13).f1⟩ : S36)]) x11 x12 (wrap64 (x13 + 1)) x319000 x319001 x319002 x320000 x320001 x320002 x320003 x320004 x320005) else (none)) else (impl_shoals.l0 k x5 x11 x12 (wrap64 (x13 + 1)) x319000 x319001 x319002 x320000 x320001 x320002 x320003 x320004 x320005))) else (none)) else (none)) else (some x5)
def impl_shoals.f (k : Nat) (a0_0 : Int) (a0_1 : Int) (a0_2 : (Nat → Int)) (a1_0 : Int) (a1_1 : Int) (a1_2 : Int) (a1_3 : Int) (a1_4 : Int) (a1_5 : Int) : Option ((List (S36))) := (impl_swingPlaces.f k a0_0 a0_1 a0_2 a1_0 a1_1 a1_2 a1_3 a1_4 a1_5).bind fun t323 => (impl_shoals.l0 k (([] : List (S36))) t323 (t323.length : Int) 0 a0_0 a0_1 a0_2 a1_0 a1_1 a1_2 a1_3 a1_4 a1_5)
set_option maxHeartbeats 8000000 in
set_option maxRecDepth 100000 in
theorem impl_shoals.calls (k : Nat) (a0_0 : Int) (a0_1 : Int) (a0_2 : (Nat → Int)) (a1_0 : Int) (a1_1 : Int) (a1_2 : Int) (a1_3 : Int) (a1_4 : Int) (a1_5 : Int) (r : List (S36)) (w : World) (h : impl_shoals.f k a0_0 a0_1 a0_2 a1_0 a1_1 a1_2 a1_3 a1_4 a1_5 = some r) :
  Calls Try.prog 124 #[.agg (csBay a0_0 a0_1 a0_2), .agg #[.int .i8 a1_0, .int .i8 a1_1, .int .i8 a1_2, .int .i8 a1_3, .int .i8 a1_4, .int .i8 a1_5]] w fun e w' => ∃ v0_ : Value, e = .returned (v0_) ∧ Kd.R k36 36 w' w.heap.size (fun _ => True) v0_ r ∧ Below w.heap.size w w' := by
 have hu28 := Try.underlying28
 have hu38 := Try.underlying38
 have hu36 := Try.underlying36
 have HB := am (Below.refl w.heap.size w)
 have H : ((impl_swingPlaces.f k a0_0 a0_1 a0_2 a1_0 a1_1 a1_2 a1_3 a1_4 a1_5).bind fun t323 => (impl_shoals.l0 k (([] : List (S36))) t323 (t323.length : Int) 0 a0_0 a0_1 a0_2 a1_0 a1_1 a1_2 a1_3 a1_4 a1_5)) = some r := h
 clear h
 obtain ⟨y320, hy320⟩ : ∃ y_ : List (S36), y_ = (([] : List (S36))) := ⟨_, rfl⟩
 replace H : ((impl_swingPlaces.f k a0_0 a0_1 a0_2 a1_0 a1_1 a1_2 a1_3 a1_4 a1_5).bind fun t323 => (impl_shoals.l0 k y320 t323 (t323.length : Int) 0 a0_0 a0_1 a0_2 a1_0 a1_1 a1_2 a1_3 a1_4 a1_5)) = some r := by first | (rw [hy320]; with_reducible exact H) | (have H2_ := (Option.bind_some _ _).symm.trans H; rw [hy320]; with_reducible exact H2_) | (have H2_ := (Option.bind_some _ _).symm.trans H; with_reducible exact H2_) | with_reducible exact H | (rw [hy320]; exact H) | exact H
 have Ny320 := am hy320
 clear hy320
 replace H := Option.bind_eq_some_iff.mp H
 obtain ⟨t323, A30, H⟩ := H
 try dsimp only at H
 have A3 := am A30
 clear A30
 have H' := am H
 clear H
 go_enter Try.func124, Try.ntmps124
 go_wp2_with (first | ((with_reducible refine gate_dst (N := 2) rfl ?_); refine bxe (N := 2) (cs := (csBay a0_0 a0_1 a0_2)) (t := 28) ?_; intro gb318 hg w4 hbox hb; have BK318 := am (hbox); have GW318 := am (gN hg (below_size (be HB))); have GE318 := am (gN hg (below_size (be HB))); replace HB := am (below_step (be HB) hb); clear hb hbox hg) | ((with_reducible refine gate_dst (N := 3) rfl ?_); refine bxe (N := 3) (cs := #[.int .i8 a1_0, .int .i8 a1_1, .int .i8 a1_2, .int .i8 a1_3, .int .i8 a1_4, .int .i8 a1_5]) (t := 38) ?_; intro gb319 hg w5 hbox hb; have BK319 := am (hbox); have GW319 := am (gN hg (below_size (be HB))); have GE319 := am (gN hg (below_size (be HB))); have NB318_319 := nL BK318 hg; have NB319_318 := nR BK318 hg; replace BK318 := bB BK318 hb; replace HB := am (below_step (be HB) hb); clear hb hbox hg) | ((with_reducible refine gate_dst (N := 8) rfl ?_); refine Kd.R_lit k36 _ 36 ?hg (N := 8) ?hd (xs := ([] : List (S36))) (inner := []) (ok := fun _ => True) (okp := fun _ => True) ?hr ?hp (fun _ hk => hk) trivial (Below.refl _ _) (Nat.le_refl _) (by simp) ?_; (case hd => rfl); (case hg => rfl); (case hr => first | (go_simp; done) | (go_simp; rfl)); (case hp => exact (Reps.none _ _)); intro v321 w6 ho7 hb hg_ hnew_; clear hg_ hnew_; (first | rw [← Ny320.out] at ho7 | (simp only [Int.reduceToNat] at ho7; rw [← Ny320.out] at ho7)); have HO322 := am (Kd.R_lower ho7 (below_size (be HB))); replace BK318 := bB BK318 hb; replace BK319 := bB BK319 hb; replace HB := am (below_step (be HB) hb); clear hb ho7; have hnb8 := NB318_319.out; have hnc8 := NB319_318.out; obtain ⟨hcz9_0, hcz9_1, hwz9, haz9, hyz9, hvz9, hfz9_0, hfz9_1, hfz9_2⟩ := bb28 BK318; obtain ⟨hcz10_0, hcz10_1, hcz10_2, hcz10_3, hcz10_4, hcz10_5, hfz10_0, hfz10_1, hfz10_2, hfz10_3, hfz10_4, hfz10_5⟩ := bx6 BK319) | ((with_reducible refine gate_callee (f := 123) rfl ?_); refine gL (some 11) Try.func123 #[.agg (csBay a0_0 a0_1 a0_2), .agg #[.int .i8 a1_0, .int .i8 a1_1, .int .i8 a1_2, .int .i8 a1_3, .int .i8 a1_4, .int .i8 a1_5]] ?_; (with_reducible refine (impl_swingPlaces.calls k a0_0 a0_1 a0_2 a1_0 a1_1 a1_2 a1_3 a1_4 a1_5 t323 _ A3.out).mono ?_); rintro e w11 ⟨v324, rfl, ho0, hb⟩; refine ⟨_, rfl, ?_⟩; have HO325 := am (Kd.R_lower (Kd.R_new' ho0 (Kd.R_lt (kr HO322))) (below_size (be HB))); replace HO322 := am (Kd.R_elder' (kr HO322) (Kd.R_base ho0) hb); replace BK318 := bB BK318 hb; replace BK319 := bB BK319 hb; replace HB := am (below_step (be HB) hb); (try clear hb); (try clear hb2); (try clear hk); (try clear hi); (try clear ho0); obtain ⟨Ao12, co12, eo12⟩ := Kd.R_slice HO325.out; subst eo12))
 go_loopg [5, 13] k (fun kq v5 v13 w' => ∃ (x5_1 : List (S36)) (x13_1 : Int), v13 = .int .i64 x13_1 ∧ Aside0 (impl_shoals.l0 kq x5_1 t323 (t323.length : Int) x13_1 a0_0 a0_1 a0_2 a1_0 a1_1 a1_2 a1_3 a1_4 a1_5 = some r) ∧ Aside0 (kq ≤ k) ∧ Aside0 (Kd.R k36 36 w' w.heap.size (fun k_ => some k_ ≠ ((.slice Ao12 t323.length co12) : Value).ownBlock) v5 x5_1) ∧ Aside0 (Kd.R k36 36 w' w.heap.size (fun k_ => some k_ ≠ (v5 : Value).ownBlock) (.slice Ao12 t323.length co12) t323) ∧ Aside0 (w'.heap[gb318]? = some (.cells (csBay a0_0 a0_1 a0_2) 28 (0, 0))) ∧ Aside0 (w'.heap[gb319]? = some (.cells #[.int .i8 a1_0, .int .i8 a1_1, .int .i8 a1_2, .int .i8 a1_3, .int .i8 a1_4, .int .i8 a1_5] 38 (0, 0))) ∧ Aside0 (Below w.heap.size w w'))
 case atStart => exact ⟨(y320), (0), vv, H', ⟨Nat.le_refl _⟩, ⟨by (with_reducible repeat (first | apply Kd.R_alloc | apply Kd.R_drewN | apply Kd.R_drew)); exact Kd.R_mono HO322.out (fun _ hk => hk.2)⟩, ⟨by (with_reducible repeat (first | apply Kd.R_alloc | apply Kd.R_drewN | apply Kd.R_drew)); exact Kd.R_mono HO325.out (fun _ hk => hk.2)⟩, ⟨kb BK318⟩, ⟨kb BK319⟩, ⟨be HB⟩⟩
 case round =>
  clear H'
  try clear c1
  try clear p2
  try clear c8
  try clear c12
  try clear hcz10_0
  try clear hcz10_1
  try clear hcz10_2
  try clear hcz10_3
  try clear hcz10_4
  try clear hcz10_5
  try clear hcz9_0
  try clear hcz9_1
  try clear hfz10_0
  try clear hfz10_1
  try clear hfz10_2
  try clear hfz10_3
  try clear hfz10_4
  try clear hfz10_5
  try clear hfz9_0
  try clear hfz9_1
  try clear hfz9_2
  obtain ⟨x5_1, x13_1, rfl, HA, HK1, HO_5, HO_11, BK318, BK319, HB⟩ := hrel
  cases gk with
  | zero => exact absurd HA.out (by simp [impl_shoals.l0])
  | succ k1 =>
   have H := HA.out
   clear HA
   simp only [impl_shoals.l0] at H
   by_cases c13 : x13_1 < (t323.length : Int)
   ·rw [if_pos c13] at H
    have c13b0 : decide (x13_1 < (t323.length : Int)) = true := decide_eq_true c13
    clear c13
    by_cases c14 : 0 ≤ x13_1
    ·rw [if_pos c14] at H
     have c14b0 : decide (0 ≤ x13_1) = true := decide_eq_true c14
     have c14b1 : 0 ≤ x13_1 := c14
     clear c14
     by_cases c15 : x13_1 < (t323.length : Int)
     ·rw [if_pos c15] at H
      have c15b0 : decide (x13_1 < (t323.length : Int)) = true := decide_eq_true c15
      clear c15
      replace H := Option.bind_eq_some_iff.mp H
      obtain ⟨t328, A160, H⟩ := H
      try dsimp only at H
      have A16 := am A160
      clear A160
      by_cases c17 : t328 < (wrap64 (a1_4))
      ·rw [if_pos c17] at H
       have c17b0 : decide (t328 < (wrap64 (a1_4))) = true := decide_eq_true c17
       clear c17
       by_cases c18 : x5_1.length < 70368744177664
       ·rw [if_pos c18] at H
        have LMc18 := am c18
        clear c18
        obtain ⟨y329, hy329⟩ : ∃ y_ : List (S36), y_ = (x5_1 ++ [(⟨(rd_T36 t323 x13_1).f0, (rd_T36 t323 x13_1).f1⟩ : S36)]) := ⟨_, rfl⟩
        replace H : (impl_shoals.l0 k1 y329 t323 (t323.length : Int) (wrap64 (x13_1 + 1)) a0_0 a0_1 a0_2 a1_0 a1_1 a1_2 a1_3 a1_4 a1_5) = some r := by first | (rw [hy329]; with_reducible exact H) | (have H2_ := (Option.bind_some _ _).symm.trans H; rw [hy329]; with_reducible exact H2_) | (have H2_ := (Option.bind_some _ _).symm.trans H; with_reducible exact H2_) | with_reducible exact H | (rw [hy329]; exact H) | exact H
        have Ny329 := am hy329
        clear hy329
        have H' := am H
        clear H
        have p326 : 0 ≤ (x13_1 : Int) := of_decide_eq_true (by first | (with_reducible assumption) | assumption)
        have q326 : x13_1 < (t323.length : Int) := of_decide_eq_true (by first | (with_reducible assumption) | assumption)
        obtain ⟨ad326, e326, hx326_0, hx326_1⟩ := at_T36 (Kd.R_reads' HO_11.out).2.2 x13_1 p326 q326
        cases e326
        replace p326 := eq_true p326
        replace q326 := eq_true q326
        try go_wp2_with (first | ((with_reducible refine gate_dst (N := 7) rfl ?_); refine bxe (N := 7) (cs := #[.int .i8 0, .int .i8 0]) (t := 36) ?_; intro gb327 hg w19 hbox hb; have BK327 := am (hbox); have GW327 := am (gN hg (below_size (be HB))); have GE327 := am (gN hg (below_size (be HB))); have NB318_327 := nL BK318 hg; have NB327_318 := nR BK318 hg; have NB319_327 := nL BK319 hg; have NB327_319 := nR BK319 hg; replace HO_5 := am (Kd.R_below (Kd.R_elderB (kr HO_5) gb327 (Nat.le_of_eq hg.symm)) hb); replace HO_11 := am (Kd.R_below (Kd.R_elderB (kr HO_11) gb327 (Nat.le_of_eq hg.symm)) hb); replace BK318 := bB BK318 hb; replace BK319 := bB BK319 hb; replace HB := am (below_step (be HB) hb); clear hb hbox hg; have hnb20 := NB327_318.out; have hnc20 := NB318_327.out; have hnb21 := NB327_319.out; have hnc21 := NB319_327.out; obtain ⟨hcz22_0, hcz22_1, hfz22_0, hfz22_1⟩ := bx2 BK327))
        have n0_ : Aside0 (Kd.R k36 36 ((w19.setCell ⟨gb327, 0, none⟩ (.int .i8 ((rd_T36 t323 x13_1).f0))).setCell ⟨gb327, 1, none⟩ (.int .i8 ((rd_T36 t323 x13_1).f1))) w.heap.size (fun k_ => some k_ ≠ (.slice (some ad326) t323.length co12 : Value).ownBlock ∧ k_ ≠ gb327) u5 x5_1) := ⟨by (with_reducible repeat (first | apply Kd.R_alloc | apply Kd.R_drewN | apply Kd.R_drew)); exact Kd.R_mono (Kd.R_far (p := ⟨gb327, 1, none⟩) (Kd.R_far (p := ⟨gb327, 0, none⟩) (Kd.R_mono HO_5.out (fun k_ hk => (⟨hk, hk.2⟩ : _ ∧ k_ ≠ gb327))) (fun _ hk => hk.2) (.int .i8 ((rd_T36 t323 x13_1).f0))) (fun _ hk => hk.2) (.int .i8 ((rd_T36 t323 x13_1).f1))) (fun _ hk => ⟨hk.1.1, hk.1.2⟩)⟩
        have n1_ : Aside0 (Kd.R k36 36 ((w19.setCell ⟨gb327, 0, none⟩ (.int .i8 ((rd_T36 t323 x13_1).f0))).setCell ⟨gb327, 1, none⟩ (.int .i8 ((rd_T36 t323 x13_1).f1))) w.heap.size (fun k_ => some k_ ≠ (u5 : Value).ownBlock ∧ k_ ≠ gb327) (.slice (some ad326) t323.length co12) t323) := ⟨by (with_reducible repeat (first | apply Kd.R_alloc | apply Kd.R_drewN | apply Kd.R_drew)); exact Kd.R_mono (Kd.R_far (p := ⟨gb327, 1, none⟩) (Kd.R_far (p := ⟨gb327, 0, none⟩) (Kd.R_mono HO_11.out (fun k_ hk => (⟨hk, hk.2⟩ : _ ∧ k_ ≠ gb327))) (fun _ hk => hk.2) (.int .i8 ((rd_T36 t323 x13_1).f0))) (fun _ hk => hk.2) (.int .i8 ((rd_T36 t323 x13_1).f1))) (fun _ hk => ⟨hk.1.1, hk.1.2⟩)⟩
        have n2_ : Aside0 (((w19.setCell ⟨gb327, 0, none⟩ (.int .i8 ((rd_T36 t323 x13_1).f0))).setCell ⟨gb327, 1, none⟩ (.int .i8 ((rd_T36 t323 x13_1).f1))).heap[gb318]? = some (.cells (csBay a0_0 a0_1 a0_2) 28 (0, 0))) := ⟨by (with_reducible repeat (first | refine blk_drewN ?_ _ | refine blk_drew ?_ | refine blk_alloc ?_ _)); refine blk_far ?_ NB318_327.out _; (with_reducible repeat (first | refine blk_drewN ?_ _ | refine blk_drew ?_ | refine blk_alloc ?_ _)); refine blk_far ?_ NB318_327.out _; exact kb BK318⟩
        have n3_ : Aside0 (((w19.setCell ⟨gb327, 0, none⟩ (.int .i8 ((rd_T36 t323 x13_1).f0))).setCell ⟨gb327, 1, none⟩ (.int .i8 ((rd_T36 t323 x13_1).f1))).heap[gb319]? = some (.cells #[.int .i8 a1_0, .int .i8 a1_1, .int .i8 a1_2, .int .i8 a1_3, .int .i8 a1_4, .int .i8 a1_5] 38 (0, 0))) := ⟨by (with_reducible repeat (first | refine blk_drewN ?_ _ | refine blk_drew ?_ | refine blk_alloc ?_ _)); refine blk_far ?_ NB319_327.out _; (with_reducible repeat (first | refine blk_drewN ?_ _ | refine blk_drew ?_ | refine blk_alloc ?_ _)); refine blk_far ?_ NB319_327.out _; exact kb BK319⟩
        have n4_ : Aside0 (((w19.setCell ⟨gb327, 0, none⟩ (.int .i8 ((rd_T36 t323 x13_1).f0))).setCell ⟨gb327, 1, none⟩ (.int .i8 ((rd_T36 t323 x13_1).f1))).heap[gb327]? = some (.cells #[.int .i8 ((rd_T36 t323 x13_1).f0), .int .i8 ((rd_T36 t323 x13_1).f1)] 36 (0, 0))) := ⟨by (with_reducible repeat (first | refine blk_drewN ?_ _ | refine blk_drew ?_ | refine blk_alloc ?_ _)); refine blk_put (cs := #[.int .i8 ((rd_T36 t323 x13_1).f0), .int .i8 0]) ?_ 1 _ rfl; (with_reducible repeat (first | refine blk_drewN ?_ _ | refine blk_drew ?_ | refine blk_alloc ?_ _)); refine blk_put (cs := #[.int .i8 0, .int .i8 0]) ?_ 0 _ rfl; exact kb BK327⟩
        have n5_ : Aside0 (Below w.heap.size w ((w19.setCell ⟨gb327, 0, none⟩ (.int .i8 ((rd_T36 t323 x13_1).f0))).setCell ⟨gb327, 1, none⟩ (.int .i8 ((rd_T36 t323 x13_1).f1)))) := ⟨be HB⟩
        (try clear HO_5)
        (try clear HO_11)
        (try clear BK318)
        (try clear BK319)
        (try clear BK327)
        (try clear HB)
        generalize ((w19.setCell ⟨gb327, 0, none⟩ (.int .i8 ((rd_T36 t323 x13_1).f0))).setCell ⟨gb327, 1, none⟩ (.int .i8 ((rd_T36 t323 x13_1).f1))) = w23 at n0_ n1_ n2_ n3_ n4_ n5_ ⊢
        have HO_5 := n0_
        have HO_11 := n1_
        have BK318 := n2_
        have BK319 := n3_
        have BK327 := n4_
        have HB := n5_
        clear n0_ n1_ n2_ n3_ n4_ n5_
        have n0_ := am (Kd.R_drew HO_5.out)
        have n1_ := am (Kd.R_drew HO_11.out)
        have n2_ := am (blk_drew BK318.out)
        have n3_ := am (blk_drew BK319.out)
        have n4_ := am (blk_drew BK327.out)
        have n5_ := am (below_drew1 HB.out)
        clear HO_5
        clear HO_11
        clear BK318
        clear BK319
        clear BK327
        clear HB
        have HO_5 := n0_
        have HO_11 := n1_
        have BK318 := n2_
        have BK319 := n3_
        have BK327 := n4_
        have HB := n5_
        clear n0_ n1_ n2_ n3_ n4_ n5_
        refine start_ (n := 7) (S := fun w' => w'.cell? ⟨gb318, 0, none⟩ = some (.int .i8 a0_0) ∧ w'.cell? ⟨gb318, 1, none⟩ = some (.int .i8 a0_1) ∧ atCells w' gb318 a0_2 ∧ BayAt28 w' gb318 ∧ lvv w' gb318 = .agg (csBay a0_0 a0_1 a0_2) ∧ w'.cell? ⟨gb327, 0, none⟩ = some (.int .i8 ((rd_T36 t323 x13_1).f0)) ∧ w'.cell? ⟨gb327, 1, none⟩ = some (.int .i8 ((rd_T36 t323 x13_1).f1)) ∧ w'.cell? ⟨gb319, 0, none⟩ = some (.int .i8 a1_0) ∧ w'.cell? ⟨gb319, 1, none⟩ = some (.int .i8 a1_1) ∧ w'.cell? ⟨gb319, 2, none⟩ = some (.int .i8 a1_2) ∧ w'.cell? ⟨gb319, 3, none⟩ = some (.int .i8 a1_3) ∧ w'.cell? ⟨gb319, 4, none⟩ = some (.int .i8 a1_4) ∧ w'.cell? ⟨gb319, 5, none⟩ = some (.int .i8 a1_5)) (ds := []) #[false, false, false, false, false, false, false] (by kernel_rfl) rfl rfl ⟨(blk_cell BK318.out 0).trans rfl, (blk_cell BK318.out 1).trans rfl, at_cells BK318.out, BayAt28_of BK318.out, lvv_of BK318.out, (blk_cell BK327.out 0).trans rfl, (blk_cell BK327.out 1).trans rfl, (blk_cell BK319.out 0).trans rfl, (blk_cell BK319.out 1).trans rfl, (blk_cell BK319.out 2).trans rfl, (blk_cell BK319.out 3).trans rfl, (blk_cell BK319.out 4).trans rfl, (blk_cell BK319.out 5).trans rfl⟩ (fun hHeld => ?_)
        generalize w23.drew = w24 at HO_5 HO_11 BK318 BK319 BK327 HB hHeld ⊢
        refine pure_ (i := 3) (N := some 20) (v := ?_) (a' := ?_) #[false, false, false, true, false, false, false] rfl rfl (by kernel_rfl) (fun _ _ _ h => h) (Or.inl ⟨by rfl, ?_⟩) ?_ ?_
        rotate_left
        ·intro w'
         go_simp
         with_reducible rfl
        rotate_left
        ·simp only [Act.put, List.setIfInBounds_toArray, List.set_cons_zero, List.set_cons_succ, i64_w, i32_w]
         rfl
        refine take_ (i := 0) (N := some 17) (v := ?_) (a' := ?_) #[true, false, false, true, false, false, false] rfl rfl (by kernel_rfl) (fun _ _ _ h => h) (Or.inl ⟨by rfl, ?_⟩) hHeld ?_ ?_
        rotate_left
        ·rintro w' ⟨s0, s1, s2, s3, s4, s5, s6, s7, s8, s9, s10, s11, s12⟩
         go_simp
         with_reducible rfl
        rotate_left
        ·simp only [Act.put, List.setIfInBounds_toArray, List.set_cons_zero, List.set_cons_succ, i64_w, i32_w]
         rfl
        refine take_ (i := 1) (N := some 18) (v := ?_) (a' := ?_) #[true, true, false, true, false, false, false] rfl rfl (by kernel_rfl) (fun _ _ _ h => h) (Or.inl ⟨by rfl, ?_⟩) hHeld ?_ ?_
        rotate_left
        ·rintro w' ⟨s0, s1, s2, s3, s4, s5, s6, s7, s8, s9, s10, s11, s12⟩
         go_simp
         with_reducible rfl
        rotate_left
        ·simp only [Act.put, List.setIfInBounds_toArray, List.set_cons_zero, List.set_cons_succ, i64_w, i32_w]
         rfl
        refine take_ (i := 4) (N := some 21) (v := ?_) (a' := ?_) #[true, true, false, true, true, false, false] rfl rfl (by kernel_rfl) (fun _ _ _ h => h) (Or.inl ⟨by rfl, ?_⟩) hHeld ?_ ?_
        rotate_left
        ·rintro w' ⟨s0, s1, s2, s3, s4, s5, s6, s7, s8, s9, s10, s11, s12⟩
         go_simp
         with_reducible rfl
        rotate_left
        ·simp only [Act.put, List.setIfInBounds_toArray, List.set_cons_zero, List.set_cons_succ, i64_w, i32_w]
         rfl
        refine pure_ (i := 5) (N := some 22) (v := ?_) (a' := ?_) #[true, true, false, true, true, true, false] rfl rfl (by kernel_rfl) (fun _ _ _ h => h) (Or.inl ⟨by rfl, ?_⟩) ?_ ?_
        rotate_left
        ·intro w'
         go_simp
         with_reducible rfl
        rotate_left
        ·simp only [Act.put, List.setIfInBounds_toArray, List.set_cons_zero, List.set_cons_succ, i64_w, i32_w]
         rfl
        refine one_ (i := 2) (N := some 19) #[true, true, true, true, true, true, false] rfl rfl (by kernel_rfl) (by decide) (fun K hK => ?_)
        refine goes_ Try.func112 (by kernel_rfl) rfl #[.agg (csBay a0_0 a0_1 a0_2), .agg #[.int .i8 ((rd_T36 t323 x13_1).f0), .int .i8 ((rd_T36 t323 x13_1).f1)]] (by rfl) rfl rfl (by (try simp only [List.map_toArray, List.map_cons, List.map_nil]); first | done | rfl | (simp only [List.length_drop, List.length_take]; rfl)) ?_
        with_reducible refine (impl_depth.calls a0_0 a0_1 a0_2 ((rd_T36 t323 x13_1).f0) ((rd_T36 t323 x13_1).f1) t328 _ A16.out).mono ?_
        rintro e w25 ⟨rfl, hb⟩
        refine ⟨_, rfl, ?_⟩
        have n0_ := am (Kd.R_below (kr HO_5) hb)
        have n1_ := am (Kd.R_below (kr HO_11) hb)
        have n2_ := bB BK318 hb
        have n3_ := bB BK319 hb
        have n4_ := bB BK327 hb
        have n5_ := am (below_step (be HB) hb)
        clear HO_5
        clear HO_11
        clear BK318
        clear BK319
        clear BK327
        clear HB
        have HO_5 := n0_
        have HO_11 := n1_
        have BK318 := n2_
        have BK319 := n3_
        have BK327 := n4_
        have HB := n5_
        clear n0_ n1_ n2_ n3_ n4_ n5_
        (try clear hb)
        (try clear hb2)
        (try clear hk)
        (try clear hi)
        refine hK.out _ _ ⟨(blk_cell BK318.out 0).trans rfl, (blk_cell BK318.out 1).trans rfl, at_cells BK318.out, BayAt28_of BK318.out, lvv_of BK318.out, (blk_cell BK327.out 0).trans rfl, (blk_cell BK327.out 1).trans rfl, (blk_cell BK319.out 0).trans rfl, (blk_cell BK319.out 1).trans rfl, (blk_cell BK319.out 2).trans rfl, (blk_cell BK319.out 3).trans rfl, (blk_cell BK319.out 4).trans rfl, (blk_cell BK319.out 5).trans rfl⟩ (fun hHeld => ?_)
        clear hK K
        refine norm_ (a' := ?_) ?_ ?_
        rotate_left
        ·show Act.put _ (some 19) _ = _
         simp only [Act.put, List.setIfInBounds_toArray, List.set_cons_zero, List.set_cons_succ, i64_w, i32_w]
         rfl
        refine pure_ (i := 6) (N := some 23) (v := ?_) (a' := ?_) #[true, true, true, true, true, true, true] rfl rfl (by kernel_rfl) (fun _ _ _ h => h) (Or.inl ⟨by rfl, ?_⟩) ?_ ?_
        rotate_left
        ·intro w'
         go_simp
         with_reducible rfl
        rotate_left
        ·simp only [Act.put, List.setIfInBounds_toArray, List.set_cons_zero, List.set_cons_succ, i64_w, i32_w]
         rfl
        refine done_ (by kernel_rfl) ?_
        obtain ⟨hcz26_0, hcz26_1, hfz26_0, hfz26_1⟩ := bx2 BK327
        try go_wp2_with (first | ((with_reducible refine gate_builtin (b := .append) (xs := #[.tmp 24, .tmp 26]) rfl ?_); at_builtin; refine Kd.R_append k36 (w0 := w) w.heap.size rfl (.tmp 24) (.tmp 26) 56 36 (.agg #[(.int .i8 0), (.int .i8 0)]) 2 rfl Try.underlying56 info36 rfl (by decide) (by omega) u5 x5_1 (⟨(rd_T36 t323 x13_1).f0, (rd_T36 t323 x13_1).f1⟩ : S36) [.int .i8 ((rd_T36 t323 x13_1).f0), .int .i8 ((rd_T36 t323 x13_1).f1)] (fun k_ => some k_ ≠ (.slice (some ad326) t323.length co12 : Value).ownBlock ∧ k_ ≠ gb327) (fun _ => False) rfl rfl ?aP (fun _ hk => hk.elim) ?aF ?aO ?aB ?aS ?aL ?_; (case aP => exact k36_mkM _ _ _ (⟨(rd_T36 t323 x13_1).f0, (rd_T36 t323 x13_1).f1⟩ : S36)); (case aB => exact (be HB)); (case aF => exact (fun k_ hk => ⟨Kd.fresh' (Kd.R_lt (kr HO_11)) k_ hk, Kd.freshB (g := gb327) (o := .cells #[.int .i8 ((rd_T36 t323 x13_1).f0), .int .i8 ((rd_T36 t323 x13_1).f1)] 36 (0, 0)) (kb BK327) k_ hk⟩)); (case aO => exact (kr HO_5)); (case aS => exact (below_size (be HB))); (case aL => have := LMc18.out; omega); intro v330 w27 ho hb hg hat; rw [← Ny329.out] at ho; have HO331 := am (ho); replace HO_11 := am (Kd.R_after (ok := (fun k_ => k_ ≠ gb327)) (by (with_reducible repeat (first | apply Kd.R_alloc | apply Kd.R_drewN | apply Kd.R_drew)); exact Kd.R_mono HO_11.out (fun _ hk => ⟨hk.2, hk.1⟩)) hg hat); replace BK318 := am (blk_grown (g := gb318) (o := .cells (csBay a0_0 a0_1 a0_2) 28 (0, 0)) (kb BK318) hg (Kd.R_ne HO_5.out BK318.out (by decide))); replace BK319 := am (blk_grown (g := gb319) (o := .cells #[.int .i8 a1_0, .int .i8 a1_1, .int .i8 a1_2, .int .i8 a1_3, .int .i8 a1_4, .int .i8 a1_5] 38 (0, 0)) (kb BK319) hg (Kd.R_ne HO_5.out BK319.out (by decide))); replace BK327 := am (blk_grown (g := gb327) (o := .cells #[.int .i8 ((rd_T36 t323 x13_1).f0), .int .i8 ((rd_T36 t323 x13_1).f1)] 36 (0, 0)) (kb BK327) hg (Kd.R_away HO_5.out (fun _ hk => hk.2))); replace HB := am (hb); clear HO_5; clear ho hb hg hat))
        go_roundg k1
        case measure => have := HK1.out; omega
        case rel => exact ⟨(y329), (wrap64 (x13_1 + 1)), vv, H', ⟨by have := HK1.out; omega⟩, ⟨by (with_reducible repeat (first | apply Kd.R_alloc | apply Kd.R_drewN | apply Kd.R_drew)); exact Kd.R_mono HO331.out (fun _ hk => hk.1)⟩, ⟨by (with_reducible repeat (first | apply Kd.R_alloc | apply Kd.R_drewN | apply Kd.R_drew)); exact Kd.R_mono HO_11.out (fun _ hk => hk.2)⟩, ⟨kb BK318⟩, ⟨kb BK319⟩, ⟨be HB⟩⟩
       ·rw [if_neg c18] at H
        exact absurd H (by simp)
      ·rw [if_neg c17] at H
       have c17b0 : decide (t328 < (wrap64 (a1_4))) = false := decide_eq_false c17
       clear c17
       have H' := am H
       clear H
       have p326 : 0 ≤ (x13_1 : Int) := of_decide_eq_true (by first | (with_reducible assumption) | assumption)
       have q326 : x13_1 < (t323.length : Int) := of_decide_eq_true (by first | (with_reducible assumption) | assumption)
       obtain ⟨ad326, e326, hx326_0, hx326_1⟩ := at_T36 (Kd.R_reads' HO_11.out).2.2 x13_1 p326 q326
       cases e326
       replace p326 := eq_true p326
       replace q326 := eq_true q326
       try go_wp2_with (first | ((with_reducible refine gate_dst (N := 7) rfl ?_); refine bxe (N := 7) (cs := #[.int .i8 0, .int .i8 0]) (t := 36) ?_; intro gb327 hg w28 hbox hb; have BK327 := am (hbox); have GW327 := am (gN hg (below_size (be HB))); have GE327 := am (gN hg (below_size (be HB))); have NB318_327 := nL BK318 hg; have NB327_318 := nR BK318 hg; have NB319_327 := nL BK319 hg; have NB327_319 := nR BK319 hg; replace HO_5 := am (Kd.R_below (Kd.R_elderB (kr HO_5) gb327 (Nat.le_of_eq hg.symm)) hb); replace HO_11 := am (Kd.R_below (Kd.R_elderB (kr HO_11) gb327 (Nat.le_of_eq hg.symm)) hb); replace BK318 := bB BK318 hb; replace BK319 := bB BK319 hb; replace HB := am (below_step (be HB) hb); clear hb hbox hg; have hnb29 := NB327_318.out; have hnc29 := NB318_327.out; have hnb30 := NB327_319.out; have hnc30 := NB319_327.out; obtain ⟨hcz31_0, hcz31_1, hfz31_0, hfz31_1⟩ := bx2 BK327))
       have n0_ : Aside0 (Kd.R k36 36 ((w28.setCell ⟨gb327, 0, none⟩ (.int .i8 ((rd_T36 t323 x13_1).f0))).setCell ⟨gb327, 1, none⟩ (.int .i8 ((rd_T36 t323 x13_1).f1))) w.heap.size (fun k_ => some k_ ≠ (.slice (some ad326) t323.length co12 : Value).ownBlock ∧ k_ ≠ gb327) u5 x5_1) := ⟨by (with_reducible repeat (first | apply Kd.R_alloc | apply Kd.R_drewN | apply Kd.R_drew)); exact Kd.R_mono (Kd.R_far (p := ⟨gb327, 1, none⟩) (Kd.R_far (p := ⟨gb327, 0, none⟩) (Kd.R_mono HO_5.out (fun k_ hk => (⟨hk, hk.2⟩ : _ ∧ k_ ≠ gb327))) (fun _ hk => hk.2) (.int .i8 ((rd_T36 t323 x13_1).f0))) (fun _ hk => hk.2) (.int .i8 ((rd_T36 t323 x13_1).f1))) (fun _ hk => ⟨hk.1.1, hk.1.2⟩)⟩
       have n1_ : Aside0 (Kd.R k36 36 ((w28.setCell ⟨gb327, 0, none⟩ (.int .i8 ((rd_T36 t323 x13_1).f0))).setCell ⟨gb327, 1, none⟩ (.int .i8 ((rd_T36 t323 x13_1).f1))) w.heap.size (fun k_ => some k_ ≠ (u5 : Value).ownBlock ∧ k_ ≠ gb327) (.slice (some ad326) t323.length co12) t323) := ⟨by (with_reducible repeat (first | apply Kd.R_alloc | apply Kd.R_drewN | apply Kd.R_drew)); exact Kd.R_mono (Kd.R_far (p := ⟨gb327, 1, none⟩) (Kd.R_far (p := ⟨gb327, 0, none⟩) (Kd.R_mono HO_11.out (fun k_ hk => (⟨hk, hk.2⟩ : _ ∧ k_ ≠ gb327))) (fun _ hk => hk.2) (.int .i8 ((rd_T36 t323 x13_1).f0))) (fun _ hk => hk.2) (.int .i8 ((rd_T36 t323 x13_1).f1))) (fun _ hk => ⟨hk.1.1, hk.1.2⟩)⟩
       have n2_ : Aside0 (((w28.setCell ⟨gb327, 0, none⟩ (.int .i8 ((rd_T36 t323 x13_1).f0))).setCell ⟨gb327, 1, none⟩ (.int .i8 ((rd_T36 t323 x13_1).f1))).heap[gb318]? = some (.cells (csBay a0_0 a0_1 a0_2) 28 (0, 0))) := ⟨by (with_reducible repeat (first | refine blk_drewN ?_ _ | refine blk_drew ?_ | refine blk_alloc ?_ _)); refine blk_far ?_ NB318_327.out _; (with_reducible repeat (first | refine blk_drewN ?_ _ | refine blk_drew ?_ | refine blk_alloc ?_ _)); refine blk_far ?_ NB318_327.out _; exact kb BK318⟩
       have n3_ : Aside0 (((w28.setCell ⟨gb327, 0, none⟩ (.int .i8 ((rd_T36 t323 x13_1).f0))).setCell ⟨gb327, 1, none⟩ (.int .i8 ((rd_T36 t323 x13_1).f1))).heap[gb319]? = some (.cells #[.int .i8 a1_0, .int .i8 a1_1, .int .i8 a1_2, .int .i8 a1_3, .int .i8 a1_4, .int .i8 a1_5] 38 (0, 0))) := ⟨by (with_reducible repeat (first | refine blk_drewN ?_ _ | refine blk_drew ?_ | refine blk_alloc ?_ _)); refine blk_far ?_ NB319_327.out _; (with_reducible repeat (first | refine blk_drewN ?_ _ | refine blk_drew ?_ | refine blk_alloc ?_ _)); refine blk_far ?_ NB319_327.out _; exact kb BK319⟩
       have n4_ : Aside0 (((w28.setCell ⟨gb327, 0, none⟩ (.int .i8 ((rd_T36 t323 x13_1).f0))).setCell ⟨gb327, 1, none⟩ (.int .i8 ((rd_T36 t323 x13_1).f1))).heap[gb327]? = some (.cells #[.int .i8 ((rd_T36 t323 x13_1).f0), .int .i8 ((rd_T36 t323 x13_1).f1)] 36 (0, 0))) := ⟨by (with_reducible repeat (first | refine blk_drewN ?_ _ | refine blk_drew ?_ | refine blk_alloc ?_ _)); refine blk_put (cs := #[.int .i8 ((rd_T36 t323 x13_1).f0), .int .i8 0]) ?_ 1 _ rfl; (with_reducible repeat (first | refine blk_drewN ?_ _ | refine blk_drew ?_ | refine blk_alloc ?_ _)); refine blk_put (cs := #[.int .i8 0, .int .i8 0]) ?_ 0 _ rfl; exact kb BK327⟩
       have n5_ : Aside0 (Below w.heap.size w ((w28.setCell ⟨gb327, 0, none⟩ (.int .i8 ((rd_T36 t323 x13_1).f0))).setCell ⟨gb327, 1, none⟩ (.int .i8 ((rd_T36 t323 x13_1).f1)))) := ⟨be HB⟩
       (try clear HO_5)
       (try clear HO_11)
       (try clear BK318)
       (try clear BK319)
       (try clear BK327)
       (try clear HB)
       generalize ((w28.setCell ⟨gb327, 0, none⟩ (.int .i8 ((rd_T36 t323 x13_1).f0))).setCell ⟨gb327, 1, none⟩ (.int .i8 ((rd_T36 t323 x13_1).f1))) = w32 at n0_ n1_ n2_ n3_ n4_ n5_ ⊢
       have HO_5 := n0_
       have HO_11 := n1_
       have BK318 := n2_
       have BK319 := n3_
       have BK327 := n4_
       have HB := n5_
       clear n0_ n1_ n2_ n3_ n4_ n5_
       have n0_ := am (Kd.R_drew HO_5.out)
       have n1_ := am (Kd.R_drew HO_11.out)
       have n2_ := am (blk_drew BK318.out)
       have n3_ := am (blk_drew BK319.out)
       have n4_ := am (blk_drew BK327.out)
       have n5_ := am (below_drew1 HB.out)
       clear HO_5
       clear HO_11
       clear BK318
       clear BK319
       clear BK327
       clear HB
       have HO_5 := n0_
       have HO_11 := n1_
       have BK318 := n2_
       have BK319 := n3_
       have BK327 := n4_
       have HB := n5_
       clear n0_ n1_ n2_ n3_ n4_ n5_
       refine start_ (n := 7) (S := fun w' => w'.cell? ⟨gb318, 0, none⟩ = some (.int .i8 a0_0) ∧ w'.cell? ⟨gb318, 1, none⟩ = some (.int .i8 a0_1) ∧ atCells w' gb318 a0_2 ∧ BayAt28 w' gb318 ∧ lvv w' gb318 = .agg (csBay a0_0 a0_1 a0_2) ∧ w'.cell? ⟨gb327, 0, none⟩ = some (.int .i8 ((rd_T36 t323 x13_1).f0)) ∧ w'.cell? ⟨gb327, 1, none⟩ = some (.int .i8 ((rd_T36 t323 x13_1).f1)) ∧ w'.cell? ⟨gb319, 0, none⟩ = some (.int .i8 a1_0) ∧ w'.cell? ⟨gb319, 1, none⟩ = some (.int .i8 a1_1) ∧ w'.cell? ⟨gb319, 2, none⟩ = some (.int .i8 a1_2) ∧ w'.cell? ⟨gb319, 3, none⟩ = some (.int .i8 a1_3) ∧ w'.cell? ⟨gb319, 4, none⟩ = some (.int .i8 a1_4) ∧ w'.cell? ⟨gb319, 5, none⟩ = some (.int .i8 a1_5)) (ds := []) #[false, false, false, false, false, false, false] (by kernel_rfl) rfl rfl ⟨(blk_cell BK318.out 0).trans rfl, (blk_cell BK318.out 1).trans rfl, at_cells BK318.out, BayAt28_of BK318.out, lvv_of BK318.out, (blk_cell BK327.out 0).trans rfl, (blk_cell BK327.out 1).trans rfl, (blk_cell BK319.out 0).trans rfl, (blk_cell BK319.out 1).trans rfl, (blk_cell BK319.out 2).trans rfl, (blk_cell BK319.out 3).trans rfl, (blk_cell BK319.out 4).trans rfl, (blk_cell BK319.out 5).trans rfl⟩ (fun hHeld => ?_)
       generalize w32.drew = w33 at HO_5 HO_11 BK318 BK319 BK327 HB hHeld ⊢
       refine pure_ (i := 3) (N := some 20) (v := ?_) (a' := ?_) #[false, false, false, true, false, false, false] rfl rfl (by kernel_rfl) (fun _ _ _ h => h) (Or.inl ⟨by rfl, ?_⟩) ?_ ?_
       rotate_left
       ·intro w'
        go_simp
        with_reducible rfl
       rotate_left
       ·simp only [Act.put, List.setIfInBounds_toArray, List.set_cons_zero, List.set_cons_succ, i64_w, i32_w]
        rfl
       refine take_ (i := 0) (N := some 17) (v := ?_) (a' := ?_) #[true, false, false, true, false, false, false] rfl rfl (by kernel_rfl) (fun _ _ _ h => h) (Or.inl ⟨by rfl, ?_⟩) hHeld ?_ ?_
       rotate_left
       ·rintro w' ⟨s0, s1, s2, s3, s4, s5, s6, s7, s8, s9, s10, s11, s12⟩
        go_simp
        with_reducible rfl
       rotate_left
       ·simp only [Act.put, List.setIfInBounds_toArray, List.set_cons_zero, List.set_cons_succ, i64_w, i32_w]
        rfl
       refine take_ (i := 1) (N := some 18) (v := ?_) (a' := ?_) #[true, true, false, true, false, false, false] rfl rfl (by kernel_rfl) (fun _ _ _ h => h) (Or.inl ⟨by rfl, ?_⟩) hHeld ?_ ?_
       rotate_left
       ·rintro w' ⟨s0, s1, s2, s3, s4, s5, s6, s7, s8, s9, s10, s11, s12⟩
        go_simp
        with_reducible rfl
       rotate_left
       ·simp only [Act.put, List.setIfInBounds_toArray, List.set_cons_zero, List.set_cons_succ, i64_w, i32_w]
        rfl
       refine take_ (i := 4) (N := some 21) (v := ?_) (a' := ?_) #[true, true, false, true, true, false, false] rfl rfl (by kernel_rfl) (fun _ _ _ h => h) (Or.inl ⟨by rfl, ?_⟩) hHeld ?_ ?_
       rotate_left
       ·rintro w' ⟨s0, s1, s2, s3, s4, s5, s6, s7, s8, s9, s10, s11, s12⟩
        go_simp
        with_reducible rfl
       rotate_left
       ·simp only [Act.put, List.setIfInBounds_toArray, List.set_cons_zero, List.set_cons_succ, i64_w, i32_w]
        rfl
       refine pure_ (i := 5) (N := some 22) (v := ?_) (a' := ?_) #[true, true, false, true, true, true, false] rfl rfl (by kernel_rfl) (fun _ _ _ h => h) (Or.inl ⟨by rfl, ?_⟩) ?_ ?_
       rotate_left
       ·intro w'
        go_simp
        with_reducible rfl
       rotate_left
       ·simp only [Act.put, List.setIfInBounds_toArray, List.set_cons_zero, List.set_cons_succ, i64_w, i32_w]
        rfl
       refine one_ (i := 2) (N := some 19) #[true, true, true, true, true, true, false] rfl rfl (by kernel_rfl) (by decide) (fun K hK => ?_)
       refine goes_ Try.func112 (by kernel_rfl) rfl #[.agg (csBay a0_0 a0_1 a0_2), .agg #[.int .i8 ((rd_T36 t323 x13_1).f0), .int .i8 ((rd_T36 t323 x13_1).f1)]] (by rfl) rfl rfl (by (try simp only [List.map_toArray, List.map_cons, List.map_nil]); first | done | rfl | (simp only [List.length_drop, List.length_take]; rfl)) ?_
       with_reducible refine (impl_depth.calls a0_0 a0_1 a0_2 ((rd_T36 t323 x13_1).f0) ((rd_T36 t323 x13_1).f1) t328 _ A16.out).mono ?_
       rintro e w34 ⟨rfl, hb⟩
       refine ⟨_, rfl, ?_⟩
       have n0_ := am (Kd.R_below (kr HO_5) hb)
       have n1_ := am (Kd.R_below (kr HO_11) hb)
       have n2_ := bB BK318 hb
       have n3_ := bB BK319 hb
       have n4_ := bB BK327 hb
       have n5_ := am (below_step (be HB) hb)
       clear HO_5
       clear HO_11
       clear BK318
       clear BK319
       clear BK327
       clear HB
       have HO_5 := n0_
       have HO_11 := n1_
       have BK318 := n2_
       have BK319 := n3_
       have BK327 := n4_
       have HB := n5_
       clear n0_ n1_ n2_ n3_ n4_ n5_
       (try clear hb)
       (try clear hb2)
       (try clear hk)
       (try clear hi)
       refine hK.out _ _ ⟨(blk_cell BK318.out 0).trans rfl, (blk_cell BK318.out 1).trans rfl, at_cells BK318.out, BayAt28_of BK318.out, lvv_of BK318.out, (blk_cell BK327.out 0).trans rfl, (blk_cell BK327.out 1).trans rfl, (blk_cell BK319.out 0).trans rfl, (blk_cell BK319.out 1).trans rfl, (blk_cell BK319.out 2).trans rfl, (blk_cell BK319.out 3).trans rfl, (blk_cell BK319.out 4).trans rfl, (blk_cell BK319.out 5).trans rfl⟩ (fun hHeld => ?_)
       clear hK K
       refine norm_ (a' := ?_) ?_ ?_
       rotate_left
       ·show Act.put _ (some 19) _ = _
        simp only [Act.put, List.setIfInBounds_toArray, List.set_cons_zero, List.set_cons_succ, i64_w, i32_w]
        rfl
       refine pure_ (i := 6) (N := some 23) (v := ?_) (a' := ?_) #[true, true, true, true, true, true, true] rfl rfl (by kernel_rfl) (fun _ _ _ h => h) (Or.inl ⟨by rfl, ?_⟩) ?_ ?_
       rotate_left
       ·intro w'
        go_simp
        with_reducible rfl
       rotate_left
       ·simp only [Act.put, List.setIfInBounds_toArray, List.set_cons_zero, List.set_cons_succ, i64_w, i32_w]
        rfl
       refine done_ (by kernel_rfl) ?_
       try go_wp2
       go_roundg k1
       case measure => have := HK1.out; omega
       case rel => exact ⟨(x5_1), (wrap64 (x13_1 + 1)), vv, H', ⟨by have := HK1.out; omega⟩, ⟨by (with_reducible repeat (first | apply Kd.R_alloc | apply Kd.R_drewN | apply Kd.R_drew)); exact Kd.R_mono HO_5.out (fun _ hk => hk.1)⟩, ⟨by (with_reducible repeat (first | apply Kd.R_alloc | apply Kd.R_drewN | apply Kd.R_drew)); exact Kd.R_mono HO_11.out (fun _ hk => hk.1)⟩, ⟨kb BK318⟩, ⟨kb BK319⟩, ⟨be HB⟩⟩
     ·rw [if_neg c15] at H
      exact absurd H (by simp)
    ·rw [if_neg c14] at H
     exact absurd H (by simp)
   ·rw [if_neg c13] at H
    have c13b0 : decide (x13_1 < (t323.length : Int)) = false := decide_eq_false c13
    clear c13
    obtain rfl := Option.some.inj H
    go_wp2
    go_ret
    exact ⟨_, by first | rfl | (simp [errW_none, errW_some] <;> rfl) | (simp [*, errW_none, errW_some] <;> rfl), by (with_reducible repeat (first | apply Kd.R_alloc | apply Kd.R_drewN | apply Kd.R_drew)); exact Kd.R_mono HO_5.out (fun _ hk => trivial), be HB⟩

end Go.Proofs.Ytcollbifdfhfoaa.PFnExactLongestChain
