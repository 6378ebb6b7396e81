-- Written by a program out of this seat's translation (functions, and that the code comes to them).
import Derived.Test.YtcollbifdfhfoaaPFnExactIsSafex0
import Derived.Test.YtcollbifdfhfoaaPFnExactIsSafex4
namespace Go.Proofs.Ytcollbifdfhfoaa.PFnExactIsSafe
open Go.RowKit Go.Proofs.YtcollbifdfhfoaaW.PrintWords Go.Proofs.YtcollbifdfhfoaaW.PrintLast Go.Proofs.YtcollbifdfhfoaaW.PrintMore
attribute [local go_sem] max2_int min2_int max_two min_two max_three min_three max_four min_four   -- for this text's walks alone
open Go.Proofs.Ytcollbifdfhfoaa.Bay Go.Proofs.Ytcollbifdfhfoaa.Short
attribute [local go_sem ↓] lv26_eq lv28_eq
attribute [local go_sem] lvv_set lvv_drewN lvv_drew lv26_run BayAt26_set BayAt26_drewN BayAt26_drew lv28_run BayAt28_set BayAt28_drewN BayAt28_drew
set_option linter.unusedVariables false
set_option linter.unusedSimpArgs false

/-! ### impl_swingOf: function 115 -/
def impl_swingOf.f (k : Nat) (a0_0 : Int) (a0_1 : Int) (a0_2 : (Nat → Int)) (a1_0 : Int) (a1_1 : Int) (a1_2 : Int) (a1_3 : Int) (a1_4 : Int) (a1_5 : Int) : Option (Int) := (impl_reachOf.f k a0_0 a0_1 a0_2 a1_0 a1_1 a1_2 a1_3 a1_4 a1_5).bind fun t221 => (some (wrap64 (t221 + (wrap64 (a1_3)))))
def impl_swingOf.T1 : Bool × List (List Nat × List Nat) := (true, [([], []), ([], []), ([0, 1], [0, 1]), ([], []), ([3], [3]), ([4], [4]), ([2, 5], [2, 5]), ([6, 2, 0, 1, 2, 3, 4, 5, 6], [6])])
def impl_swingOf.B1 : List Nat := [0, 0, 3, 0, 8, 24, 63, 127]
theorem impl_swingOf.tab1 : rtab .any (opsOf Try.f115 1) = impl_swingOf.T1 := by kernel_rfl
theorem impl_swingOf.bits1 : waitsOk impl_swingOf.T1.2 impl_swingOf.B1 = true := by kernel_rfl
set_option maxHeartbeats 8000000 in
set_option maxRecDepth 100000 in
theorem impl_swingOf.calls (k : Nat) (a0_0 : Int) (a0_1 : Int) (a0_2 : (Nat → Int)) (a1_0 : Int) (a1_1 : Int) (a1_2 : Int) (a1_3 : Int) (a1_4 : Int) (a1_5 : Int) (r : Int) (w : World) (h : impl_swingOf.f k a0_0 a0_1 a0_2 a1_0 a1_1 a1_2 a1_3 a1_4 a1_5 = some r) :
    Calls Try.prog 115 #[.agg (csBay a0_0 a0_1 a0_2), .agg #[.int .i8 a1_0, .int .i8 a1_1, .int .i8 a1_2, .int .i8 a1_3, .int .i8 a1_4, .int .i8 a1_5]] w fun e w' => e = .returned (.int .i64 r) ∧ Below w.heap.size w w' := by
  have hu28 := Try.underlying28
  have hu38 := Try.underlying38
  have HB := am (Below.refl w.heap.size w)
  have H : ((impl_reachOf.f k a0_0 a0_1 a0_2 a1_0 a1_1 a1_2 a1_3 a1_4 a1_5).bind fun t221 => (some (wrap64 (t221 + (wrap64 (a1_3)))))) = some r := h
  clear h
  replace H := Option.bind_eq_some_iff.mp H
  obtain ⟨t221, A30, H⟩ := H
  try dsimp only at H
  have A3 := am A30
  clear A30
  obtain rfl := Option.some.inj H
  go_enter Try.func115, Try.ntmps115
  try go_wp2_with (first | ((with_reducible refine gate_dst (N := 2) rfl ?_); refine bxe (N := 2) (cs := (csBay a0_0 a0_1 a0_2)) (t := 28) ?_; intro gb219 hg w4 hbox hb; have BK219 := am (hbox); have GW219 := am (gN hg (below_size (be HB))); have GE219 := am (gN hg (below_size (be HB))); replace HB := am (below_step (be HB) hb); clear hb hbox hg) | ((with_reducible refine gate_dst (N := 3) rfl ?_); refine bxe (N := 3) (cs := #[.int .i8 a1_0, .int .i8 a1_1, .int .i8 a1_2, .int .i8 a1_3, .int .i8 a1_4, .int .i8 a1_5]) (t := 38) ?_; intro gb220 hg w5 hbox hb; have BK220 := am (hbox); have GW220 := am (gN hg (below_size (be HB))); have GE220 := am (gN hg (below_size (be HB))); have NB219_220 := nL BK219 hg; have NB220_219 := nR BK219 hg; replace BK219 := bB BK219 hb; replace HB := am (below_step (be HB) hb); clear hb hbox hg))
  have n0_ := am (blk_drew BK219.out)
  have n1_ := am (blk_drew BK220.out)
  have n2_ := am (below_drew1 HB.out)
  clear BK219
  clear BK220
  clear HB
  have BK219 := n0_
  have BK220 := n1_
  have HB := n2_
  clear n0_ n1_ n2_
  refine start_ (n := 8) (S := fun w' => w'.cell? ⟨gb219, 0, none⟩ = some (.int .i8 a0_0) ∧ w'.cell? ⟨gb219, 1, none⟩ = some (.int .i8 a0_1) ∧ atCells w' gb219 a0_2 ∧ BayAt28 w' gb219 ∧ lvv w' gb219 = .agg (csBay a0_0 a0_1 a0_2) ∧ w'.cell? ⟨gb220, 0, none⟩ = some (.int .i8 a1_0) ∧ w'.cell? ⟨gb220, 1, none⟩ = some (.int .i8 a1_1) ∧ w'.cell? ⟨gb220, 2, none⟩ = some (.int .i8 a1_2) ∧ w'.cell? ⟨gb220, 3, none⟩ = some (.int .i8 a1_3) ∧ w'.cell? ⟨gb220, 4, none⟩ = some (.int .i8 a1_4) ∧ w'.cell? ⟨gb220, 5, none⟩ = some (.int .i8 a1_5)) (ds := []) #[false, false, false, false, false, false, false, false] (by kernel_rfl) rfl rfl ⟨(blk_cell BK219.out 0).trans rfl, (blk_cell BK219.out 1).trans rfl, at_cells BK219.out, BayAt28_of BK219.out, lvv_of BK219.out, (blk_cell BK220.out 0).trans rfl, (blk_cell BK220.out 1).trans rfl, (blk_cell BK220.out 2).trans rfl, (blk_cell BK220.out 3).trans rfl, (blk_cell BK220.out 4).trans rfl, (blk_cell BK220.out 5).trans rfl⟩ (fun hHeld => ?_); refine with_tabW impl_swingOf.tab1 impl_swingOf.bits1 (fun HT_ HW_ => ?_)
  generalize w5.drew = w6 at BK219 BK220 HB hHeld ⊢
  refine pure_ (i := 3) (N := some 8) (v := ?_) (a' := ?_) #[false, false, false, true, false, false, false, false] rfl rfl (any_of HT_.out (by kernel_rfl)) (fun _ _ _ h => h) (Or.inl ⟨by rfl, ?_⟩) ?_ ?_
  rotate_left
  · intro w'
    go_simp
    with_reducible rfl
  rotate_left
  · simp only [Act.put, List.setIfInBounds_toArray, List.set_cons_zero, List.set_cons_succ, i64_w, i32_w]
    rfl
  refine take_ (i := 0) (N := some 5) (v := ?_) (a' := ?_) #[true, false, false, true, false, false, false, false] rfl rfl (take_ofW HT_.out HW_.out (by kernel_rfl)) (fun _ _ _ h => h) (Or.inl ⟨by rfl, ?_⟩) hHeld ?_ ?_
  rotate_left
  · rintro w' ⟨s0, s1, s2, s3, s4, s5, s6, s7, s8, s9, s10⟩
    go_simp
    with_reducible rfl
  rotate_left
  · simp only [Act.put, List.setIfInBounds_toArray, List.set_cons_zero, List.set_cons_succ, i64_w, i32_w]
    rfl
  refine take_ (i := 1) (N := some 6) (v := ?_) (a' := ?_) #[true, true, false, true, false, false, false, false] rfl rfl (take_ofW HT_.out HW_.out (by kernel_rfl)) (fun _ _ _ h => h) (Or.inl ⟨by rfl, ?_⟩) hHeld ?_ ?_
  rotate_left
  · rintro w' ⟨s0, s1, s2, s3, s4, s5, s6, s7, s8, s9, s10⟩
    go_simp
    with_reducible rfl
  rotate_left
  · simp only [Act.put, List.setIfInBounds_toArray, List.set_cons_zero, List.set_cons_succ, i64_w, i32_w]
    rfl
  refine take_ (i := 4) (N := some 9) (v := ?_) (a' := ?_) #[true, true, false, true, true, false, false, false] rfl rfl (take_ofW HT_.out HW_.out (by kernel_rfl)) (fun _ _ _ h => h) (Or.inl ⟨by rfl, ?_⟩) hHeld ?_ ?_
  rotate_left
  · rintro w' ⟨s0, s1, s2, s3, s4, s5, s6, s7, s8, s9, s10⟩
    go_simp
    with_reducible rfl
  rotate_left
  · simp only [Act.put, List.setIfInBounds_toArray, List.set_cons_zero, List.set_cons_succ, i64_w, i32_w]
    rfl
  refine pure_ (i := 5) (N := some 10) (v := ?_) (a' := ?_) #[true, true, false, true, true, true, false, false] rfl rfl (any_of HT_.out (by kernel_rfl)) (fun _ _ _ h => h) (Or.inl ⟨by rfl, ?_⟩) ?_ ?_
  rotate_left
  · intro w'
    go_simp
    with_reducible rfl
  rotate_left
  · simp only [Act.put, List.setIfInBounds_toArray, List.set_cons_zero, List.set_cons_succ, i64_w, i32_w]
    rfl
  refine one_ (i := 2) (N := some 7) #[true, true, true, true, true, true, false, false] rfl rfl (one_of HT_.out (by kernel_rfl)) (by decide) (fun K hK => ?_)
  refine goes_ Try.func116 (by kernel_rfl) rfl #[.agg (csBay a0_0 a0_1 a0_2), .agg #[.int .i8 a1_0, .int .i8 a1_1, .int .i8 a1_2, .int .i8 a1_3, .int .i8 a1_4, .int .i8 a1_5]] (by rfl) rfl rfl (by (try simp only [List.map_toArray, List.map_cons, List.map_nil]); first | done | rfl | (simp only [List.length_drop, List.length_take]; rfl)) ?_
  with_reducible refine (impl_reachOf.calls k a0_0 a0_1 a0_2 a1_0 a1_1 a1_2 a1_3 a1_4 a1_5 t221 _ A3.out).mono ?_
  rintro e w7 ⟨rfl, hb⟩
  refine ⟨_, rfl, ?_⟩
  have n0_ := bB BK219 hb
  have n1_ := bB BK220 hb
  have n2_ := am (below_step (be HB) hb)
  clear BK219
  clear BK220
  clear HB
  have BK219 := n0_
  have BK220 := n1_
  have HB := n2_
  clear n0_ n1_ n2_
  (try clear hb)
  (try clear hb2)
  (try clear hk)
  (try clear hi)
  refine hK.out _ _ ⟨(blk_cell BK219.out 0).trans rfl, (blk_cell BK219.out 1).trans rfl, at_cells BK219.out, BayAt28_of BK219.out, lvv_of BK219.out, (blk_cell BK220.out 0).trans rfl, (blk_cell BK220.out 1).trans rfl, (blk_cell BK220.out 2).trans rfl, (blk_cell BK220.out 3).trans rfl, (blk_cell BK220.out 4).trans rfl, (blk_cell BK220.out 5).trans rfl⟩ (fun hHeld => ?_)
  clear hK K
  refine norm_ (a' := ?_) ?_ ?_
  rotate_left
  · show Act.put _ (some 7) _ = _
    simp only [Act.put, List.setIfInBounds_toArray, List.set_cons_zero, List.set_cons_succ, i64_w, i32_w]
    rfl
  refine pure_ (i := 6) (N := some 11) (v := ?_) (a' := ?_) #[true, true, true, true, true, true, true, false] rfl rfl (any_of HT_.out (by kernel_rfl)) (fun _ _ _ h => h) (Or.inl ⟨by rfl, ?_⟩) ?_ ?_
  rotate_left
  · intro w'
    go_simp
    with_reducible rfl
  rotate_left
  · simp only [Act.put, List.setIfInBounds_toArray, List.set_cons_zero, List.set_cons_succ, i64_w, i32_w]
    rfl
  refine pure_ (i := 7) (N := some 4) (v := ?_) (a' := ?_) #[true, true, true, true, true, true, true, true] rfl rfl (any_of HT_.out (by kernel_rfl)) (fun _ _ _ h => h) (Or.inl ⟨by rfl, ?_⟩) ?_ ?_
  rotate_left
  · intro w'
    go_simp
    with_reducible rfl
  rotate_left
  · simp only [Act.put, List.setIfInBounds_toArray, List.set_cons_zero, List.set_cons_succ, i64_w, i32_w]
    rfl
  refine done_ (done_of HT_.out (by kernel_rfl)) ?_
  try go_wp2
  go_ret
  exact ⟨by first | rfl | (simp [errW_none, errW_some] <;> rfl) | (simp [*, errW_none, errW_some] <;> rfl), be HB⟩

/-! ### impl_allPlaces: function 111 -/
mutual
def impl_allPlaces.l0 : Nat → List (S36) → Int → Int → Int → Int → (Nat → Int) → Option ((List (S36)))
  | 0, _, _, _, _, _, _ => none
  | k + 1, x3, x8, x9, x223000, x223001, x223002 => if x9 < x8 then (impl_allPlaces.l1 k x3 x9 x8 x9 x223000 0 x223000 x223001 x223002) else (some x3)
def impl_allPlaces.l1 : Nat → List (S36) → Int → Int → Int → Int → Int → Int → Int → (Nat → Int) → Option ((List (S36)))
  | 0, _, _, _, _, _, _, _, _, _ => none
  | k + 1, x3, x4, x8, x9, x13, x14, x223000, x223001, x223002 => if x14 < x13 then (if x3.length < 70368744177664 then (impl_allPlaces.l1 k (x3 ++ [(⟨x14, x4⟩ : S36)]) x4 x8 x9 x13 (IntKind.i8.wrap (x14 + 1)) x223000 x223001 x223002) else (none)) else (impl_allPlaces.l0 k x3 x8 (IntKind.i8.wrap (x9 + 1)) x223000 x223001 x223002)
end
def impl_allPlaces.f (k : Nat) (a0_0 : Int) (a0_1 : Int) (a0_2 : (Nat → Int)) : Option ((List (S36))) := impl_allPlaces.l0 k (([] : List (S36))) a0_1 0 a0_0 a0_1 a0_2
set_option maxHeartbeats 8000000 in
set_option maxRecDepth 100000 in
theorem impl_allPlaces.calls (k : Nat) (a0_0 : Int) (a0_1 : Int) (a0_2 : (Nat → Int)) (r : List (S36)) (w : World) (h : impl_allPlaces.f k a0_0 a0_1 a0_2 = some r) :
    Calls Try.prog 111 #[.agg (csBay a0_0 a0_1 a0_2)] w fun e w' => ∃ v0_ : Value, e = .returned (v0_) ∧ Kd.R k36 36 w' w.heap.size (fun _ => True) v0_ r ∧ Below w.heap.size w w' := by
  have hu28 := Try.underlying28
  have hu36 := Try.underlying36
  have HB := am (Below.refl w.heap.size w)
  have H : (impl_allPlaces.l0 k (([] : List (S36))) a0_1 0 a0_0 a0_1 a0_2) = some r := h
  clear h
  obtain ⟨y223, hy223⟩ : ∃ y_ : List (S36), y_ = (([] : List (S36))) := ⟨_, rfl⟩
  replace H : (impl_allPlaces.l0 k y223 a0_1 0 a0_0 a0_1 a0_2) = some r := by first | (rw [hy223]; with_reducible exact H) | (have H2_ := (Option.bind_some _ _).symm.trans H; rw [hy223]; with_reducible exact H2_) | (have H2_ := (Option.bind_some _ _).symm.trans H; with_reducible exact H2_) | with_reducible exact H | (rw [hy223]; exact H) | exact H
  have Ny223 := am hy223
  clear hy223
  have H' := am H
  clear H
  go_enter Try.func111, Try.ntmps111
  go_wp2_with (first | ((with_reducible refine gate_dst (N := 1) rfl ?_); refine bxe (N := 1) (cs := (csBay a0_0 a0_1 a0_2)) (t := 28) ?_; intro gb222 hg w2 hbox hb; have BK222 := am (hbox); have GW222 := am (gN hg (below_size (be HB))); have GE222 := am (gN hg (below_size (be HB))); replace HB := am (below_step (be HB) hb); clear hb hbox hg) | ((with_reducible refine gate_dst (N := 6) rfl ?_); refine Kd.R_lit k36 _ 36 ?hg (N := 6) ?hd (xs := ([] : List (S36))) (inner := []) (ok := fun _ => True) (okp := fun _ => True) ?hr ?hp (fun _ hk => hk) trivial (Below.refl _ _) (Nat.le_refl _) (by simp) ?_; (case hd => rfl); (case hg => rfl); (case hr => first | (go_simp; done) | (go_simp; rfl)); (case hp => exact (Reps.none _ _)); intro v224 w3 ho4 hb hg_ hnew_; clear hg_ hnew_; (first | rw [← Ny223.out] at ho4 | (simp only [Int.reduceToNat] at ho4; rw [← Ny223.out] at ho4)); have HO225 := am (Kd.R_lower ho4 (below_size (be HB))); replace BK222 := bB BK222 hb; replace HB := am (below_step (be HB) hb); clear hb ho4; have hcz5_0 : w3.cell? ⟨gb222, 0, none⟩ = some (.int .i8 a0_0) := (blk_cell BK222.out 0).trans rfl; have hcz5_1 : w3.cell? ⟨gb222, 1, none⟩ = some (.int .i8 a0_1) := (blk_cell BK222.out 1).trans rfl; have hwz5 := lv28_at BK222.out; have haz5 := at_cells BK222.out; have hyz5 := BayAt28_of BK222.out; have hvz5 := lvv_of BK222.out; have hfz5_0 := blk_frozen BK222.out 0; have hfz5_1 := blk_frozen BK222.out 1; have hfz5_2 := blk_frozen BK222.out 2))
  go_loopg [3, 9] k (fun kq v3 v9 w' => ∃ (x3_1 : List (S36)) (x9_1 : Int), v9 = .int .i8 x9_1 ∧ Aside0 (impl_allPlaces.l0 kq x3_1 a0_1 x9_1 a0_0 a0_1 a0_2 = some r) ∧ Aside0 (kq ≤ k) ∧ Aside0 (Kd.R k36 36 w' w.heap.size (fun _ => True) v3 x3_1) ∧ Aside0 (w'.heap[gb222]? = some (.cells (csBay a0_0 a0_1 a0_2) 28 (0, 0))) ∧ Aside0 (Below w.heap.size w w'))
  case atStart => exact ⟨(y223), (0), vv, H', ⟨Nat.le_refl _⟩, ⟨kr HO225⟩, ⟨kb BK222⟩, ⟨be HB⟩⟩
  case round =>
    clear H'
    try clear c1
    try clear p2
    try clear hcz5_0
    try clear hcz5_1
    try clear hfz5_0
    try clear hfz5_1
    try clear hfz5_2
    obtain ⟨x3_1, x9_1, rfl, HA, HK1, HO_3, BK222, HB⟩ := hrel
    cases gk with
    | zero => exact absurd HA.out (by simp [impl_allPlaces.l0])
    | succ k1 =>
      have H := HA.out
      clear HA
      simp only [impl_allPlaces.l0] at H
      by_cases c6 : x9_1 < a0_1
      · rw [if_pos c6] at H
        have c6b0 : decide (x9_1 < a0_1) = true := decide_eq_true c6
        clear c6
        have H' := am H
        clear H
        have hcz7_0 : wr.cell? ⟨gb222, 0, none⟩ = some (.int .i8 a0_0) := (blk_cell BK222.out 0).trans rfl
        have hcz7_1 : wr.cell? ⟨gb222, 1, none⟩ = some (.int .i8 a0_1) := (blk_cell BK222.out 1).trans rfl
        have hwz7 := lv28_at BK222.out; have haz7 := at_cells BK222.out; have hyz7 := BayAt28_of BK222.out; have hvz7 := lvv_of BK222.out
        have hfz7_0 := blk_frozen BK222.out 0
        have hfz7_1 := blk_frozen BK222.out 1
        have hfz7_2 := blk_frozen BK222.out 2
        go_wp2
        go_loopg [3, 14] k1 (fun kq v3 v14 w' => ∃ (x3_2 : List (S36)) (x14_2 : Int), v14 = .int .i8 x14_2 ∧ Aside0 (impl_allPlaces.l1 kq x3_2 x9_1 a0_1 x9_1 a0_0 x14_2 a0_0 a0_1 a0_2 = some r) ∧ Aside0 (kq ≤ k1) ∧ Aside0 (Kd.R k36 36 w' w.heap.size (fun _ => True) v3 x3_2) ∧ Aside0 (w'.heap[gb222]? = some (.cells (csBay a0_0 a0_1 a0_2) 28 (0, 0))) ∧ Aside0 (Below w.heap.size w w'))
        case atStart => exact ⟨(x3_1), (0), vv, H', ⟨Nat.le_refl _⟩, ⟨kr HO_3⟩, ⟨kb BK222⟩, ⟨be HB⟩⟩
        case round =>
          clear H'
          try clear c1
          try clear p2
          try clear c6
          try clear c6b0
          try clear hcz5_0
          try clear hcz5_1
          try clear hcz7_0
          try clear hcz7_1
          try clear hfz5_0
          try clear hfz5_1
          try clear hfz5_2
          try clear hfz7_0
          try clear hfz7_1
          try clear hfz7_2
          try clear p2
          obtain ⟨x3_2, x14_2, rfl, HA, HK2, HO_3, BK222, HB⟩ := hrel
          cases gk with
          | zero => exact absurd HA.out (by simp [impl_allPlaces.l1])
          | succ k2 =>
            have H := HA.out
            clear HA
            simp only [impl_allPlaces.l1] at H
            by_cases c8 : x14_2 < a0_0
            · rw [if_pos c8] at H
              have c8b0 : decide (x14_2 < a0_0) = true := decide_eq_true c8
              clear c8
              by_cases c9 : x3_2.length < 70368744177664
              · rw [if_pos c9] at H
                have LMc9 := am c9
                clear c9
                obtain ⟨y226, hy226⟩ : ∃ y_ : List (S36), y_ = (x3_2 ++ [(⟨x14_2, x9_1⟩ : S36)]) := ⟨_, rfl⟩
                replace H : (impl_allPlaces.l1 k2 y226 x9_1 a0_1 x9_1 a0_0 (IntKind.i8.wrap (x14_2 + 1)) a0_0 a0_1 a0_2) = some r := by first | (rw [hy226]; with_reducible exact H) | (have H2_ := (Option.bind_some _ _).symm.trans H; rw [hy226]; with_reducible exact H2_) | (have H2_ := (Option.bind_some _ _).symm.trans H; with_reducible exact H2_) | with_reducible exact H | (rw [hy226]; exact H) | exact H
                have Ny226 := am hy226
                clear hy226
                have H' := am H
                clear H
                go_wp2_with (first | ((with_reducible refine gate_builtin (b := .append) (xs := #[.tmp 17, .tmp 21]) rfl ?_); at_builtin; refine Kd.R_append k36 (w0 := w) w.heap.size rfl (.tmp 17) (.tmp 21) 56 36 (.agg #[(.int .i8 0), (.int .i8 0)]) 2 rfl Try.underlying56 info36 rfl (by decide) (by omega) u3 x3_2 (⟨x14_2, x9_1⟩ : S36) [.int .i8 x14_2, .int .i8 x9_1] (fun _ => True) (fun _ => False) rfl rfl ?aP (fun _ hk => hk.elim) ?aF ?aO ?aB ?aS ?aL ?_; (case aP => exact k36_mkM _ _ _ (⟨x14_2, x9_1⟩ : S36)); (case aB => exact (be HB)); (case aF => exact (fun _ _ => trivial)); (case aO => exact (kr HO_3)); (case aS => exact (below_size (be HB))); (case aL => have := LMc9.out; omega); intro v227 w10 ho hb hg hat; rw [← Ny226.out] at ho; have HO228 := am (ho); replace BK222 := am (blk_grown (g := gb222) (o := .cells (csBay a0_0 a0_1 a0_2) 28 (0, 0)) (kb BK222) hg (Kd.R_ne HO_3.out BK222.out (by decide))); replace HB := am (hb); clear HO_3; clear ho hb hg hat))
                go_roundg k2
                case measure => have := HK1.out; have := HK2.out; omega
                case rel => exact ⟨(y226), (IntKind.i8.wrap (x14_2 + 1)), vv, H', ⟨by have := HK1.out; have := HK2.out; omega⟩, ⟨kr HO228⟩, ⟨kb BK222⟩, ⟨be HB⟩⟩
              · rw [if_neg c9] at H
                exact absurd H (by simp)
            · rw [if_neg c8] at H
              have c8b0 : decide (x14_2 < a0_0) = false := decide_eq_false c8
              clear c8
              have H' := am H
              clear H
              go_wp2
              go_roundg k2
              case measure => have := HK1.out; have := HK2.out; omega
              case rel => exact ⟨(x3_2), (IntKind.i8.wrap (x9_1 + 1)), vv, H', ⟨by have := HK1.out; have := HK2.out; omega⟩, ⟨kr HO_3⟩, ⟨kb BK222⟩, ⟨be HB⟩⟩
      · rw [if_neg c6] at H
        have c6b0 : decide (x9_1 < a0_1) = false := decide_eq_false c6
        clear c6
        obtain rfl := Option.some.inj H
        go_wp2
        go_ret
        exact ⟨_, by first | rfl | (simp [errW_none, errW_some] <;> rfl) | (simp [*, errW_none, errW_some] <;> rfl), by (with_reducible repeat (first | apply Kd.R_alloc | apply Kd.R_drewN | apply Kd.R_drew)); exact HO_3.out, be HB⟩

/-! ### impl_far: function 171 -/
def impl_far.f (a0_0 : Int) (a0_1 : Int) (a1_0 : Int) (a1_1 : Int) : Option (Int) := some (wrap64 ((wrap64 ((wrap64 ((wrap64 (a0_0)) - (wrap64 (a1_0)))) * (wrap64 ((wrap64 (a0_0)) - (wrap64 (a1_0)))))) + (wrap64 ((wrap64 ((wrap64 (a0_1)) - (wrap64 (a1_1)))) * (wrap64 ((wrap64 (a0_1)) - (wrap64 (a1_1))))))))
set_option maxHeartbeats 8000000 in
set_option maxRecDepth 100000 in
theorem impl_far.calls (a0_0 : Int) (a0_1 : Int) (a1_0 : Int) (a1_1 : Int) (r : Int) (w : World) (h : impl_far.f a0_0 a0_1 a1_0 a1_1 = some r) :
    Calls Try.prog 171 #[.agg #[.int .i8 a0_0, .int .i8 a0_1], .agg #[.int .i8 a1_0, .int .i8 a1_1]] w fun e w' => e = .returned (.int .i64 r) ∧ Below w.heap.size w w' := by
  have hu36 := Try.underlying36
  have HB := am (Below.refl w.heap.size w)
  have H : (some (wrap64 ((wrap64 ((wrap64 ((wrap64 (a0_0)) - (wrap64 (a1_0)))) * (wrap64 ((wrap64 (a0_0)) - (wrap64 (a1_0)))))) + (wrap64 ((wrap64 ((wrap64 (a0_1)) - (wrap64 (a1_1)))) * (wrap64 ((wrap64 (a0_1)) - (wrap64 (a1_1))))))))) = some r := h
  clear h
  obtain rfl := Option.some.inj H
  go_enter Try.func171, Try.ntmps171
  go_wp2_with (first | ((with_reducible refine gate_dst (N := 2) rfl ?_); refine bxe (N := 2) (cs := #[.int .i8 a0_0, .int .i8 a0_1]) (t := 36) ?_; intro gb229 hg w3 hbox hb; have BK229 := am (hbox); have GW229 := am (gN hg (below_size (be HB))); have GE229 := am (gN hg (below_size (be HB))); replace HB := am (below_step (be HB) hb); clear hb hbox hg) | ((with_reducible refine gate_dst (N := 3) rfl ?_); refine bxe (N := 3) (cs := #[.int .i8 a1_0, .int .i8 a1_1]) (t := 36) ?_; intro gb230 hg w4 hbox hb; have BK230 := am (hbox); have GW230 := am (gN hg (below_size (be HB))); have GE230 := am (gN hg (below_size (be HB))); have NB229_230 := nL BK229 hg; have NB230_229 := nR BK229 hg; replace BK229 := bB BK229 hb; replace HB := am (below_step (be HB) hb); clear hb hbox hg; have hnb5 := NB229_230.out; have hnc5 := NB230_229.out; obtain ⟨hcz6_0, hcz6_1, hfz6_0, hfz6_1⟩ := bx2 BK229; obtain ⟨hcz7_0, hcz7_1, hfz7_0, hfz7_1⟩ := bx2 BK230))
  repeat (go_quiet (first | ((with_reducible refine gate_dst (N := 2) rfl ?_); refine bxe (N := 2) (cs := #[.int .i8 a0_0, .int .i8 a0_1]) (t := 36) ?_; intro gb229 hg w3 hbox hb; have BK229 := am (hbox); have GW229 := am (gN hg (below_size (be HB))); have GE229 := am (gN hg (below_size (be HB))); replace HB := am (below_step (be HB) hb); clear hb hbox hg) | ((with_reducible refine gate_dst (N := 3) rfl ?_); refine bxe (N := 3) (cs := #[.int .i8 a1_0, .int .i8 a1_1]) (t := 36) ?_; intro gb230 hg w4 hbox hb; have BK230 := am (hbox); have GW230 := am (gN hg (below_size (be HB))); have GE230 := am (gN hg (below_size (be HB))); have NB229_230 := nL BK229 hg; have NB230_229 := nR BK229 hg; replace BK229 := bB BK229 hb; replace HB := am (below_step (be HB) hb); clear hb hbox hg; have hnb5 := NB229_230.out; have hnc5 := NB230_229.out; obtain ⟨hcz6_0, hcz6_1, hfz6_0, hfz6_1⟩ := bx2 BK229; obtain ⟨hcz7_0, hcz7_1, hfz7_0, hfz7_1⟩ := bx2 BK230)); try go_wp2_with (first | ((with_reducible refine gate_dst (N := 2) rfl ?_); refine bxe (N := 2) (cs := #[.int .i8 a0_0, .int .i8 a0_1]) (t := 36) ?_; intro gb229 hg w3 hbox hb; have BK229 := am (hbox); have GW229 := am (gN hg (below_size (be HB))); have GE229 := am (gN hg (below_size (be HB))); replace HB := am (below_step (be HB) hb); clear hb hbox hg) | ((with_reducible refine gate_dst (N := 3) rfl ?_); refine bxe (N := 3) (cs := #[.int .i8 a1_0, .int .i8 a1_1]) (t := 36) ?_; intro gb230 hg w4 hbox hb; have BK230 := am (hbox); have GW230 := am (gN hg (below_size (be HB))); have GE230 := am (gN hg (below_size (be HB))); have NB229_230 := nL BK229 hg; have NB230_229 := nR BK229 hg; replace BK229 := bB BK229 hb; replace HB := am (below_step (be HB) hb); clear hb hbox hg; have hnb5 := NB229_230.out; have hnc5 := NB230_229.out; obtain ⟨hcz6_0, hcz6_1, hfz6_0, hfz6_1⟩ := bx2 BK229; obtain ⟨hcz7_0, hcz7_1, hfz7_0, hfz7_1⟩ := bx2 BK230)))
  go_ret
  exact ⟨by first | rfl | (simp [errW_none, errW_some] <;> rfl) | (simp [*, errW_none, errW_some] <;> rfl), be HB⟩

/-! ### impl_swingPlaces: function 123 -/
def impl_swingPlaces.l0 : Nat → Int → List (S36) → List (S36) → Int → Int → Int → Int → Int → Int → Int → Int → Option ((List (S36)))
  | 0, _, _, _, _, _, _, _, _, _, _, _ => none
  | k + 1, x5, x6, x14, x15, x16, x233000, x233001, x233002, x233003, x233004, x233005 => if x16 < x15 then (if 0 ≤ x16 then (if x16 < (x14.length : Int) then ((impl_far.f ((rd_T36 x14 x16).f0) ((rd_T36 x14 x16).f1) x233000 x233001).bind fun t242 => (if t242 ≤ (wrap64 (x5 * x5)) then (if x6.length < 70368744177664 then (impl_swingPlaces.l0 k x5 (x6 ++ [(⟨(rd_T36 x14 x16).f0, (rd_T36 x14 x16).f1⟩ : S36)]) x14 x15 (wrap64 (x16 + 1)) x233000 x233001 x233002 x233003 x233004 x233005) else (none)) else (impl_swingPlaces.l0 k x5 x6 x14 x15 (wrap64 (x16 + 1)) x233000 x233001 x233002 x233003 x233004 x233005))) else (none)) else (none)) else (some x6)
def impl_swingPlaces.f (k : Nat) (a0_0 : Int) (a0_1 : Int) (a0_2 : (Nat → Int)) (a1_0 : Int) (a1_1 : Int) (a1_2 : Int) (a1_3 : Int) (a1_4 : Int) (a1_5 : Int) : Option ((List (S36))) := (impl_swingOf.f k a0_0 a0_1 a0_2 a1_0 a1_1 a1_2 a1_3 a1_4 a1_5).bind fun t233 => ((impl_allPlaces.f k a0_0 a0_1 a0_2).bind fun t237 => (impl_swingPlaces.l0 k t233 (([] : List (S36))) t237 (t237.length : Int) 0 a1_0 a1_1 a1_2 a1_3 a1_4 a1_5))
set_option maxHeartbeats 8000000 in
set_option maxRecDepth 100000 in
theorem impl_swingPlaces.calls (k : Nat) (a0_0 : Int) (a0_1 : Int) (a0_2 : (Nat → Int)) (a1_0 : Int) (a1_1 : Int) (a1_2 : Int) (a1_3 : Int) (a1_4 : Int) (a1_5 : Int) (r : List (S36)) (w : World) (h : impl_swingPlaces.f k a0_0 a0_1 a0_2 a1_0 a1_1 a1_2 a1_3 a1_4 a1_5 = some r) :
    Calls Try.prog 123 #[.agg (csBay a0_0 a0_1 a0_2), .agg #[.int .i8 a1_0, .int .i8 a1_1, .int .i8 a1_2, .int .i8 a1_3, .int .i8 a1_4, .int .i8 a1_5]] w fun e w' => ∃ v0_ : Value, e = .returned (v0_) ∧ Kd.R k36 36 w' w.heap.size (fun _ => True) v0_ r ∧ Below w.heap.size w w' := by
  have hu28 := Try.underlying28
  have hu38 := Try.underlying38
  have hu36 := Try.underlying36
  have HB := am (Below.refl w.heap.size w)
  have H : ((impl_swingOf.f k a0_0 a0_1 a0_2 a1_0 a1_1 a1_2 a1_3 a1_4 a1_5).bind fun t233 => ((impl_allPlaces.f k a0_0 a0_1 a0_2).bind fun t237 => (impl_swingPlaces.l0 k t233 (([] : List (S36))) t237 (t237.length : Int) 0 a1_0 a1_1 a1_2 a1_3 a1_4 a1_5))) = some r := h
  clear h
  replace H := Option.bind_eq_some_iff.mp H
  obtain ⟨t233, A30, H⟩ := H
  try dsimp only at H
  have A3 := am A30
  clear A30
  obtain ⟨y234, hy234⟩ : ∃ y_ : List (S36), y_ = (([] : List (S36))) := ⟨_, rfl⟩
  replace H : ((impl_allPlaces.f k a0_0 a0_1 a0_2).bind fun t237 => (impl_swingPlaces.l0 k t233 y234 t237 (t237.length : Int) 0 a1_0 a1_1 a1_2 a1_3 a1_4 a1_5)) = some r := by first | (rw [hy234]; with_reducible exact H) | (have H2_ := (Option.bind_some _ _).symm.trans H; rw [hy234]; with_reducible exact H2_) | (have H2_ := (Option.bind_some _ _).symm.trans H; with_reducible exact H2_) | with_reducible exact H | (rw [hy234]; exact H) | exact H
  have Ny234 := am hy234
  clear hy234
  replace H := Option.bind_eq_some_iff.mp H
  obtain ⟨t237, A40, H⟩ := H
  try dsimp only at H
  have A4 := am A40
  clear A40
  have H' := am H
  clear H
  go_enter Try.func123, Try.ntmps123
  go_wp2_with (first | ((with_reducible refine gate_dst (N := 2) rfl ?_); refine bxe (N := 2) (cs := (csBay a0_0 a0_1 a0_2)) (t := 28) ?_; intro gb231 hg w5 hbox hb; have BK231 := am (hbox); have GW231 := am (gN hg (below_size (be HB))); have GE231 := am (gN hg (below_size (be HB))); replace HB := am (below_step (be HB) hb); clear hb hbox hg) | ((with_reducible refine gate_dst (N := 3) rfl ?_); refine bxe (N := 3) (cs := #[.int .i8 a1_0, .int .i8 a1_1, .int .i8 a1_2, .int .i8 a1_3, .int .i8 a1_4, .int .i8 a1_5]) (t := 38) ?_; intro gb232 hg w6 hbox hb; have BK232 := am (hbox); have GW232 := am (gN hg (below_size (be HB))); have GE232 := am (gN hg (below_size (be HB))); have NB231_232 := nL BK231 hg; have NB232_231 := nR BK231 hg; replace BK231 := bB BK231 hb; replace HB := am (below_step (be HB) hb); clear hb hbox hg; have hnb7 := NB231_232.out; have hnc7 := NB232_231.out; have hcz8_0 : w6.cell? ⟨gb231, 0, none⟩ = some (.int .i8 a0_0) := (blk_cell BK231.out 0).trans rfl; have hcz8_1 : w6.cell? ⟨gb231, 1, none⟩ = some (.int .i8 a0_1) := (blk_cell BK231.out 1).trans rfl; have hwz8 := lv28_at BK231.out; have haz8 := at_cells BK231.out; have hyz8 := BayAt28_of BK231.out; have hvz8 := lvv_of BK231.out; have hfz8_0 := blk_frozen BK231.out 0; have hfz8_1 := blk_frozen BK231.out 1; have hfz8_2 := blk_frozen BK231.out 2; obtain ⟨hcz9_0, hcz9_1, hcz9_2, hcz9_3, hcz9_4, hcz9_5, hfz9_0, hfz9_1, hfz9_2, hfz9_3, hfz9_4, hfz9_5⟩ := bx6 BK232) | ((with_reducible refine gate_callee (f := 115) rfl ?_); refine gL (some 11) Try.func115 #[.agg (csBay a0_0 a0_1 a0_2), .agg #[.int .i8 a1_0, .int .i8 a1_1, .int .i8 a1_2, .int .i8 a1_3, .int .i8 a1_4, .int .i8 a1_5]] ?_; (with_reducible refine (impl_swingOf.calls k a0_0 a0_1 a0_2 a1_0 a1_1 a1_2 a1_3 a1_4 a1_5 t233 _ A3.out).mono ?_); rintro e w10 ⟨rfl, hb⟩; refine ⟨_, rfl, ?_⟩; replace BK231 := bB BK231 hb; replace BK232 := bB BK232 hb; replace HB := am (below_step (be HB) hb); (try clear hb); (try clear hb2); (try clear hk); (try clear hi)) | ((with_reducible refine gate_dst (N := 12) rfl ?_); refine Kd.R_lit k36 _ 36 ?hg (N := 12) ?hd (xs := ([] : List (S36))) (inner := []) (ok := fun _ => True) (okp := fun _ => True) ?hr ?hp (fun _ hk => hk) trivial (Below.refl _ _) (Nat.le_refl _) (by simp) ?_; (case hd => rfl); (case hg => rfl); (case hr => first | (go_simp; done) | (go_simp; rfl)); (case hp => exact (Reps.none _ _)); intro v235 w11 ho12 hb hg_ hnew_; clear hg_ hnew_; (first | rw [← Ny234.out] at ho12 | (simp only [Int.reduceToNat] at ho12; rw [← Ny234.out] at ho12)); have HO236 := am (Kd.R_lower ho12 (below_size (be HB))); replace BK231 := bB BK231 hb; replace BK232 := bB BK232 hb; replace HB := am (below_step (be HB) hb); clear hb ho12; have hcz13_0 : w11.cell? ⟨gb231, 0, none⟩ = some (.int .i8 a0_0) := (blk_cell BK231.out 0).trans rfl; have hcz13_1 : w11.cell? ⟨gb231, 1, none⟩ = some (.int .i8 a0_1) := (blk_cell BK231.out 1).trans rfl; have hwz13 := lv28_at BK231.out; have haz13 := at_cells BK231.out; have hyz13 := BayAt28_of BK231.out; have hvz13 := lvv_of BK231.out; have hfz13_0 := blk_frozen BK231.out 0; have hfz13_1 := blk_frozen BK231.out 1; have hfz13_2 := blk_frozen BK231.out 2) | ((with_reducible refine gate_callee (f := 111) rfl ?_); refine gL (some 14) Try.func111 #[.agg (csBay a0_0 a0_1 a0_2)] ?_; (with_reducible refine (impl_allPlaces.calls k a0_0 a0_1 a0_2 t237 _ A4.out).mono ?_); rintro e w14 ⟨v238, rfl, ho0, hb⟩; refine ⟨_, rfl, ?_⟩; have HO239 := am (Kd.R_lower (Kd.R_new' ho0 (Kd.R_lt (kr HO236))) (below_size (be HB))); replace HO236 := am (Kd.R_elder' (kr HO236) (Kd.R_base ho0) hb); replace BK231 := bB BK231 hb; replace BK232 := bB BK232 hb; replace HB := am (below_step (be HB) hb); (try clear hb); (try clear hb2); (try clear hk); (try clear hi); (try clear ho0); obtain ⟨Ao15, co15, eo15⟩ := Kd.R_slice HO239.out; subst eo15))
  go_loopg [6, 16] k (fun kq v6 v16 w' => ∃ (x6_1 : List (S36)) (x16_1 : Int), v16 = .int .i64 x16_1 ∧ Aside0 (impl_swingPlaces.l0 kq t233 x6_1 t237 (t237.length : Int) x16_1 a1_0 a1_1 a1_2 a1_3 a1_4 a1_5 = some r) ∧ Aside0 (kq ≤ k) ∧ Aside0 (Kd.R k36 36 w' w.heap.size (fun k_ => some k_ ≠ ((.slice Ao15 t237.length co15) : Value).ownBlock) v6 x6_1) ∧ Aside0 (Kd.R k36 36 w' w.heap.size (fun k_ => some k_ ≠ (v6 : Value).ownBlock) (.slice Ao15 t237.length co15) t237) ∧ Aside0 (w'.heap[gb231]? = some (.cells (csBay a0_0 a0_1 a0_2) 28 (0, 0))) ∧ Aside0 (w'.heap[gb232]? = some (.cells #[.int .i8 a1_0, .int .i8 a1_1, .int .i8 a1_2, .int .i8 a1_3, .int .i8 a1_4, .int .i8 a1_5] 38 (0, 0))) ∧ Aside0 (Below w.heap.size w w'))
  case atStart => exact ⟨(y234), (0), vv, H', ⟨Nat.le_refl _⟩, ⟨by (with_reducible repeat (first | apply Kd.R_alloc | apply Kd.R_drewN | apply Kd.R_drew)); exact Kd.R_mono HO236.out (fun _ hk => hk.2)⟩, ⟨by (with_reducible repeat (first | apply Kd.R_alloc | apply Kd.R_drewN | apply Kd.R_drew)); exact Kd.R_mono HO239.out (fun _ hk => hk.2)⟩, ⟨kb BK231⟩, ⟨kb BK232⟩, ⟨be HB⟩⟩
  case round =>
    clear H'
    try clear c1
    try clear p2
    try clear c7
    try clear c11
    try clear c12
    try clear hcz13_0
    try clear hcz13_1
    try clear hcz8_0
    try clear hcz8_1
    try clear hcz9_0
    try clear hcz9_1
    try clear hcz9_2
    try clear hcz9_3
    try clear hcz9_4
    try clear hcz9_5
    try clear hfz13_0
    try clear hfz13_1
    try clear hfz13_2
    try clear hfz8_0
    try clear hfz8_1
    try clear hfz8_2
    try clear hfz9_0
    try clear hfz9_1
    try clear hfz9_2
    try clear hfz9_3
    try clear hfz9_4
    try clear hfz9_5
    obtain ⟨x6_1, x16_1, rfl, HA, HK1, HO_6, HO_14, BK231, BK232, HB⟩ := hrel
    cases gk with
    | zero => exact absurd HA.out (by simp [impl_swingPlaces.l0])
    | succ k1 =>
      have H := HA.out
      clear HA
      simp only [impl_swingPlaces.l0] at H
      by_cases c16 : x16_1 < (t237.length : Int)
      · rw [if_pos c16] at H
        have c16b0 : decide (x16_1 < (t237.length : Int)) = true := decide_eq_true c16
        clear c16
        by_cases c17 : 0 ≤ x16_1
        · rw [if_pos c17] at H
          have c17b0 : decide (0 ≤ x16_1) = true := decide_eq_true c17
          have c17b1 : 0 ≤ x16_1 := c17
          clear c17
          by_cases c18 : x16_1 < (t237.length : Int)
          · rw [if_pos c18] at H
            have c18b0 : decide (x16_1 < (t237.length : Int)) = true := decide_eq_true c18
            clear c18
            replace H := Option.bind_eq_some_iff.mp H
            obtain ⟨t242, A190, H⟩ := H
            try dsimp only at H
            have A19 := am A190
            clear A190
            by_cases c20 : t242 ≤ (wrap64 (t233 * t233))
            · rw [if_pos c20] at H
              have c20b0 : decide (t242 ≤ (wrap64 (t233 * t233))) = true := decide_eq_true c20
              clear c20
              by_cases c21 : x6_1.length < 70368744177664
              · rw [if_pos c21] at H
                have LMc21 := am c21
                clear c21
                obtain ⟨y243, hy243⟩ : ∃ y_ : List (S36), y_ = (x6_1 ++ [(⟨(rd_T36 t237 x16_1).f0, (rd_T36 t237 x16_1).f1⟩ : S36)]) := ⟨_, rfl⟩
                replace H : (impl_swingPlaces.l0 k1 t233 y243 t237 (t237.length : Int) (wrap64 (x16_1 + 1)) a1_0 a1_1 a1_2 a1_3 a1_4 a1_5) = some r := by first | (rw [hy243]; with_reducible exact H) | (have H2_ := (Option.bind_some _ _).symm.trans H; rw [hy243]; with_reducible exact H2_) | (have H2_ := (Option.bind_some _ _).symm.trans H; with_reducible exact H2_) | with_reducible exact H | (rw [hy243]; exact H) | exact H
                have Ny243 := am hy243
                clear hy243
                have H' := am H
                clear H
                have p240 : 0 ≤ (x16_1 : Int) := of_decide_eq_true (by first | (with_reducible assumption) | assumption)
                have q240 : x16_1 < (t237.length : Int) := of_decide_eq_true (by first | (with_reducible assumption) | assumption)
                obtain ⟨ad240, e240, hx240_0, hx240_1⟩ := at_T36 (Kd.R_reads' HO_14.out).2.2 x16_1 p240 q240
                cases e240
                replace p240 := eq_true p240
                replace q240 := eq_true q240
                go_wp2_with (first | ((with_reducible refine gate_dst (N := 8) rfl ?_); refine bxe (N := 8) (cs := #[.int .i8 0, .int .i8 0]) (t := 36) ?_; intro gb241 hg w22 hbox hb; have BK241 := am (hbox); have GW241 := am (gN hg (below_size (be HB))); have GE241 := am (gN hg (below_size (be HB))); have NB231_241 := nL BK231 hg; have NB241_231 := nR BK231 hg; have NB232_241 := nL BK232 hg; have NB241_232 := nR BK232 hg; replace HO_6 := am (Kd.R_below (Kd.R_elderB (kr HO_6) gb241 (Nat.le_of_eq hg.symm)) hb); replace HO_14 := am (Kd.R_below (Kd.R_elderB (kr HO_14) gb241 (Nat.le_of_eq hg.symm)) hb); replace BK231 := bB BK231 hb; replace BK232 := bB BK232 hb; replace HB := am (below_step (be HB) hb); clear hb hbox hg; have hnb23 := NB241_231.out; have hnc23 := NB231_241.out; have hnb24 := NB241_232.out; have hnc24 := NB232_241.out; obtain ⟨hcz25_0, hcz25_1, hfz25_0, hfz25_1⟩ := bx2 BK241; have hnb26 := NB232_231.out; have hnc26 := NB231_232.out; obtain ⟨hcz27_0, hcz27_1, hcz27_2, hcz27_3, hcz27_4, hcz27_5, hfz27_0, hfz27_1, hfz27_2, hfz27_3, hfz27_4, hfz27_5⟩ := bx6 BK232) | ((with_reducible refine gate_callee (f := 171) rfl ?_); refine gL (some 23) Try.func171 #[.agg #[.int .i8 ((rd_T36 t237 x16_1).f0), .int .i8 ((rd_T36 t237 x16_1).f1)], .agg #[.int .i8 a1_0, .int .i8 a1_1]] ?_; (with_reducible refine (impl_far.calls ((rd_T36 t237 x16_1).f0) ((rd_T36 t237 x16_1).f1) a1_0 a1_1 t242 _ A19.out).mono ?_); rintro e w28 ⟨rfl, hb⟩; refine ⟨_, rfl, ?_⟩; replace HO_6 := am (Kd.R_below (by (with_reducible repeat (first | apply Kd.R_alloc | apply Kd.R_drewN | apply Kd.R_drew)); exact (Kd.R_mono (Kd.R_far (p := ⟨gb241, 1, none⟩) (Kd.R_far (p := ⟨gb241, 0, none⟩) (Kd.R_mono HO_6.out (fun k_ hk => (⟨hk, hk.2⟩ : _ ∧ k_ ≠ gb241))) (fun _ hk => hk.2) (.int .i8 ((rd_T36 t237 x16_1).f0))) (fun _ hk => hk.2) (.int .i8 ((rd_T36 t237 x16_1).f1))) (fun _ h_ => h_.1))) hb); replace HO_14 := am (Kd.R_below (by (with_reducible repeat (first | apply Kd.R_alloc | apply Kd.R_drewN | apply Kd.R_drew)); exact (Kd.R_mono (Kd.R_far (p := ⟨gb241, 1, none⟩) (Kd.R_far (p := ⟨gb241, 0, none⟩) (Kd.R_mono HO_14.out (fun k_ hk => (⟨hk, hk.2⟩ : _ ∧ k_ ≠ gb241))) (fun _ hk => hk.2) (.int .i8 ((rd_T36 t237 x16_1).f0))) (fun _ hk => hk.2) (.int .i8 ((rd_T36 t237 x16_1).f1))) (fun _ h_ => h_.1))) hb); replace BK231 := am (blk_below (g := gb231) (o := .cells (csBay a0_0 a0_1 a0_2) 28 (0, 0)) (by (with_reducible repeat (first | refine blk_drewN ?_ _ | refine blk_drew ?_ | refine blk_alloc ?_ _)); refine blk_far ?_ NB231_241.out _; (with_reducible repeat (first | refine blk_drewN ?_ _ | refine blk_drew ?_ | refine blk_alloc ?_ _)); refine blk_far ?_ NB231_241.out _; exact kb BK231) hb); replace BK232 := am (blk_below (g := gb232) (o := .cells #[.int .i8 a1_0, .int .i8 a1_1, .int .i8 a1_2, .int .i8 a1_3, .int .i8 a1_4, .int .i8 a1_5] 38 (0, 0)) (by (with_reducible repeat (first | refine blk_drewN ?_ _ | refine blk_drew ?_ | refine blk_alloc ?_ _)); refine blk_far ?_ NB232_241.out _; (with_reducible repeat (first | refine blk_drewN ?_ _ | refine blk_drew ?_ | refine blk_alloc ?_ _)); refine blk_far ?_ NB232_241.out _; exact kb BK232) hb); replace BK241 := am (blk_below (g := gb241) (o := .cells #[.int .i8 ((rd_T36 t237 x16_1).f0), .int .i8 ((rd_T36 t237 x16_1).f1)] 36 (0, 0)) (by (with_reducible repeat (first | refine blk_drewN ?_ _ | refine blk_drew ?_ | refine blk_alloc ?_ _)); refine blk_put (cs := #[.int .i8 ((rd_T36 t237 x16_1).f0), .int .i8 0]) ?_ 1 _ rfl; (with_reducible repeat (first | refine blk_drewN ?_ _ | refine blk_drew ?_ | refine blk_alloc ?_ _)); refine blk_put (cs := #[.int .i8 0, .int .i8 0]) ?_ 0 _ rfl; exact kb BK241) hb); replace HB := am (below_step (be HB) hb); (try clear hb); (try clear hb2); (try clear hk); (try clear hi); obtain ⟨hcz29_0, hcz29_1, hfz29_0, hfz29_1⟩ := bx2 BK241) | ((with_reducible refine gate_builtin (b := .append) (xs := #[.tmp 28, .tmp 30]) rfl ?_); at_builtin; refine Kd.R_append k36 (w0 := w) w.heap.size rfl (.tmp 28) (.tmp 30) 56 36 (.agg #[(.int .i8 0), (.int .i8 0)]) 2 rfl Try.underlying56 info36 rfl (by decide) (by omega) u6 x6_1 (⟨(rd_T36 t237 x16_1).f0, (rd_T36 t237 x16_1).f1⟩ : S36) [.int .i8 ((rd_T36 t237 x16_1).f0), .int .i8 ((rd_T36 t237 x16_1).f1)] (fun k_ => some k_ ≠ (.slice (some ad240) t237.length co15 : Value).ownBlock ∧ k_ ≠ gb241) (fun _ => False) rfl rfl ?aP (fun _ hk => hk.elim) ?aF ?aO ?aB ?aS ?aL ?_; (case aP => exact k36_mkM _ _ _ (⟨(rd_T36 t237 x16_1).f0, (rd_T36 t237 x16_1).f1⟩ : S36)); (case aB => exact (be HB)); (case aF => exact (fun k_ hk => ⟨Kd.fresh' (Kd.R_lt (kr HO_14)) k_ hk, Kd.freshB (g := gb241) (o := .cells #[.int .i8 ((rd_T36 t237 x16_1).f0), .int .i8 ((rd_T36 t237 x16_1).f1)] 36 (0, 0)) (kb BK241) k_ hk⟩)); (case aO => exact (kr HO_6)); (case aS => exact (below_size (be HB))); (case aL => have := LMc21.out; omega); intro v244 w30 ho hb hg hat; rw [← Ny243.out] at ho; have HO245 := am (ho); replace HO_14 := am (Kd.R_after (ok := (fun k_ => k_ ≠ gb241)) (by (with_reducible repeat (first | apply Kd.R_alloc | apply Kd.R_drewN | apply Kd.R_drew)); exact Kd.R_mono HO_14.out (fun _ hk => ⟨hk.2, hk.1⟩)) hg hat); replace BK231 := am (blk_grown (g := gb231) (o := .cells (csBay a0_0 a0_1 a0_2) 28 (0, 0)) (kb BK231) hg (Kd.R_ne HO_6.out BK231.out (by decide))); replace BK232 := am (blk_grown (g := gb232) (o := .cells #[.int .i8 a1_0, .int .i8 a1_1, .int .i8 a1_2, .int .i8 a1_3, .int .i8 a1_4, .int .i8 a1_5] 38 (0, 0)) (kb BK232) hg (Kd.R_ne HO_6.out BK232.out (by decide))); replace BK241 := am (blk_grown (g := gb241) (o := .cells #[.int .i8 ((rd_T36 t237 x16_1).f0), .int .i8 ((rd_T36 t237 x16_1).f1)] 36 (0, 0)) (kb BK241) hg (Kd.R_away HO_6.out (fun _ hk => hk.2))); replace HB := am (hb); clear HO_6; clear ho hb hg hat))
                go_roundg k1
                case measure => have := HK1.out; omega
                case rel => exact ⟨(y243), (wrap64 (x16_1 + 1)), vv, H', ⟨by have := HK1.out; omega⟩, ⟨by (with_reducible repeat (first | apply Kd.R_alloc | apply Kd.R_drewN | apply Kd.R_drew)); exact Kd.R_mono HO245.out (fun _ hk => hk.1)⟩, ⟨by (with_reducible repeat (first | apply Kd.R_alloc | apply Kd.R_drewN | apply Kd.R_drew)); exact Kd.R_mono HO_14.out (fun _ hk => hk.2)⟩, ⟨kb BK231⟩, ⟨kb BK232⟩, ⟨be HB⟩⟩
              · rw [if_neg c21] at H
                exact absurd H (by simp)
            · rw [if_neg c20] at H
              have c20b0 : decide (t242 ≤ (wrap64 (t233 * t233))) = false := decide_eq_false c20
              clear c20
              have H' := am H
              clear H
              have p240 : 0 ≤ (x16_1 : Int) := of_decide_eq_true (by first | (with_reducible assumption) | assumption)
              have q240 : x16_1 < (t237.length : Int) := of_decide_eq_true (by first | (with_reducible assumption) | assumption)
              obtain ⟨ad240, e240, hx240_0, hx240_1⟩ := at_T36 (Kd.R_reads' HO_14.out).2.2 x16_1 p240 q240
              cases e240
              replace p240 := eq_true p240
              replace q240 := eq_true q240
              go_wp2_with (first | ((with_reducible refine gate_dst (N := 8) rfl ?_); refine bxe (N := 8) (cs := #[.int .i8 0, .int .i8 0]) (t := 36) ?_; intro gb241 hg w31 hbox hb; have BK241 := am (hbox); have GW241 := am (gN hg (below_size (be HB))); have GE241 := am (gN hg (below_size (be HB))); have NB231_241 := nL BK231 hg; have NB241_231 := nR BK231 hg; have NB232_241 := nL BK232 hg; have NB241_232 := nR BK232 hg; replace HO_6 := am (Kd.R_below (Kd.R_elderB (kr HO_6) gb241 (Nat.le_of_eq hg.symm)) hb); replace HO_14 := am (Kd.R_below (Kd.R_elderB (kr HO_14) gb241 (Nat.le_of_eq hg.symm)) hb); replace BK231 := bB BK231 hb; replace BK232 := bB BK232 hb; replace HB := am (below_step (be HB) hb); clear hb hbox hg; have hnb32 := NB241_231.out; have hnc32 := NB231_241.out; have hnb33 := NB241_232.out; have hnc33 := NB232_241.out; obtain ⟨hcz34_0, hcz34_1, hfz34_0, hfz34_1⟩ := bx2 BK241; have hnb35 := NB232_231.out; have hnc35 := NB231_232.out; obtain ⟨hcz36_0, hcz36_1, hcz36_2, hcz36_3, hcz36_4, hcz36_5, hfz36_0, hfz36_1, hfz36_2, hfz36_3, hfz36_4, hfz36_5⟩ := bx6 BK232) | ((with_reducible refine gate_callee (f := 171) rfl ?_); refine gL (some 23) Try.func171 #[.agg #[.int .i8 ((rd_T36 t237 x16_1).f0), .int .i8 ((rd_T36 t237 x16_1).f1)], .agg #[.int .i8 a1_0, .int .i8 a1_1]] ?_; (with_reducible refine (impl_far.calls ((rd_T36 t237 x16_1).f0) ((rd_T36 t237 x16_1).f1) a1_0 a1_1 t242 _ A19.out).mono ?_); rintro e w37 ⟨rfl, hb⟩; refine ⟨_, rfl, ?_⟩; replace HO_6 := am (Kd.R_below (by (with_reducible repeat (first | apply Kd.R_alloc | apply Kd.R_drewN | apply Kd.R_drew)); exact (Kd.R_mono (Kd.R_far (p := ⟨gb241, 1, none⟩) (Kd.R_far (p := ⟨gb241, 0, none⟩) (Kd.R_mono HO_6.out (fun k_ hk => (⟨hk, hk.2⟩ : _ ∧ k_ ≠ gb241))) (fun _ hk => hk.2) (.int .i8 ((rd_T36 t237 x16_1).f0))) (fun _ hk => hk.2) (.int .i8 ((rd_T36 t237 x16_1).f1))) (fun _ h_ => h_.1))) hb); replace HO_14 := am (Kd.R_below (by (with_reducible repeat (first | apply Kd.R_alloc | apply Kd.R_drewN | apply Kd.R_drew)); exact (Kd.R_mono (Kd.R_far (p := ⟨gb241, 1, none⟩) (Kd.R_far (p := ⟨gb241, 0, none⟩) (Kd.R_mono HO_14.out (fun k_ hk => (⟨hk, hk.2⟩ : _ ∧ k_ ≠ gb241))) (fun _ hk => hk.2) (.int .i8 ((rd_T36 t237 x16_1).f0))) (fun _ hk => hk.2) (.int .i8 ((rd_T36 t237 x16_1).f1))) (fun _ h_ => h_.1))) hb); replace BK231 := am (blk_below (g := gb231) (o := .cells (csBay a0_0 a0_1 a0_2) 28 (0, 0)) (by (with_reducible repeat (first | refine blk_drewN ?_ _ | refine blk_drew ?_ | refine blk_alloc ?_ _)); refine blk_far ?_ NB231_241.out _; (with_reducible repeat (first | refine blk_drewN ?_ _ | refine blk_drew ?_ | refine blk_alloc ?_ _)); refine blk_far ?_ NB231_241.out _; exact kb BK231) hb); replace BK232 := am (blk_below (g := gb232) (o := .cells #[.int .i8 a1_0, .int .i8 a1_1, .int .i8 a1_2, .int .i8 a1_3, .int .i8 a1_4, .int .i8 a1_5] 38 (0, 0)) (by (with_reducible repeat (first | refine blk_drewN ?_ _ | refine blk_drew ?_ | refine blk_alloc ?_ _)); refine blk_far ?_ NB232_241.out _; (with_reducible repeat (first | refine blk_drewN ?_ _ | refine blk_drew ?_ | refine blk_alloc ?_ _)); refine blk_far ?_ NB232_241.out _; exact kb BK232) hb); replace BK241 := am (blk_below (g := gb241) (o := .cells #[.int .i8 ((rd_T36 t237 x16_1).f0), .int .i8 ((rd_T36 t237 x16_1).f1)] 36 (0, 0)) (by (with_reducible repeat (first | refine blk_drewN ?_ _ | refine blk_drew ?_ | refine blk_alloc ?_ _)); refine blk_put (cs := #[.int .i8 ((rd_T36 t237 x16_1).f0), .int .i8 0]) ?_ 1 _ rfl; (with_reducible repeat (first | refine blk_drewN ?_ _ | refine blk_drew ?_ | refine blk_alloc ?_ _)); refine blk_put (cs := #[.int .i8 0, .int .i8 0]) ?_ 0 _ rfl; exact kb BK241) hb); replace HB := am (below_step (be HB) hb); (try clear hb); (try clear hb2); (try clear hk); (try clear hi)))
              go_roundg k1
              case measure => have := HK1.out; omega
              case rel => exact ⟨(x6_1), (wrap64 (x16_1 + 1)), vv, H', ⟨by have := HK1.out; omega⟩, ⟨by (with_reducible repeat (first | apply Kd.R_alloc | apply Kd.R_drewN | apply Kd.R_drew)); exact Kd.R_mono HO_6.out (fun _ hk => hk.1)⟩, ⟨by (with_reducible repeat (first | apply Kd.R_alloc | apply Kd.R_drewN | apply Kd.R_drew)); exact Kd.R_mono HO_14.out (fun _ hk => hk.1)⟩, ⟨kb BK231⟩, ⟨kb BK232⟩, ⟨be HB⟩⟩
          · rw [if_neg c18] at H
            exact absurd H (by simp)
        · rw [if_neg c17] at H
          exact absurd H (by simp)
      · rw [if_neg c16] at H
        have c16b0 : decide (x16_1 < (t237.length : Int)) = false := decide_eq_false c16
        clear c16
        obtain rfl := Option.some.inj H
        go_wp2
        go_ret
        exact ⟨_, by first | rfl | (simp [errW_none, errW_some] <;> rfl) | (simp [*, errW_none, errW_some] <;> rfl), by (with_reducible repeat (first | apply Kd.R_alloc | apply Kd.R_drewN | apply Kd.R_drew)); exact Kd.R_mono HO_6.out (fun _ hk => trivial), be HB⟩

end Go.Proofs.Ytcollbifdfhfoaa.PFnExactIsSafe
