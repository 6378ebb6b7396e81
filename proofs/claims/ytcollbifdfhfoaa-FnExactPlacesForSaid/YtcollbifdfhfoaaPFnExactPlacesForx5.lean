-- Written by a program out of this seat's translation (functions, and that the code comes to them).
import Derived.Test.YtcollbifdfhfoaaPFnExactPlacesForx0
import Derived.Test.YtcollbifdfhfoaaPFnExactPlacesForx3
import Derived.Test.YtcollbifdfhfoaaPFnExactPlacesForx4
namespace Go.Proofs.Ytcollbifdfhfoaa.PFnExactPlacesFor
open Go.RowKit Go.Proofs.YtcollbifdfhfoaaW.PrintWords Go.Proofs.YtcollbifdfhfoaaW.PrintLast Go.Proofs.YtcollbifdfhfoaaW.PrintMore
attribute [local go_sem] max2_int min2_int max_two min_two max_three min_three max_four min_four   -- for this text's walks alone
open Go.Proofs.Ytcollbifdfhfoaa.Bay Go.Proofs.Ytcollbifdfhfoaa.Short
attribute [local go_sem ↓] lv26_eq lv28_eq
attribute [local go_sem] lvv_set lvv_drewN lvv_drew lv26_run BayAt26_set BayAt26_drewN BayAt26_drew lv28_run BayAt28_set BayAt28_drewN BayAt28_drew
set_option linter.unusedVariables false
set_option linter.unusedSimpArgs false

/-! ### spec_l01Over: function 122 -/
def spec_l01Over.l0 : Nat → Int → Int → List (S36) → List (S36) → Int → Int → Int → (Nat → Int) → Int → Int → Option ((List (S36)) × Int × Int × (Nat → Int))
 | 0, _, _, _, _, _, _, _, _, _, _ => none
 | k + 1, x2, x3, x9, x10, x11, x1000, x1001, x1002, x184000, x184001 => if x11 < (x10.length : Int) then (if 0 ≤ x11 then ((spec_l01Far.f ((rd_T36 x10 x11).f0) ((rd_T36 x10 x11).f1) x184000 x184001).bind fun t194 => (if t194 ≤ (wrap64 (x2 * x2)) then ((spec_l01Depth.f x1000 x1001 x1002 ((rd_T36 x10 x11).f0) ((rd_T36 x10 x11).f1)).bind fun bt196 => (if bt196.1 < x3 then (if x9.length < 70368744177664 then (spec_l01Over.l0 k x2 x3 (x9 ++ [(⟨(rd_T36 x10 x11).f0, (rd_T36 x10 x11).f1⟩ : S36)]) x10 (wrap64 (x11 + 1)) bt196.2.1 bt196.2.2.1 bt196.2.2.2 x184000 x184001) else (none)) else (spec_l01Over.l0 k x2 x3 x9 x10 (wrap64 (x11 + 1)) bt196.2.1 bt196.2.2.1 bt196.2.2.2 x184000 x184001))) else (spec_l01Over.l0 k x2 x3 x9 x10 (wrap64 (x11 + 1)) x1000 x1001 x1002 x184000 x184001))) else (none)) else (some (x9, x1000, x1001, x1002))
def spec_l01Over.f (k : Nat) (s0_0 : Int) (s0_1 : Int) (s0_2 : (Nat → Int)) (a1_0 : Int) (a1_1 : Int) (a2 : Int) (a3 : Int) : Option ((List (S36)) × Int × Int × (Nat → Int)) := (spec_l01All.f k s0_0 s0_1 s0_2).bind fun bt187 => (spec_l01Over.l0 k a2 a3 (([] : List (S36))) bt187.1 0 bt187.2.1 bt187.2.2.1 bt187.2.2.2 a1_0 a1_1)
def spec_l01Over.T6 : Bool × List (List Nat × List Nat) := (true, [([], []), ([], []), ([0, 1], [0, 1]), ([2], [2]), ([], []), ([3, 4], [3, 4]), ([], []), ([], []), ([6, 7], [6, 7]), ([5, 8], [5, 8]), ([9, 5], [9]), ([10], [10]), ([10], [10]), ([10], [10]), ([12, 13, 10], [10, 12, 13]), ([14, 10], [10, 14]), ([11, 15, 10, 10], [10, 11, 15]), ([10], [10]), ([16, 17, 10], [10, 16, 17]), ([10, 18], [10, 18])])
def spec_l01Over.B6 : List Nat := [0, 0, 3, 7, 0, 31, 0, 0, 192, 511, 1023, 2047, 2047, 2047, 14335, 30719, 65535, 2047, 262143, 524287]
theorem spec_l01Over.tab6 : rtab .any (opsOf Try.f122 6) = spec_l01Over.T6 := by kernel_rfl
theorem spec_l01Over.bits6 : waitsOk spec_l01Over.T6.2 spec_l01Over.B6 = true := by kernel_rfl
set_option maxHeartbeats 8000000 in
set_option maxRecDepth 100000 in
theorem spec_l01Over.calls (k : Nat) (g : Nat) (s0_0 : Int) (s0_1 : Int) (s0_2 : (Nat → Int)) (a1_0 : Int) (a1_1 : Int) (a2 : Int) (a3 : Int) (r1 : List (S36)) (r2 : Int) (r3 : Int) (r4 : (Nat → Int)) (w0 w : World) (hI : IsS28 w0 w g s0_0 s0_1 s0_2) (hB : Below w0.heap.size w0 w) (h : spec_l01Over.f k s0_0 s0_1 s0_2 a1_0 a1_1 a2 a3 = some (r1, r2, r3, r4)) :
  Calls Try.prog 122 #[.pointer (some ⟨g, 0, none⟩), .agg #[.int .i8 a1_0, .int .i8 a1_1], .int .i64 a2, .int .i64 a3] w fun e w' => ∃ v0_ : Value, e = .returned (v0_) ∧ Kd.R k36 36 w' w.heap.size (fun _ => True) v0_ r1 ∧ IsS28 w0 w' g r2 r3 r4 ∧ Below w0.heap.size w0 w' ∧ KeepBut w w' g none := by
 have hu36 := Try.underlying36
 have HI0 := am hI
 have HK := am (KeepBut.refl w g none)
 have HL := am hB.size
 clear hI
 have HW0 := am hB.size
 have HB := am hB
 clear hB
 have H : ((spec_l01All.f k s0_0 s0_1 s0_2).bind fun bt187 => (spec_l01Over.l0 k a2 a3 (([] : List (S36))) bt187.1 0 bt187.2.1 bt187.2.2.1 bt187.2.2.2 a1_0 a1_1)) = some (r1, r2, r3, r4) := h
 clear h
 obtain ⟨y184, hy184⟩ : ∃ y_ : List (S36), y_ = (([] : List (S36))) := ⟨_, rfl⟩
 replace H : ((spec_l01All.f k s0_0 s0_1 s0_2).bind fun bt187 => (spec_l01Over.l0 k a2 a3 y184 bt187.1 0 bt187.2.1 bt187.2.2.1 bt187.2.2.2 a1_0 a1_1)) = some (r1, r2, r3, r4) := by first | (rw [hy184]; with_reducible exact H) | (have H2_ := (Option.bind_some _ _).symm.trans H; rw [hy184]; with_reducible exact H2_) | (have H2_ := (Option.bind_some _ _).symm.trans H; with_reducible exact H2_) | with_reducible exact H | (rw [hy184]; exact H) | exact H
 have Ny184 := am hy184
 clear hy184
 replace H := Option.bind_eq_some_iff.mp H
 obtain ⟨⟨t187, t190, t191, t192⟩, A50, H⟩ := H
 try dsimp only at H
 have A5 := am A50
 clear A50
 have H' := am H
 clear H
 go_enter Try.func122, Try.ntmps122
 go_wp2_with (first | ((with_reducible refine gate_dst (N := 5) rfl ?_); refine bxe (N := 5) (cs := #[.int .i8 a1_0, .int .i8 a1_1]) (t := 36) ?_; intro gb183 hg w6 hbox hb; have BK183 := am (hbox); have GW183 := am (gN hg (keep_size (w := w) (g := g) (row := none) (ke HK))); have GE183 := am (Nat.le_trans HW0.out (gN hg (keep_size (w := w) (g := g) (row := none) (ke HK)))); have NB0_183 := am (nLi hg (IsS28.lt (show IsS28 w0 _ g s0_0 s0_1 s0_2 from si28 HI0))); have NB183_0 := am (nRi hg (IsS28.lt (show IsS28 w0 _ g s0_0 s0_1 s0_2 from si28 HI0))); replace HI0 := am (IsS28.below (si28 HI0) hb); replace HK := am (KeepBut.trans (ke HK) (KeepBut.of_below hb g none) (.inl rfl)); replace HB := am (below_step (be HB) hb); clear hb hbox hg) | ((with_reducible refine gate_dst (N := 12) rfl ?_); refine Kd.R_lit k36 _ 36 ?hg (N := 12) ?hd (xs := ([] : List (S36))) (inner := []) (ok := fun _ => True) (okp := fun _ => True) ?hr ?hp (fun _ hk => hk) trivial (Below.refl _ _) (Nat.le_refl _) (by simp) ?_; (case hd => rfl); (case hg => rfl); (case hr => first | (go_simp; done) | (go_simp; rfl)); (case hp => exact (Reps.none _ _)); intro v185 w7 ho8 hb hg_ hnew_; clear hg_ hnew_; (first | rw [← Ny184.out] at ho8 | (simp only [Int.reduceToNat] at ho8; rw [← Ny184.out] at ho8)); have HO186 := am (Kd.R_lower (Kd.R_newB ho8 (g := gb183) (o := .cells #[.int .i8 a1_0, .int .i8 a1_1] 36 (0, 0)) (kb BK183)) (keep_size (w := w) (g := g) (row := none) (ke HK))); replace HI0 := am (IsS28.below (si28 HI0) hb); replace BK183 := bB BK183 hb; replace HK := am (KeepBut.trans (ke HK) (KeepBut.of_below hb g none) (.inl rfl)); replace HB := am (below_step (be HB) hb); clear hb ho8) | ((with_reducible refine gate_callee (f := 109) rfl ?_); refine gL (some 14) Try.func109 #[.pointer (some ⟨g, 0, none⟩)] ?_; (with_reducible refine (spec_l01All.calls k g s0_0 s0_1 s0_2 t187 t190 t191 t192 w0 _ ?side1 ?side2 A5.out).mono ?_); (case side1 => exact si28 HI0); (case side2 => exact be HB); rintro e w9 ⟨v188, rfl, ho0, hi, hb, hk⟩; refine ⟨_, rfl, ?_⟩; have HO189 := am (Kd.R_lower (Kd.R_newB (Kd.R_new' ho0 (Kd.R_lt (kr HO186))) (g := gb183) (o := .cells #[.int .i8 a1_0, .int .i8 a1_1] 36 (0, 0)) (kb BK183)) (keep_size (w := w) (g := g) (row := none) (ke HK))); replace BK183 := am (KeepBut.blk hk (g' := gb183) (o := .cells #[.int .i8 a1_0, .int .i8 a1_1] 36 (0, 0)) (kb BK183) NB183_0.out (by simp)); replace HO186 := am (Kd.R_mono (Kd.R_told (Kd.R_oldK (IsS28.apart (show IsS28 w0 _ g s0_0 s0_1 s0_2 from si28 HI0) (kr HO186) (by decide)) hk) (Kd.R_base ho0)) (fun _ h_ => h_.1)); replace HK := am (KeepBut.trans (ke HK) hk (.inl rfl)); replace HB := am (hb); replace HI0 := am (hi); (try clear hb); (try clear hb2); (try clear hk); (try clear hi); (try clear ho0)))
 go_loopg [9, 11] k (fun kq v9 v11 w' => ∃ (x9_1 : List (S36)) (x11_1 : Int) (x1000_1 : Int) (x1001_1 : Int) (x1002_1 : (Nat → Int)), v11 = .int .i64 x11_1 ∧ Aside0 (spec_l01Over.l0 kq a2 a3 x9_1 t187 x11_1 x1000_1 x1001_1 x1002_1 a1_0 a1_1 = some (r1, r2, r3, r4)) ∧ Aside0 (kq ≤ k) ∧ Aside0 (Kd.R k36 36 w' w.heap.size (fun k_ => some k_ ≠ (v188 : Value).ownBlock ∧ k_ ≠ gb183) v9 x9_1) ∧ Aside0 (Kd.R k36 36 w' w.heap.size (fun k_ => some k_ ≠ (v9 : Value).ownBlock ∧ k_ ≠ gb183) v188 t187) ∧ Aside0 (w'.heap[gb183]? = some (.cells #[.int .i8 a1_0, .int .i8 a1_1] 36 (0, 0))) ∧ Aside0 (IsS28 w0 w' g x1000_1 x1001_1 x1002_1) ∧ Aside0 (KeepBut w w' g none) ∧ Aside0 (Below w0.heap.size w0 w'))
 case atStart => exact ⟨(y184), (0), (t190), (t191), (t192), vv, H', ⟨Nat.le_refl _⟩, ⟨by (with_reducible repeat (first | apply Kd.R_alloc | apply Kd.R_drewN | apply Kd.R_drew)); exact Kd.R_mono HO186.out (fun _ hk => ⟨hk.2, hk.1.2⟩)⟩, ⟨by (with_reducible repeat (first | apply Kd.R_alloc | apply Kd.R_drewN | apply Kd.R_drew)); exact Kd.R_mono HO189.out (fun _ hk => ⟨hk.1.2, hk.2⟩)⟩, ⟨kb BK183⟩, ⟨si28 HI0⟩, ⟨ke HK⟩, ⟨be HB⟩⟩
 case round =>
  clear H'
  try clear c1
  try clear p2
  obtain ⟨x9_1, x11_1, x1000_1, x1001_1, x1002_1, rfl, HA, HK1, HO_9, HO_10, BK183, HI0, HK, HB⟩ := hrel
  cases gk with
  | zero => exact absurd HA.out (by simp [spec_l01Over.l0])
  | succ k1 =>
   have H := HA.out
   clear HA
   simp only [spec_l01Over.l0] at H
   by_cases c10 : x11_1 < (t187.length : Int)
   ·rw [if_pos c10] at H
    have c10b0 : decide (x11_1 < (t187.length : Int)) = true := decide_eq_true c10
    clear c10
    by_cases c11 : 0 ≤ x11_1
    ·rw [if_pos c11] at H
     have c11b0 : decide (0 ≤ x11_1) = true := decide_eq_true c11
     have c11b1 : 0 ≤ x11_1 := c11
     clear c11
     replace H := Option.bind_eq_some_iff.mp H
     obtain ⟨t194, A120, H⟩ := H
     try dsimp only at H
     have A12 := am A120
     clear A120
     by_cases c13 : t194 ≤ (wrap64 (a2 * a2))
     ·rw [if_pos c13] at H
      have c13b0 : decide (t194 ≤ (wrap64 (a2 * a2))) = true := decide_eq_true c13
      clear c13
      replace H := Option.bind_eq_some_iff.mp H
      obtain ⟨⟨t196, t197, t198, t199⟩, A140, H⟩ := H
      try dsimp only at H
      have A14 := am A140
      clear A140
      by_cases c15 : t196 < a3
      ·rw [if_pos c15] at H
       have c15b0 : decide (t196 < a3) = true := decide_eq_true c15
       clear c15
       by_cases c16 : x9_1.length < 70368744177664
       ·rw [if_pos c16] at H
        have LMc16 := am c16
        clear c16
        obtain ⟨y201, hy201⟩ : ∃ y_ : List (S36), y_ = (x9_1 ++ [(⟨(rd_T36 t187 x11_1).f0, (rd_T36 t187 x11_1).f1⟩ : S36)]) := ⟨_, rfl⟩
        replace H : (spec_l01Over.l0 k1 a2 a3 y201 t187 (wrap64 (x11_1 + 1)) t197 t198 t199 a1_0 a1_1) = some (r1, r2, r3, r4) := by first | (rw [hy201]; with_reducible exact H) | (have H2_ := (Option.bind_some _ _).symm.trans H; rw [hy201]; with_reducible exact H2_) | (have H2_ := (Option.bind_some _ _).symm.trans H; with_reducible exact H2_) | with_reducible exact H | (rw [hy201]; exact H) | exact H
        have Ny201 := am hy201
        clear hy201
        have H' := am H
        clear H
        obtain ⟨Ao17, co17, eo17⟩ := Kd.R_slice HO_10.out
        subst eo17
        try go_wp2
        have n0_ := am (Kd.R_drew HO_9.out)
        have n1_ := am (Kd.R_drew HO_10.out)
        have n2_ := am (blk_drew BK183.out)
        have n3_ := am (IsS28.drew HI0.out)
        have n4_ := am (keep_drew HK.out)
        have n5_ := am (below_drew1 HB.out)
        clear HO_9
        clear HO_10
        clear BK183
        clear HI0
        clear HK
        clear HB
        have HO_9 := n0_
        have HO_10 := n1_
        have BK183 := n2_
        have HI0 := n3_
        have HK := n4_
        have HB := n5_
        clear n0_ n1_ n2_ n3_ n4_ n5_
        have p193 : 0 ≤ (x11_1 : Int) := of_decide_eq_true (by first | (with_reducible assumption) | assumption)
        have q193 : x11_1 < (t187.length : Int) := of_decide_eq_true (by first | (with_reducible assumption) | assumption)
        obtain ⟨ad193, e193, hx193_0, hx193_1⟩ := at_T36 (Kd.R_reads' HO_10.out).2.2 x11_1 p193 q193
        cases e193
        replace p193 := eq_true p193
        replace q193 := eq_true q193
        have p195 : 0 ≤ (x11_1 : Int) := of_decide_eq_true (by first | (with_reducible assumption) | assumption)
        have q195 : x11_1 < (t187.length : Int) := of_decide_eq_true (by first | (with_reducible assumption) | assumption)
        obtain ⟨ad195, e195, hx195_0, hx195_1⟩ := at_T36 (Kd.R_reads' HO_10.out).2.2 x11_1 p195 q195
        obtain rfl : ad193 = ad195 := (by injection e195)
        replace p195 := eq_true p195
        replace q195 := eq_true q195
        refine start_ (n := 20) (S := fun w' => w'.cell? ⟨gb183, 0, none⟩ = some (.int .i8 a1_0) ∧ w'.cell? ⟨gb183, 1, none⟩ = some (.int .i8 a1_1) ∧ w'.cell? (ad193.add ((x11_1).toNat * 2)) = some (.int .i8 ((rd_T36 t187 x11_1).f0)) ∧ w'.cell? ⟨(ad193.add ((x11_1).toNat * 2)).block, (ad193.add ((x11_1).toNat * 2)).off + 1, none⟩ = some (.int .i8 ((rd_T36 t187 x11_1).f1)) ∧ w'.cell? (ad193.add ((x11_1).toNat * 2)) = some (.int .i8 ((rd_T36 t187 x11_1).f0)) ∧ w'.cell? ⟨(ad193.add ((x11_1).toNat * 2)).block, (ad193.add ((x11_1).toNat * 2)).off + 1, none⟩ = some (.int .i8 ((rd_T36 t187 x11_1).f1))) (ds := []) #[false, false, false, false, false, false, false, false, false, false, false, false, false, false, false, false, false, false, false, false] (by kernel_rfl) rfl rfl ⟨(blk_cell BK183.out 0).trans rfl, (blk_cell BK183.out 1).trans rfl, hx193_0, hx193_1, hx195_0, hx195_1⟩ (fun hHeld => ?_); refine with_tabW spec_l01Over.tab6 spec_l01Over.bits6 (fun HT_ HW_ => ?_)
        generalize wr.drew = w18 at HO_9 HO_10 BK183 HI0 HK HB hx193_0 hx193_1 hx195_0 hx195_1 hHeld ⊢
        refine pS (i := 0) (some 21) #[true, false, false, false, false, false, false, false, false, false, false, false, false, false, false, false, false, false, false, false] (any_of HT_.out (by kernel_rfl)) ?_
        refine pS (i := 1) (some 22) #[true, true, false, false, false, false, false, false, false, false, false, false, false, false, false, false, false, false, false, false] (any_of HT_.out (by kernel_rfl)) ?_
        refine pS (i := 2) (some 23) #[true, true, true, false, false, false, false, false, false, false, false, false, false, false, false, false, false, false, false, false] (any_of HT_.out (by kernel_rfl)) ?_
        refine pS (i := 6) (some 27) #[true, true, true, false, false, false, true, false, false, false, false, false, false, false, false, false, false, false, false, false] (any_of HT_.out (by kernel_rfl)) ?_
        refine pS (i := 7) (some 28) #[true, true, true, false, false, false, true, true, false, false, false, false, false, false, false, false, false, false, false, false] (any_of HT_.out (by kernel_rfl)) ?_
        refine pS (i := 8) (some 29) #[true, true, true, false, false, false, true, true, true, false, false, false, false, false, false, false, false, false, false, false] (any_of HT_.out (by kernel_rfl)) ?_
        refine tS (i := 3) (some 24) #[true, true, true, true, false, false, true, true, true, false, false, false, false, false, false, false, false, false, false, false] (take_ofW HT_.out HW_.out (by kernel_rfl)) hHeld ?_
        refine tS (i := 4) (some 25) #[true, true, true, true, true, false, true, true, true, false, false, false, false, false, false, false, false, false, false, false] (take_ofW HT_.out HW_.out (by kernel_rfl)) hHeld ?_
        refine one_ (i := 5) (N := some 26) #[true, true, true, true, true, true, true, true, true, false, false, false, false, false, false, false, false, false, false, false] rfl rfl (one_of HT_.out (by kernel_rfl)) (by decide) (fun K hK => ?_)
        refine goes_ Try.func170 (by kernel_rfl) rfl #[.agg #[.int .i8 ((rd_T36 t187 x11_1).f0), .int .i8 ((rd_T36 t187 x11_1).f1)], .agg #[.int .i8 a1_0, .int .i8 a1_1]] (by rfl) rfl rfl (by (try simp only [List.map_toArray, List.map_cons, List.map_nil]); first | done | rfl | (simp only [List.length_drop, List.length_take]; rfl)) ?_
        with_reducible refine (spec_l01Far.calls ((rd_T36 t187 x11_1).f0) ((rd_T36 t187 x11_1).f1) a1_0 a1_1 t194 _ A12.out).mono ?_
        rintro e w19 ⟨rfl, hb⟩
        have HS2_ := (hb.cell (World.block_lt_of_cell? _ _ (hHeld.2.2.1))).trans (hHeld.2.2.1)
        have HS3_ := (hb.cell (World.block_lt_of_cell? _ _ (hHeld.2.2.2.1))).trans (hHeld.2.2.2.1)
        have HS4_ := (hb.cell (World.block_lt_of_cell? _ _ (hHeld.2.2.2.2.1))).trans (hHeld.2.2.2.2.1)
        have HS5_ := (hb.cell (World.block_lt_of_cell? _ _ (hHeld.2.2.2.2.2))).trans (hHeld.2.2.2.2.2)
        refine ⟨_, rfl, ?_⟩
        have n0_ := am (Kd.R_below (kr HO_9) hb)
        have n1_ := am (Kd.R_below (kr HO_10) hb)
        have n2_ := bB BK183 hb
        have n3_ := am (IsS28.below (si28 HI0) hb)
        have n4_ := am (KeepBut.trans (ke HK) (KeepBut.of_below hb g none) (.inl rfl))
        have n5_ := am (below_step (be HB) hb)
        clear HO_9
        clear HO_10
        clear BK183
        clear HI0
        clear HK
        clear HB
        have HO_9 := n0_
        have HO_10 := n1_
        have BK183 := n2_
        have HI0 := n3_
        have HK := n4_
        have HB := n5_
        clear n0_ n1_ n2_ n3_ n4_ n5_
        (try clear hb)
        (try clear hb2)
        (try clear hk)
        (try clear hi)
        refine hK.out _ _ ⟨(blk_cell BK183.out 0).trans rfl, (blk_cell BK183.out 1).trans rfl, HS2_, HS3_, HS4_, HS5_⟩ (fun hHeld => ?_)
        clear hK K
        refine norm_ (a' := ?_) ?_ ?_
        rotate_left
        ·show Act.put _ (some 26) _ = _
         simp only [Act.put, List.setIfInBounds_toArray, List.set_cons_zero, List.set_cons_succ, i64_w, i32_w]
         rfl
        refine pS (i := 9) (some 30) #[true, true, true, true, true, true, true, true, true, true, false, false, false, false, false, false, false, false, false, false] (any_of HT_.out (by kernel_rfl)) ?_
        refine pS (i := 10) (some 31) #[true, true, true, true, true, true, true, true, true, true, true, false, false, false, false, false, false, false, false, false] (any_of HT_.out (by kernel_rfl)) ?_
        refine pS (i := 11) (some 32) #[true, true, true, true, true, true, true, true, true, true, true, true, false, false, false, false, false, false, false, false] (any_of HT_.out (by kernel_rfl)) ?_
        refine pS (i := 12) (some 33) #[true, true, true, true, true, true, true, true, true, true, true, true, true, false, false, false, false, false, false, false] (any_of HT_.out (by kernel_rfl)) ?_
        refine pS (i := 13) (some 34) #[true, true, true, true, true, true, true, true, true, true, true, true, true, true, false, false, false, false, false, false] (any_of HT_.out (by kernel_rfl)) ?_
        refine pS (i := 14) (some 35) #[true, true, true, true, true, true, true, true, true, true, true, true, true, true, true, false, false, false, false, false] (any_of HT_.out (by kernel_rfl)) ?_
        refine pS (i := 17) (some 38) #[true, true, true, true, true, true, true, true, true, true, true, true, true, true, true, false, false, true, false, false] (any_of HT_.out (by kernel_rfl)) ?_
        refine tS (i := 15) (some 36) #[true, true, true, true, true, true, true, true, true, true, true, true, true, true, true, true, false, true, false, false] (take_ofW HT_.out HW_.out (by kernel_rfl)) hHeld ?_
        refine one_ (i := 16) (N := some 37) #[true, true, true, true, true, true, true, true, true, true, true, true, true, true, true, true, true, true, false, false] rfl rfl (one_of HT_.out (by kernel_rfl)) (by decide) (fun K hK => ?_)
        refine goes_ Try.func110 (by kernel_rfl) rfl #[.pointer (some ⟨g, 0, none⟩), .agg #[.int .i8 ((rd_T36 t187 x11_1).f0), .int .i8 ((rd_T36 t187 x11_1).f1)]] (by rfl) rfl rfl (by (try simp only [List.map_toArray, List.map_cons, List.map_nil]); first | done | rfl | (simp only [List.length_drop, List.length_take]; rfl)) ?_
        with_reducible refine (spec_l01Depth.calls g x1000_1 x1001_1 x1002_1 ((rd_T36 t187 x11_1).f0) ((rd_T36 t187 x11_1).f1) t196 t197 t198 t199 w0 _ ?side1 ?side2 A14.out).mono ?_
        (case side1 => exact si28 HI0)
        (case side2 => exact be HB)
        rintro e w20 ⟨rfl, hi, hb, hk⟩
        have HS2_ := keep_cell hk (hHeld.2.2.1) (by first | (rw [add_block]; exact Kd.own_blk (IsS28.own_ne HI0.out HO_10.out (by decide))) | (show (Addr.add _ _).block ≠ _; rw [add_block]; exact Kd.own_blk (IsS28.own_ne HI0.out HO_10.out (by decide))) | exact Kd.own_blk (IsS28.own_ne HI0.out HO_10.out (by decide)))
        have HS3_ := keep_cell hk (hHeld.2.2.2.1) (by first | (rw [add_block]; exact Kd.own_blk (IsS28.own_ne HI0.out HO_10.out (by decide))) | (show (Addr.add _ _).block ≠ _; rw [add_block]; exact Kd.own_blk (IsS28.own_ne HI0.out HO_10.out (by decide))) | exact Kd.own_blk (IsS28.own_ne HI0.out HO_10.out (by decide)))
        have HS4_ := keep_cell hk (hHeld.2.2.2.2.1) (by first | (rw [add_block]; exact Kd.own_blk (IsS28.own_ne HI0.out HO_10.out (by decide))) | (show (Addr.add _ _).block ≠ _; rw [add_block]; exact Kd.own_blk (IsS28.own_ne HI0.out HO_10.out (by decide))) | exact Kd.own_blk (IsS28.own_ne HI0.out HO_10.out (by decide)))
        have HS5_ := keep_cell hk (hHeld.2.2.2.2.2) (by first | (rw [add_block]; exact Kd.own_blk (IsS28.own_ne HI0.out HO_10.out (by decide))) | (show (Addr.add _ _).block ≠ _; rw [add_block]; exact Kd.own_blk (IsS28.own_ne HI0.out HO_10.out (by decide))) | exact Kd.own_blk (IsS28.own_ne HI0.out HO_10.out (by decide)))
        refine ⟨_, rfl, ?_⟩
        have n0_ := am (Kd.R_mono (Kd.R_keep (IsS28.apart (show IsS28 w0 _ g x1000_1 x1001_1 x1002_1 from si28 HI0) (kr HO_9) (by decide)) hk (fun _ h => h.2)) (fun _ h => h.1))
        have n1_ := am (Kd.R_mono (Kd.R_keep (IsS28.apart (show IsS28 w0 _ g x1000_1 x1001_1 x1002_1 from si28 HI0) (kr HO_10) (by decide)) hk (fun _ h => h.2)) (fun _ h => h.1))
        have n2_ := am (KeepBut.blk hk (g' := gb183) (o := .cells #[.int .i8 a1_0, .int .i8 a1_1] 36 (0, 0)) (kb BK183) NB183_0.out (by simp))
        have n3_ := am (KeepBut.trans (ke HK) hk (.inl rfl))
        have n4_ := am (hb)
        have n5_ := am (hi)
        clear HO_9
        clear HO_10
        clear BK183
        clear HK
        clear HB
        clear HI0
        have HO_9 := n0_
        have HO_10 := n1_
        have BK183 := n2_
        have HK := n3_
        have HB := n4_
        have HI0 := n5_
        clear n0_ n1_ n2_ n3_ n4_ n5_
        (try clear hb)
        (try clear hb2)
        (try clear hk)
        (try clear hi)
        refine hK.out _ _ ⟨(blk_cell BK183.out 0).trans rfl, (blk_cell BK183.out 1).trans rfl, HS2_, HS3_, HS4_, HS5_⟩ (fun hHeld => ?_)
        clear hK K
        refine norm_ (a' := ?_) ?_ ?_
        rotate_left
        ·show Act.put _ (some 37) _ = _
         simp only [Act.put, List.setIfInBounds_toArray, List.set_cons_zero, List.set_cons_succ, i64_w, i32_w]
         rfl
        refine pS (i := 18) (some 39) #[true, true, true, true, true, true, true, true, true, true, true, true, true, true, true, true, true, true, true, false] (any_of HT_.out (by kernel_rfl)) ?_
        refine pS (i := 19) (some 40) #[true, true, true, true, true, true, true, true, true, true, true, true, true, true, true, true, true, true, true, true] (any_of HT_.out (by kernel_rfl)) ?_
        refine done_ (done_of HT_.out (by kernel_rfl)) ?_
        have p200 : 0 ≤ (x11_1 : Int) := of_decide_eq_true (by first | (with_reducible assumption) | assumption)
        have q200 : x11_1 < (t187.length : Int) := of_decide_eq_true (by first | (with_reducible assumption) | assumption)
        obtain ⟨ad200, e200, hx200_0, hx200_1⟩ := at_T36 (Kd.R_reads' HO_10.out).2.2 x11_1 p200 q200
        obtain rfl : ad193 = ad200 := (by injection e200)
        replace p200 := eq_true p200
        replace q200 := eq_true q200
        try go_wp2_with (first | ((with_reducible refine gate_builtin (b := .append) (xs := #[.tmp 41, .tmp 46]) rfl ?_); at_builtin; refine Kd.R_append k36 w.heap.size rfl (.tmp 41) (.tmp 46) 56 36 (.agg #[(.int .i8 0), (.int .i8 0)]) 2 rfl Try.underlying56 info36 rfl (by decide) (by omega) u9 x9_1 (⟨(rd_T36 t187 x11_1).f0, (rd_T36 t187 x11_1).f1⟩ : S36) [.int .i8 ((rd_T36 t187 x11_1).f0), .int .i8 ((rd_T36 t187 x11_1).f1)] (fun k_ => some k_ ≠ (.slice (some ad193) t187.length co17 : Value).ownBlock ∧ k_ ≠ gb183) (fun _ => False) rfl rfl ?aP (fun _ hk => hk.elim) ?aF ?aO (Below.refl _ _) ?aS ?aL ?_; (case aP => exact k36_mkM _ _ _ (⟨(rd_T36 t187 x11_1).f0, (rd_T36 t187 x11_1).f1⟩ : S36)); (case aF => exact (fun k_ hk => ⟨Kd.fresh' (Kd.R_lt (kr HO_10)) k_ hk, Kd.freshB (g := gb183) (o := .cells #[.int .i8 a1_0, .int .i8 a1_1] 36 (0, 0)) (kb BK183) k_ hk⟩)); (case aO => exact (kr HO_9)); (case aS => exact (keep_size (w := w) (g := g) (row := none) (ke HK))); (case aL => have := LMc16.out; omega); intro v202 w21 ho hb hg hat; rw [← Ny201.out] at ho; have HO203 := am (ho); replace HO_10 := am (Kd.R_after (ok := (fun k_ => k_ ≠ gb183)) (by (with_reducible repeat (first | apply Kd.R_alloc | apply Kd.R_drewN | apply Kd.R_drew)); exact Kd.R_mono HO_10.out (fun _ hk => ⟨hk.2, hk.1⟩)) hg hat); replace BK183 := am (blk_grown (g := gb183) (o := .cells #[.int .i8 a1_0, .int .i8 a1_1] 36 (0, 0)) (kb BK183) hg (Kd.R_away HO_9.out (fun _ hk => hk.2))); replace HI0 := am (IsS28.grown (si28 HI0) hg (IsS28.own_ne HI0.out HO_9.out (by decide))); replace HB := am (below_weaken (be HB) HL.out hb); replace HK := am (KeepBut.trans (ke HK) (KeepBut.of_grown hg g) (Kd.R_base2 HO_9.out)); clear HO_9; clear ho hb hg hat))
        go_roundg k1
        case measure => have := HK1.out; omega
        case rel => exact ⟨(y201), (wrap64 (x11_1 + 1)), (t197), (t198), (t199), vv, H', ⟨by have := HK1.out; omega⟩, ⟨kr HO203⟩, ⟨by (with_reducible repeat (first | apply Kd.R_alloc | apply Kd.R_drewN | apply Kd.R_drew)); exact Kd.R_mono HO_10.out (fun _ hk => ⟨hk.2, hk.1⟩)⟩, ⟨kb BK183⟩, ⟨si28 HI0⟩, ⟨ke HK⟩, ⟨be HB⟩⟩
       ·rw [if_neg c16] at H
        exact absurd H (by simp)
      ·rw [if_neg c15] at H
       have c15b0 : decide (t196 < a3) = false := decide_eq_false c15
       clear c15
       have H' := am H
       clear H
       obtain ⟨Ao22, co22, eo22⟩ := Kd.R_slice HO_10.out
       subst eo22
       try go_wp2
       have n0_ := am (Kd.R_drew HO_9.out)
       have n1_ := am (Kd.R_drew HO_10.out)
       have n2_ := am (blk_drew BK183.out)
       have n3_ := am (IsS28.drew HI0.out)
       have n4_ := am (keep_drew HK.out)
       have n5_ := am (below_drew1 HB.out)
       clear HO_9
       clear HO_10
       clear BK183
       clear HI0
       clear HK
       clear HB
       have HO_9 := n0_
       have HO_10 := n1_
       have BK183 := n2_
       have HI0 := n3_
       have HK := n4_
       have HB := n5_
       clear n0_ n1_ n2_ n3_ n4_ n5_
       have p193 : 0 ≤ (x11_1 : Int) := of_decide_eq_true (by first | (with_reducible assumption) | assumption)
       have q193 : x11_1 < (t187.length : Int) := of_decide_eq_true (by first | (with_reducible assumption) | assumption)
       obtain ⟨ad193, e193, hx193_0, hx193_1⟩ := at_T36 (Kd.R_reads' HO_10.out).2.2 x11_1 p193 q193
       cases e193
       replace p193 := eq_true p193
       replace q193 := eq_true q193
       have p195 : 0 ≤ (x11_1 : Int) := of_decide_eq_true (by first | (with_reducible assumption) | assumption)
       have q195 : x11_1 < (t187.length : Int) := of_decide_eq_true (by first | (with_reducible assumption) | assumption)
       obtain ⟨ad195, e195, hx195_0, hx195_1⟩ := at_T36 (Kd.R_reads' HO_10.out).2.2 x11_1 p195 q195
       obtain rfl : ad193 = ad195 := (by injection e195)
       replace p195 := eq_true p195
       replace q195 := eq_true q195
       refine start_ (n := 20) (S := fun w' => w'.cell? ⟨gb183, 0, none⟩ = some (.int .i8 a1_0) ∧ w'.cell? ⟨gb183, 1, none⟩ = some (.int .i8 a1_1) ∧ w'.cell? (ad193.add ((x11_1).toNat * 2)) = some (.int .i8 ((rd_T36 t187 x11_1).f0)) ∧ w'.cell? ⟨(ad193.add ((x11_1).toNat * 2)).block, (ad193.add ((x11_1).toNat * 2)).off + 1, none⟩ = some (.int .i8 ((rd_T36 t187 x11_1).f1)) ∧ w'.cell? (ad193.add ((x11_1).toNat * 2)) = some (.int .i8 ((rd_T36 t187 x11_1).f0)) ∧ w'.cell? ⟨(ad193.add ((x11_1).toNat * 2)).block, (ad193.add ((x11_1).toNat * 2)).off + 1, none⟩ = some (.int .i8 ((rd_T36 t187 x11_1).f1))) (ds := []) #[false, false, false, false, false, false, false, false, false, false, false, false, false, false, false, false, false, false, false, false] (by kernel_rfl) rfl rfl ⟨(blk_cell BK183.out 0).trans rfl, (blk_cell BK183.out 1).trans rfl, hx193_0, hx193_1, hx195_0, hx195_1⟩ (fun hHeld => ?_); refine with_tabW spec_l01Over.tab6 spec_l01Over.bits6 (fun HT_ HW_ => ?_)
       generalize wr.drew = w23 at HO_9 HO_10 BK183 HI0 HK HB hx193_0 hx193_1 hx195_0 hx195_1 hHeld ⊢
       refine pS (i := 0) (some 21) #[true, false, false, false, false, false, false, false, false, false, false, false, false, false, false, false, false, false, false, false] (any_of HT_.out (by kernel_rfl)) ?_
       refine pS (i := 1) (some 22) #[true, true, false, false, false, false, false, false, false, false, false, false, false, false, false, false, false, false, false, false] (any_of HT_.out (by kernel_rfl)) ?_
       refine pS (i := 2) (some 23) #[true, true, true, false, false, false, false, false, false, false, false, false, false, false, false, false, false, false, false, false] (any_of HT_.out (by kernel_rfl)) ?_
       refine pS (i := 6) (some 27) #[true, true, true, false, false, false, true, false, false, false, false, false, false, false, false, false, false, false, false, false] (any_of HT_.out (by kernel_rfl)) ?_
       refine pS (i := 7) (some 28) #[true, true, true, false, false, false, true, true, false, false, false, false, false, false, false, false, false, false, false, false] (any_of HT_.out (by kernel_rfl)) ?_
       refine pS (i := 8) (some 29) #[true, true, true, false, false, false, true, true, true, false, false, false, false, false, false, false, false, false, false, false] (any_of HT_.out (by kernel_rfl)) ?_
       refine tS (i := 3) (some 24) #[true, true, true, true, false, false, true, true, true, false, false, false, false, false, false, false, false, false, false, false] (take_ofW HT_.out HW_.out (by kernel_rfl)) hHeld ?_
       refine tS (i := 4) (some 25) #[true, true, true, true, true, false, true, true, true, false, false, false, false, false, false, false, false, false, false, false] (take_ofW HT_.out HW_.out (by kernel_rfl)) hHeld ?_
       refine one_ (i := 5) (N := some 26) #[true, true, true, true, true, true, true, true, true, false, false, false, false, false, false, false, false, false, false, false] rfl rfl (one_of HT_.out (by kernel_rfl)) (by decide) (fun K hK => ?_)
       refine goes_ Try.func170 (by kernel_rfl) rfl #[.agg #[.int .i8 ((rd_T36 t187 x11_1).f0), .int .i8 ((rd_T36 t187 x11_1).f1)], .agg #[.int .i8 a1_0, .int .i8 a1_1]] (by rfl) rfl rfl (by (try simp only [List.map_toArray, List.map_cons, List.map_nil]); first | done | rfl | (simp only [List.length_drop, List.length_take]; rfl)) ?_
       with_reducible refine (spec_l01Far.calls ((rd_T36 t187 x11_1).f0) ((rd_T36 t187 x11_1).f1) a1_0 a1_1 t194 _ A12.out).mono ?_
       rintro e w24 ⟨rfl, hb⟩
       have HS2_ := (hb.cell (World.block_lt_of_cell? _ _ (hHeld.2.2.1))).trans (hHeld.2.2.1)
       have HS3_ := (hb.cell (World.block_lt_of_cell? _ _ (hHeld.2.2.2.1))).trans (hHeld.2.2.2.1)
       have HS4_ := (hb.cell (World.block_lt_of_cell? _ _ (hHeld.2.2.2.2.1))).trans (hHeld.2.2.2.2.1)
       have HS5_ := (hb.cell (World.block_lt_of_cell? _ _ (hHeld.2.2.2.2.2))).trans (hHeld.2.2.2.2.2)
       refine ⟨_, rfl, ?_⟩
       have n0_ := am (Kd.R_below (kr HO_9) hb)
       have n1_ := am (Kd.R_below (kr HO_10) hb)
       have n2_ := bB BK183 hb
       have n3_ := am (IsS28.below (si28 HI0) hb)
       have n4_ := am (KeepBut.trans (ke HK) (KeepBut.of_below hb g none) (.inl rfl))
       have n5_ := am (below_step (be HB) hb)
       clear HO_9
       clear HO_10
       clear BK183
       clear HI0
       clear HK
       clear HB
       have HO_9 := n0_
       have HO_10 := n1_
       have BK183 := n2_
       have HI0 := n3_
       have HK := n4_
       have HB := n5_
       clear n0_ n1_ n2_ n3_ n4_ n5_
       (try clear hb)
       (try clear hb2)
       (try clear hk)
       (try clear hi)
       refine hK.out _ _ ⟨(blk_cell BK183.out 0).trans rfl, (blk_cell BK183.out 1).trans rfl, HS2_, HS3_, HS4_, HS5_⟩ (fun hHeld => ?_)
       clear hK K
       refine norm_ (a' := ?_) ?_ ?_
       rotate_left
       ·show Act.put _ (some 26) _ = _
        simp only [Act.put, List.setIfInBounds_toArray, List.set_cons_zero, List.set_cons_succ, i64_w, i32_w]
        rfl
       refine pS (i := 9) (some 30) #[true, true, true, true, true, true, true, true, true, true, false, false, false, false, false, false, false, false, false, false] (any_of HT_.out (by kernel_rfl)) ?_
       refine pS (i := 10) (some 31) #[true, true, true, true, true, true, true, true, true, true, true, false, false, false, false, false, false, false, false, false] (any_of HT_.out (by kernel_rfl)) ?_
       refine pS (i := 11) (some 32) #[true, true, true, true, true, true, true, true, true, true, true, true, false, false, false, false, false, false, false, false] (any_of HT_.out (by kernel_rfl)) ?_
       refine pS (i := 12) (some 33) #[true, true, true, true, true, true, true, true, true, true, true, true, true, false, false, false, false, false, false, false] (any_of HT_.out (by kernel_rfl)) ?_
       refine pS (i := 13) (some 34) #[true, true, true, true, true, true, true, true, true, true, true, true, true, true, false, false, false, false, false, false] (any_of HT_.out (by kernel_rfl)) ?_
       refine pS (i := 14) (some 35) #[true, true, true, true, true, true, true, true, true, true, true, true, true, true, true, false, false, false, false, false] (any_of HT_.out (by kernel_rfl)) ?_
       refine pS (i := 17) (some 38) #[true, true, true, true, true, true, true, true, true, true, true, true, true, true, true, false, false, true, false, false] (any_of HT_.out (by kernel_rfl)) ?_
       refine tS (i := 15) (some 36) #[true, true, true, true, true, true, true, true, true, true, true, true, true, true, true, true, false, true, false, false] (take_ofW HT_.out HW_.out (by kernel_rfl)) hHeld ?_
       refine one_ (i := 16) (N := some 37) #[true, true, true, true, true, true, true, true, true, true, true, true, true, true, true, true, true, true, false, false] rfl rfl (one_of HT_.out (by kernel_rfl)) (by decide) (fun K hK => ?_)
       refine goes_ Try.func110 (by kernel_rfl) rfl #[.pointer (some ⟨g, 0, none⟩), .agg #[.int .i8 ((rd_T36 t187 x11_1).f0), .int .i8 ((rd_T36 t187 x11_1).f1)]] (by rfl) rfl rfl (by (try simp only [List.map_toArray, List.map_cons, List.map_nil]); first | done | rfl | (simp only [List.length_drop, List.length_take]; rfl)) ?_
       with_reducible refine (spec_l01Depth.calls g x1000_1 x1001_1 x1002_1 ((rd_T36 t187 x11_1).f0) ((rd_T36 t187 x11_1).f1) t196 t197 t198 t199 w0 _ ?side1 ?side2 A14.out).mono ?_
       (case side1 => exact si28 HI0)
       (case side2 => exact be HB)
       rintro e w25 ⟨rfl, hi, hb, hk⟩
       have HS2_ := keep_cell hk (hHeld.2.2.1) (by first | (rw [add_block]; exact Kd.own_blk (IsS28.own_ne HI0.out HO_10.out (by decide))) | (show (Addr.add _ _).block ≠ _; rw [add_block]; exact Kd.own_blk (IsS28.own_ne HI0.out HO_10.out (by decide))) | exact Kd.own_blk (IsS28.own_ne HI0.out HO_10.out (by decide)))
       have HS3_ := keep_cell hk (hHeld.2.2.2.1) (by first | (rw [add_block]; exact Kd.own_blk (IsS28.own_ne HI0.out HO_10.out (by decide))) | (show (Addr.add _ _).block ≠ _; rw [add_block]; exact Kd.own_blk (IsS28.own_ne HI0.out HO_10.out (by decide))) | exact Kd.own_blk (IsS28.own_ne HI0.out HO_10.out (by decide)))
       have HS4_ := keep_cell hk (hHeld.2.2.2.2.1) (by first | (rw [add_block]; exact Kd.own_blk (IsS28.own_ne HI0.out HO_10.out (by decide))) | (show (Addr.add _ _).block ≠ _; rw [add_block]; exact Kd.own_blk (IsS28.own_ne HI0.out HO_10.out (by decide))) | exact Kd.own_blk (IsS28.own_ne HI0.out HO_10.out (by decide)))
       have HS5_ := keep_cell hk (hHeld.2.2.2.2.2) (by first | (rw [add_block]; exact Kd.own_blk (IsS28.own_ne HI0.out HO_10.out (by decide))) | (show (Addr.add _ _).block ≠ _; rw [add_block]; exact Kd.own_blk (IsS28.own_ne HI0.out HO_10.out (by decide))) | exact Kd.own_blk (IsS28.own_ne HI0.out HO_10.out (by decide)))
       refine ⟨_, rfl, ?_⟩
       have n0_ := am (Kd.R_mono (Kd.R_keep (IsS28.apart (show IsS28 w0 _ g x1000_1 x1001_1 x1002_1 from si28 HI0) (kr HO_9) (by decide)) hk (fun _ h => h.2)) (fun _ h => h.1))
       have n1_ := am (Kd.R_mono (Kd.R_keep (IsS28.apart (show IsS28 w0 _ g x1000_1 x1001_1 x1002_1 from si28 HI0) (kr HO_10) (by decide)) hk (fun _ h => h.2)) (fun _ h => h.1))
       have n2_ := am (KeepBut.blk hk (g' := gb183) (o := .cells #[.int .i8 a1_0, .int .i8 a1_1] 36 (0, 0)) (kb BK183) NB183_0.out (by simp))
       have n3_ := am (KeepBut.trans (ke HK) hk (.inl rfl))
       have n4_ := am (hb)
       have n5_ := am (hi)
       clear HO_9
       clear HO_10
       clear BK183
       clear HK
       clear HB
       clear HI0
       have HO_9 := n0_
       have HO_10 := n1_
       have BK183 := n2_
       have HK := n3_
       have HB := n4_
       have HI0 := n5_
       clear n0_ n1_ n2_ n3_ n4_ n5_
       (try clear hb)
       (try clear hb2)
       (try clear hk)
       (try clear hi)
       refine hK.out _ _ ⟨(blk_cell BK183.out 0).trans rfl, (blk_cell BK183.out 1).trans rfl, HS2_, HS3_, HS4_, HS5_⟩ (fun hHeld => ?_)
       clear hK K
       refine norm_ (a' := ?_) ?_ ?_
       rotate_left
       ·show Act.put _ (some 37) _ = _
        simp only [Act.put, List.setIfInBounds_toArray, List.set_cons_zero, List.set_cons_succ, i64_w, i32_w]
        rfl
       refine pS (i := 18) (some 39) #[true, true, true, true, true, true, true, true, true, true, true, true, true, true, true, true, true, true, true, false] (any_of HT_.out (by kernel_rfl)) ?_
       refine pS (i := 19) (some 40) #[true, true, true, true, true, true, true, true, true, true, true, true, true, true, true, true, true, true, true, true] (any_of HT_.out (by kernel_rfl)) ?_
       refine done_ (done_of HT_.out (by kernel_rfl)) ?_
       try go_wp2
       go_roundg k1
       case measure => have := HK1.out; omega
       case rel => exact ⟨(x9_1), (wrap64 (x11_1 + 1)), (t197), (t198), (t199), vv, H', ⟨by have := HK1.out; omega⟩, ⟨kr HO_9⟩, ⟨kr HO_10⟩, ⟨kb BK183⟩, ⟨si28 HI0⟩, ⟨ke HK⟩, ⟨be HB⟩⟩
     ·rw [if_neg c13] at H
      have c13b0 : decide (t194 ≤ (wrap64 (a2 * a2))) = false := decide_eq_false c13
      clear c13
      have H' := am H
      clear H
      obtain ⟨Ao26, co26, eo26⟩ := Kd.R_slice HO_10.out
      subst eo26
      try go_wp2
      have n0_ := am (Kd.R_drew HO_9.out)
      have n1_ := am (Kd.R_drew HO_10.out)
      have n2_ := am (blk_drew BK183.out)
      have n3_ := am (IsS28.drew HI0.out)
      have n4_ := am (keep_drew HK.out)
      have n5_ := am (below_drew1 HB.out)
      clear HO_9
      clear HO_10
      clear BK183
      clear HI0
      clear HK
      clear HB
      have HO_9 := n0_
      have HO_10 := n1_
      have BK183 := n2_
      have HI0 := n3_
      have HK := n4_
      have HB := n5_
      clear n0_ n1_ n2_ n3_ n4_ n5_
      have p193 : 0 ≤ (x11_1 : Int) := of_decide_eq_true (by first | (with_reducible assumption) | assumption)
      have q193 : x11_1 < (t187.length : Int) := of_decide_eq_true (by first | (with_reducible assumption) | assumption)
      obtain ⟨ad193, e193, hx193_0, hx193_1⟩ := at_T36 (Kd.R_reads' HO_10.out).2.2 x11_1 p193 q193
      cases e193
      replace p193 := eq_true p193
      replace q193 := eq_true q193
      refine start_ (n := 20) (S := fun w' => w'.cell? ⟨gb183, 0, none⟩ = some (.int .i8 a1_0) ∧ w'.cell? ⟨gb183, 1, none⟩ = some (.int .i8 a1_1) ∧ w'.cell? (ad193.add ((x11_1).toNat * 2)) = some (.int .i8 ((rd_T36 t187 x11_1).f0)) ∧ w'.cell? ⟨(ad193.add ((x11_1).toNat * 2)).block, (ad193.add ((x11_1).toNat * 2)).off + 1, none⟩ = some (.int .i8 ((rd_T36 t187 x11_1).f1))) (ds := []) #[false, false, false, false, false, false, false, false, false, false, false, false, false, false, false, false, false, false, false, false] (by kernel_rfl) rfl rfl ⟨(blk_cell BK183.out 0).trans rfl, (blk_cell BK183.out 1).trans rfl, hx193_0, hx193_1⟩ (fun hHeld => ?_); refine with_tabW spec_l01Over.tab6 spec_l01Over.bits6 (fun HT_ HW_ => ?_)
      generalize wr.drew = w27 at HO_9 HO_10 BK183 HI0 HK HB hx193_0 hx193_1 hHeld ⊢
      refine pS (i := 0) (some 21) #[true, false, false, false, false, false, false, false, false, false, false, false, false, false, false, false, false, false, false, false] (any_of HT_.out (by kernel_rfl)) ?_
      refine pS (i := 1) (some 22) #[true, true, false, false, false, false, false, false, false, false, false, false, false, false, false, false, false, false, false, false] (any_of HT_.out (by kernel_rfl)) ?_
      refine pS (i := 2) (some 23) #[true, true, true, false, false, false, false, false, false, false, false, false, false, false, false, false, false, false, false, false] (any_of HT_.out (by kernel_rfl)) ?_
      refine pS (i := 6) (some 27) #[true, true, true, false, false, false, true, false, false, false, false, false, false, false, false, false, false, false, false, false] (any_of HT_.out (by kernel_rfl)) ?_
      refine pS (i := 7) (some 28) #[true, true, true, false, false, false, true, true, false, false, false, false, false, false, false, false, false, false, false, false] (any_of HT_.out (by kernel_rfl)) ?_
      refine pS (i := 8) (some 29) #[true, true, true, false, false, false, true, true, true, false, false, false, false, false, false, false, false, false, false, false] (any_of HT_.out (by kernel_rfl)) ?_
      refine tS (i := 3) (some 24) #[true, true, true, true, false, false, true, true, true, false, false, false, false, false, false, false, false, false, false, false] (take_ofW HT_.out HW_.out (by kernel_rfl)) hHeld ?_
      refine tS (i := 4) (some 25) #[true, true, true, true, true, false, true, true, true, false, false, false, false, false, false, false, false, false, false, false] (take_ofW HT_.out HW_.out (by kernel_rfl)) hHeld ?_
      refine one_ (i := 5) (N := some 26) #[true, true, true, true, true, true, true, true, true, false, false, false, false, false, false, false, false, false, false, false] rfl rfl (one_of HT_.out (by kernel_rfl)) (by decide) (fun K hK => ?_)
      refine goes_ Try.func170 (by kernel_rfl) rfl #[.agg #[.int .i8 ((rd_T36 t187 x11_1).f0), .int .i8 ((rd_T36 t187 x11_1).f1)], .agg #[.int .i8 a1_0, .int .i8 a1_1]] (by rfl) rfl rfl (by (try simp only [List.map_toArray, List.map_cons, List.map_nil]); first | done | rfl | (simp only [List.length_drop, List.length_take]; rfl)) ?_
      with_reducible refine (spec_l01Far.calls ((rd_T36 t187 x11_1).f0) ((rd_T36 t187 x11_1).f1) a1_0 a1_1 t194 _ A12.out).mono ?_
      rintro e w28 ⟨rfl, hb⟩
      have HS2_ := (hb.cell (World.block_lt_of_cell? _ _ (hHeld.2.2.1))).trans (hHeld.2.2.1)
      have HS3_ := (hb.cell (World.block_lt_of_cell? _ _ (hHeld.2.2.2))).trans (hHeld.2.2.2)
      refine ⟨_, rfl, ?_⟩
      have n0_ := am (Kd.R_below (kr HO_9) hb)
      have n1_ := am (Kd.R_below (kr HO_10) hb)
      have n2_ := bB BK183 hb
      have n3_ := am (IsS28.below (si28 HI0) hb)
      have n4_ := am (KeepBut.trans (ke HK) (KeepBut.of_below hb g none) (.inl rfl))
      have n5_ := am (below_step (be HB) hb)
      clear HO_9
      clear HO_10
      clear BK183
      clear HI0
      clear HK
      clear HB
      have HO_9 := n0_
      have HO_10 := n1_
      have BK183 := n2_
      have HI0 := n3_
      have HK := n4_
      have HB := n5_
      clear n0_ n1_ n2_ n3_ n4_ n5_
      (try clear hb)
      (try clear hb2)
      (try clear hk)
      (try clear hi)
      refine hK.out _ _ ⟨(blk_cell BK183.out 0).trans rfl, (blk_cell BK183.out 1).trans rfl, HS2_, HS3_⟩ (fun hHeld => ?_)
      clear hK K
      refine norm_ (a' := ?_) ?_ ?_
      rotate_left
      ·show Act.put _ (some 26) _ = _
       simp only [Act.put, List.setIfInBounds_toArray, List.set_cons_zero, List.set_cons_succ, i64_w, i32_w]
       rfl
      refine pS (i := 9) (some 30) #[true, true, true, true, true, true, true, true, true, true, false, false, false, false, false, false, false, false, false, false] (any_of HT_.out (by kernel_rfl)) ?_
      refine pS (i := 10) (some 31) #[true, true, true, true, true, true, true, true, true, true, true, false, false, false, false, false, false, false, false, false] (any_of HT_.out (by kernel_rfl)) ?_
      refine pure_ (i := 11) (N := some 32) (v := undef) (a' := ?_) #[true, true, true, true, true, true, true, true, true, true, true, true, false, false, false, false, false, false, false, false] rfl rfl (any_of HT_.out (by kernel_rfl)) (fun _ _ _ h => h) (Or.inr ⟨by rfl, rfl⟩) ?_ ?_
      rotate_left
      ·simp only [Act.put, List.setIfInBounds_toArray, List.set_cons_zero, List.set_cons_succ, i64_w, i32_w]
       rfl
      refine pure_ (i := 12) (N := some 33) (v := undef) (a' := ?_) #[true, true, true, true, true, true, true, true, true, true, true, true, true, false, false, false, false, false, false, false] rfl rfl (any_of HT_.out (by kernel_rfl)) (fun _ _ _ h => h) (Or.inr ⟨by rfl, rfl⟩) ?_ ?_
      rotate_left
      ·simp only [Act.put, List.setIfInBounds_toArray, List.set_cons_zero, List.set_cons_succ, i64_w, i32_w]
       rfl
      refine pure_ (i := 13) (N := some 34) (v := undef) (a' := ?_) #[true, true, true, true, true, true, true, true, true, true, true, true, true, true, false, false, false, false, false, false] rfl rfl (any_of HT_.out (by kernel_rfl)) (fun _ _ _ h => h) (Or.inr ⟨by rfl, rfl⟩) ?_ ?_
      rotate_left
      ·simp only [Act.put, List.setIfInBounds_toArray, List.set_cons_zero, List.set_cons_succ, i64_w, i32_w]
       rfl
      refine pure_ (i := 14) (N := some 35) (v := undef) (a' := ?_) #[true, true, true, true, true, true, true, true, true, true, true, true, true, true, true, false, false, false, false, false] rfl rfl (any_of HT_.out (by kernel_rfl)) (fun _ _ _ h => h) (Or.inr ⟨by rfl, rfl⟩) ?_ ?_
      rotate_left
      ·simp only [Act.put, List.setIfInBounds_toArray, List.set_cons_zero, List.set_cons_succ, i64_w, i32_w]
       rfl
      refine pure_ (i := 15) (N := some 36) (v := undef) (a' := ?_) #[true, true, true, true, true, true, true, true, true, true, true, true, true, true, true, true, false, false, false, false] rfl rfl (any_of HT_.out (by kernel_rfl)) (fun _ _ _ h => h) (Or.inr ⟨by rfl, rfl⟩) ?_ ?_
      rotate_left
      ·simp only [Act.put, List.setIfInBounds_toArray, List.set_cons_zero, List.set_cons_succ, i64_w, i32_w]
       rfl
      refine pure_ (i := 16) (N := some 37) (v := undef) (a' := ?_) #[true, true, true, true, true, true, true, true, true, true, true, true, true, true, true, true, true, false, false, false] rfl rfl (any_of HT_.out (by kernel_rfl)) (fun _ _ _ h => h) (Or.inr ⟨by rfl, rfl⟩) ?_ ?_
      rotate_left
      ·simp only [Act.put, List.setIfInBounds_toArray, List.set_cons_zero, List.set_cons_succ, i64_w, i32_w]
       rfl
      refine pure_ (i := 17) (N := some 38) (v := undef) (a' := ?_) #[true, true, true, true, true, true, true, true, true, true, true, true, true, true, true, true, true, true, false, false] rfl rfl (any_of HT_.out (by kernel_rfl)) (fun _ _ _ h => h) (Or.inr ⟨by rfl, rfl⟩) ?_ ?_
      rotate_left
      ·simp only [Act.put, List.setIfInBounds_toArray, List.set_cons_zero, List.set_cons_succ, i64_w, i32_w]
       rfl
      refine pure_ (i := 18) (N := some 39) (v := undef) (a' := ?_) #[true, true, true, true, true, true, true, true, true, true, true, true, true, true, true, true, true, true, true, false] rfl rfl (any_of HT_.out (by kernel_rfl)) (fun _ _ _ h => h) (Or.inr ⟨by rfl, rfl⟩) ?_ ?_
      rotate_left
      ·simp only [Act.put, List.setIfInBounds_toArray, List.set_cons_zero, List.set_cons_succ, i64_w, i32_w]
       rfl
      refine pS (i := 19) (some 40) #[true, true, true, true, true, true, true, true, true, true, true, true, true, true, true, true, true, true, true, true] (any_of HT_.out (by kernel_rfl)) ?_
      refine done_ (done_of HT_.out (by kernel_rfl)) ?_
      try go_wp2
      go_roundg k1
      case measure => have := HK1.out; omega
      case rel => exact ⟨(x9_1), (wrap64 (x11_1 + 1)), (x1000_1), (x1001_1), (x1002_1), vv, H', ⟨by have := HK1.out; omega⟩, ⟨kr HO_9⟩, ⟨kr HO_10⟩, ⟨kb BK183⟩, ⟨si28 HI0⟩, ⟨ke HK⟩, ⟨be HB⟩⟩
    ·rw [if_neg c11] at H
     exact absurd H (by simp)
   ·rw [if_neg c10] at H
    have c10b0 : decide (x11_1 < (t187.length : Int)) = false := decide_eq_false c10
    clear c10
    simp only [Option.some.injEq, Prod.mk.injEq] at H
    obtain ⟨rfl, rfl, rfl, rfl⟩ := H
    obtain ⟨Ao29, co29, eo29⟩ := Kd.R_slice HO_10.out
    subst eo29
    go_wp2
    go_ret
    exact ⟨_, by first | rfl | (simp [errW_none, errW_some] <;> rfl) | (simp [*, errW_none, errW_some] <;> rfl), by (with_reducible repeat (first | apply Kd.R_alloc | apply Kd.R_drewN | apply Kd.R_drew)); exact Kd.R_mono HO_9.out (fun _ hk => trivial), si28 HI0, be HB, ke HK⟩

end Go.Proofs.Ytcollbifdfhfoaa.PFnExactPlacesFor
