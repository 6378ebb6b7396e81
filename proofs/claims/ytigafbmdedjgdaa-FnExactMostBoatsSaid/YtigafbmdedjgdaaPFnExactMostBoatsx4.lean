-- Written by a program out of this seat's translation (functions, and that the code comes to them).
import Derived.Test.YtigafbmdedjgdaaPFnExactMostBoatsx0
import Derived.Test.YtigafbmdedjgdaaPFnExactMostBoatsx2
import Derived.Test.YtigafbmdedjgdaaPFnExactMostBoatsx3
namespace Go.Proofs.Ytigafbmdedjgdaa.PFnExactMostBoats
open Go.RowKit Go.Proofs.YtigafbmdedjgdaaW.PrintWords Go.Proofs.YtigafbmdedjgdaaW.PrintLast Go.Proofs.YtigafbmdedjgdaaW.PrintMore
attribute [local go_sem] max2_int min2_int max_two min_two max_three min_three max_four min_four   -- for this text's walks alone
open Go.Proofs.Ytigafbmdedjgdaa.Bay Go.Proofs.Ytigafbmdedjgdaa.Short
attribute [local go_sem ↓] lv26_eq lv32_eq
attribute [local go_sem] lvv_set lvv_drewN lvv_drew lv26_run BayAt26_set BayAt26_drewN BayAt26_drew lv32_run BayAt32_set BayAt32_drewN BayAt32_drew
set_option linter.unusedVariables false
set_option linter.unusedSimpArgs false

/-! ### spec_l01Over: function 44 -/
def spec_l01Over.l0 : Nat → Int → Int → List (S46) → List (S46) → Int → Int → Int → (Nat → Int) → Int → Int → Option ((List (S46)) × Int × Int × (Nat → Int))
 | 0, _, _, _, _, _, _, _, _, _, _ => none
 | k + 1, x2, x3, x9, x10, x11, x1000, x1001, x1002, x148000, x148001 => if x11 < (x10.length : Int) then (if 0 ≤ x11 then ((spec_l01Far.f ((rd_T46 x10 x11).f0) ((rd_T46 x10 x11).f1) x148000 x148001).bind fun t158 => (if t158 ≤ (wrap64 (x2 * x2)) then ((spec_l01Depth.f x1000 x1001 x1002 ((rd_T46 x10 x11).f0) ((rd_T46 x10 x11).f1)).bind fun bt160 => (if bt160.1 < x3 then (if x9.length < 70368744177664 then (spec_l01Over.l0 k x2 x3 (x9 ++ [(⟨(rd_T46 x10 x11).f0, (rd_T46 x10 x11).f1⟩ : S46)]) x10 (wrap64 (x11 + 1)) bt160.2.1 bt160.2.2.1 bt160.2.2.2 x148000 x148001) else (none)) else (spec_l01Over.l0 k x2 x3 x9 x10 (wrap64 (x11 + 1)) bt160.2.1 bt160.2.2.1 bt160.2.2.2 x148000 x148001))) else (spec_l01Over.l0 k x2 x3 x9 x10 (wrap64 (x11 + 1)) x1000 x1001 x1002 x148000 x148001))) else (none)) else (some (x9, x1000, x1001, x1002))
def spec_l01Over.f (k : Nat) (s0_0 : Int) (s0_1 : Int) (s0_2 : (Nat → Int)) (a1_0 : Int) (a1_1 : Int) (a2 : Int) (a3 : Int) : Option ((List (S46)) × Int × Int × (Nat → Int)) := (spec_l01All.f k s0_0 s0_1 s0_2).bind fun bt151 => (spec_l01Over.l0 k a2 a3 (([] : List (S46))) bt151.1 0 bt151.2.1 bt151.2.2.1 bt151.2.2.2 a1_0 a1_1)
def spec_l01Over.T6 : Bool × List (List Nat × List Nat) := (true, [([], []), ([], []), ([0, 1], [0, 1]), ([2], [2]), ([], []), ([3, 4], [3, 4]), ([], []), ([], []), ([6, 7], [6, 7]), ([5, 8], [5, 8]), ([9, 5], [9]), ([10], [10]), ([10], [10]), ([10], [10]), ([12, 13, 10], [10, 12, 13]), ([14, 10], [10, 14]), ([11, 15, 10, 10], [10, 11, 15]), ([10], [10]), ([16, 17, 10], [10, 16, 17]), ([10, 18], [10, 18])])
def spec_l01Over.B6 : List Nat := [0, 0, 3, 7, 0, 31, 0, 0, 192, 511, 1023, 2047, 2047, 2047, 14335, 30719, 65535, 2047, 262143, 524287]
theorem spec_l01Over.tab6 : rtab .any (opsOf Try.f44 6) = spec_l01Over.T6 := by kernel_rfl
theorem spec_l01Over.bits6 : waitsOk spec_l01Over.T6.2 spec_l01Over.B6 = true := by kernel_rfl
set_option maxHeartbeats 8000000 in
set_option maxRecDepth 100000 in
theorem spec_l01Over.calls (k : Nat) (g : Nat) (s0_0 : Int) (s0_1 : Int) (s0_2 : (Nat → Int)) (a1_0 : Int) (a1_1 : Int) (a2 : Int) (a3 : Int) (r1 : List (S46)) (r2 : Int) (r3 : Int) (r4 : (Nat → Int)) (w0 w : World) (hI : IsS32 w0 w g s0_0 s0_1 s0_2) (hB : Below w0.heap.size w0 w) (h : spec_l01Over.f k s0_0 s0_1 s0_2 a1_0 a1_1 a2 a3 = some (r1, r2, r3, r4)) :
  Calls Try.prog 44 #[.pointer (some ⟨g, 0, none⟩), .agg #[.int .i8 a1_0, .int .i8 a1_1], .int .i64 a2, .int .i64 a3] w fun e w' => ∃ v0_ : Value, e = .returned (v0_) ∧ Kd.R k46 46 w' w.heap.size (fun _ => True) v0_ r1 ∧ IsS32 w0 w' g r2 r3 r4 ∧ Below w0.heap.size w0 w' ∧ KeepBut w w' g none := by
 have hu46 := Try.underlying46
 have HI0 := am hI
 have HK := am (KeepBut.refl w g none)
 have HL := am hB.size
 clear hI
 have HW0 := am hB.size
 have HB := am hB
 clear hB
 have H : ((spec_l01All.f k s0_0 s0_1 s0_2).bind fun bt151 => (spec_l01Over.l0 k a2 a3 (([] : List (S46))) bt151.1 0 bt151.2.1 bt151.2.2.1 bt151.2.2.2 a1_0 a1_1)) = some (r1, r2, r3, r4) := h
 clear h
 obtain ⟨y148, hy148⟩ : ∃ y_ : List (S46), y_ = (([] : List (S46))) := ⟨_, rfl⟩
 replace H : ((spec_l01All.f k s0_0 s0_1 s0_2).bind fun bt151 => (spec_l01Over.l0 k a2 a3 y148 bt151.1 0 bt151.2.1 bt151.2.2.1 bt151.2.2.2 a1_0 a1_1)) = some (r1, r2, r3, r4) := by first | (rw [hy148]; with_reducible exact H) | (have H2_ := (Option.bind_some _ _).symm.trans H; rw [hy148]; with_reducible exact H2_) | (have H2_ := (Option.bind_some _ _).symm.trans H; with_reducible exact H2_) | with_reducible exact H | (rw [hy148]; exact H) | exact H
 have Ny148 := am hy148
 clear hy148
 replace H := Option.bind_eq_some_iff.mp H
 obtain ⟨⟨t151, t154, t155, t156⟩, A50, H⟩ := H
 try dsimp only at H
 have A5 := am A50
 clear A50
 have H' := am H
 clear H
 go_enter Try.func44, Try.ntmps44
 go_wp2_with (first | ((with_reducible refine gate_dst (N := 5) rfl ?_); refine bxe (N := 5) (cs := #[.int .i8 a1_0, .int .i8 a1_1]) (t := 46) ?_; intro gb147 hg w6 hbox hb; have BK147 := am (hbox); have GW147 := am (gN hg (keep_size (w := w) (g := g) (row := none) (ke HK))); have GE147 := am (Nat.le_trans HW0.out (gN hg (keep_size (w := w) (g := g) (row := none) (ke HK)))); have NB0_147 := am (nLi hg (IsS32.lt (show IsS32 w0 _ g s0_0 s0_1 s0_2 from si32 HI0))); have NB147_0 := am (nRi hg (IsS32.lt (show IsS32 w0 _ g s0_0 s0_1 s0_2 from si32 HI0))); replace HI0 := am (IsS32.below (si32 HI0) hb); replace HK := am (KeepBut.trans (ke HK) (KeepBut.of_below hb g none) (.inl rfl)); replace HB := am (below_step (be HB) hb); clear hb hbox hg) | ((with_reducible refine gate_dst (N := 12) rfl ?_); refine Kd.R_lit k46 _ 46 ?hg (N := 12) ?hd (xs := ([] : List (S46))) (inner := []) (ok := fun _ => True) (okp := fun _ => True) ?hr ?hp (fun _ hk => hk) trivial (Below.refl _ _) (Nat.le_refl _) (by simp) ?_; (case hd => rfl); (case hg => rfl); (case hr => first | (go_simp; done) | (go_simp; rfl)); (case hp => exact (Reps.none _ _)); intro v149 w7 ho8 hb hg_ hnew_; clear hg_ hnew_; (first | rw [← Ny148.out] at ho8 | (simp only [Int.reduceToNat] at ho8; rw [← Ny148.out] at ho8)); have HO150 := am (Kd.R_lower (Kd.R_newB ho8 (g := gb147) (o := .cells #[.int .i8 a1_0, .int .i8 a1_1] 46 (0, 0)) (kb BK147)) (keep_size (w := w) (g := g) (row := none) (ke HK))); replace HI0 := am (IsS32.below (si32 HI0) hb); replace BK147 := bB BK147 hb; replace HK := am (KeepBut.trans (ke HK) (KeepBut.of_below hb g none) (.inl rfl)); replace HB := am (below_step (be HB) hb); clear hb ho8) | ((with_reducible refine gate_callee (f := 50) rfl ?_); refine gL (some 14) Try.func50 #[.pointer (some ⟨g, 0, none⟩)] ?_; (with_reducible refine (spec_l01All.calls k g s0_0 s0_1 s0_2 t151 t154 t155 t156 w0 _ ?side1 ?side2 A5.out).mono ?_); (case side1 => exact si32 HI0); (case side2 => exact be HB); rintro e w9 ⟨v152, rfl, ho0, hi, hb, hk⟩; refine ⟨_, rfl, ?_⟩; have HO153 := am (Kd.R_lower (Kd.R_newB (Kd.R_new' ho0 (Kd.R_lt (kr HO150))) (g := gb147) (o := .cells #[.int .i8 a1_0, .int .i8 a1_1] 46 (0, 0)) (kb BK147)) (keep_size (w := w) (g := g) (row := none) (ke HK))); replace BK147 := am (KeepBut.blk hk (g' := gb147) (o := .cells #[.int .i8 a1_0, .int .i8 a1_1] 46 (0, 0)) (kb BK147) NB147_0.out (by simp)); replace HO150 := am (Kd.R_mono (Kd.R_told (Kd.R_oldK (IsS32.apart (show IsS32 w0 _ g s0_0 s0_1 s0_2 from si32 HI0) (kr HO150) (by decide)) hk) (Kd.R_base ho0)) (fun _ h_ => h_.1)); replace HK := am (KeepBut.trans (ke HK) hk (.inl rfl)); replace HB := am (hb); replace HI0 := am (hi); (try clear hb); (try clear hb2); (try clear hk); (try clear hi); (try clear ho0)))
 go_loopg [9, 11] k (fun kq v9 v11 w' => ∃ (x9_1 : List (S46)) (x11_1 : Int) (x1000_1 : Int) (x1001_1 : Int) (x1002_1 : (Nat → Int)), v11 = .int .i64 x11_1 ∧ Aside0 (spec_l01Over.l0 kq a2 a3 x9_1 t151 x11_1 x1000_1 x1001_1 x1002_1 a1_0 a1_1 = some (r1, r2, r3, r4)) ∧ Aside0 (kq ≤ k) ∧ Aside0 (Kd.R k46 46 w' w.heap.size (fun k_ => some k_ ≠ (v152 : Value).ownBlock ∧ k_ ≠ gb147) v9 x9_1) ∧ Aside0 (Kd.R k46 46 w' w.heap.size (fun k_ => some k_ ≠ (v9 : Value).ownBlock ∧ k_ ≠ gb147) v152 t151) ∧ Aside0 (w'.heap[gb147]? = some (.cells #[.int .i8 a1_0, .int .i8 a1_1] 46 (0, 0))) ∧ Aside0 (IsS32 w0 w' g x1000_1 x1001_1 x1002_1) ∧ Aside0 (KeepBut w w' g none) ∧ Aside0 (Below w0.heap.size w0 w'))
 case atStart => exact ⟨(y148), (0), (t154), (t155), (t156), vv, H', ⟨Nat.le_refl _⟩, ⟨by (with_reducible repeat (first | apply Kd.R_alloc | apply Kd.R_drewN | apply Kd.R_drew)); exact Kd.R_mono HO150.out (fun _ hk => ⟨hk.2, hk.1.2⟩)⟩, ⟨by (with_reducible repeat (first | apply Kd.R_alloc | apply Kd.R_drewN | apply Kd.R_drew)); exact Kd.R_mono HO153.out (fun _ hk => ⟨hk.1.2, hk.2⟩)⟩, ⟨kb BK147⟩, ⟨si32 HI0⟩, ⟨ke HK⟩, ⟨be HB⟩⟩
 case round =>
  clear H'
  try clear p2
  try clear c4
  try clear c5
  obtain ⟨x9_1, x11_1, x1000_1, x1001_1, x1002_1, rfl, HA, HK1, HO_9, HO_10, BK147, HI0, HK, HB⟩ := hrel
  cases gk with
  | zero => exact absurd HA.out (by simp [spec_l01Over.l0])
  | succ k1 =>
   have H := HA.out
   clear HA
   simp only [spec_l01Over.l0] at H
   by_cases c10 : x11_1 < (t151.length : Int)
   ·rw [if_pos c10] at H
    have c10b0 : decide (x11_1 < (t151.length : Int)) = true := decide_eq_true c10
    clear c10
    by_cases c11 : 0 ≤ x11_1
    ·rw [if_pos c11] at H
     have c11b0 : decide (0 ≤ x11_1) = true := decide_eq_true c11
     have c11b1 : 0 ≤ x11_1 := c11
     clear c11
     replace H := Option.bind_eq_some_iff.mp H
     obtain ⟨t158, A120, H⟩ := H
     try dsimp only at H
     have A12 := am A120
     clear A120
     by_cases c13 : t158 ≤ (wrap64 (a2 * a2))
     ·rw [if_pos c13] at H
      have c13b0 : decide (t158 ≤ (wrap64 (a2 * a2))) = true := decide_eq_true c13
      clear c13
      replace H := Option.bind_eq_some_iff.mp H
      obtain ⟨⟨t160, t161, t162, t163⟩, A140, H⟩ := H
      try dsimp only at H
      have A14 := am A140
      clear A140
      by_cases c15 : t160 < a3
      ·rw [if_pos c15] at H
       have c15b0 : decide (t160 < a3) = true := decide_eq_true c15
       clear c15
       by_cases c16 : x9_1.length < 70368744177664
       ·rw [if_pos c16] at H
        have LMc16 := am c16
        clear c16
        obtain ⟨y165, hy165⟩ : ∃ y_ : List (S46), y_ = (x9_1 ++ [(⟨(rd_T46 t151 x11_1).f0, (rd_T46 t151 x11_1).f1⟩ : S46)]) := ⟨_, rfl⟩
        replace H : (spec_l01Over.l0 k1 a2 a3 y165 t151 (wrap64 (x11_1 + 1)) t161 t162 t163 a1_0 a1_1) = some (r1, r2, r3, r4) := by first | (rw [hy165]; with_reducible exact H) | (have H2_ := (Option.bind_some _ _).symm.trans H; rw [hy165]; with_reducible exact H2_) | (have H2_ := (Option.bind_some _ _).symm.trans H; with_reducible exact H2_) | with_reducible exact H | (rw [hy165]; exact H) | exact H
        have Ny165 := am hy165
        clear hy165
        have H' := am H
        clear H
        obtain ⟨Ao17, co17, eo17⟩ := Kd.R_slice HO_10.out
        subst eo17
        try go_wp2
        have n0_ := am (Kd.R_drew HO_9.out)
        have n1_ := am (Kd.R_drew HO_10.out)
        have n2_ := am (blk_drew BK147.out)
        have n3_ := am (IsS32.drew HI0.out)
        have n4_ := am (keep_drew HK.out)
        have n5_ := am (below_drew1 HB.out)
        clear HO_9
        clear HO_10
        clear BK147
        clear HI0
        clear HK
        clear HB
        have HO_9 := n0_
        have HO_10 := n1_
        have BK147 := n2_
        have HI0 := n3_
        have HK := n4_
        have HB := n5_
        clear n0_ n1_ n2_ n3_ n4_ n5_
        have p157 : 0 ≤ (x11_1 : Int) := of_decide_eq_true (by first | (with_reducible assumption) | assumption)
        have q157 : x11_1 < (t151.length : Int) := of_decide_eq_true (by first | (with_reducible assumption) | assumption)
        obtain ⟨ad157, e157, hx157_0, hx157_1⟩ := at_T46 (Kd.R_reads' HO_10.out).2.2 x11_1 p157 q157
        cases e157
        replace p157 := eq_true p157
        replace q157 := eq_true q157
        have p159 : 0 ≤ (x11_1 : Int) := of_decide_eq_true (by first | (with_reducible assumption) | assumption)
        have q159 : x11_1 < (t151.length : Int) := of_decide_eq_true (by first | (with_reducible assumption) | assumption)
        obtain ⟨ad159, e159, hx159_0, hx159_1⟩ := at_T46 (Kd.R_reads' HO_10.out).2.2 x11_1 p159 q159
        obtain rfl : ad157 = ad159 := (by injection e159)
        replace p159 := eq_true p159
        replace q159 := eq_true q159
        refine start_ (n := 20) (S := fun w' => w'.cell? ⟨gb147, 0, none⟩ = some (.int .i8 a1_0) ∧ w'.cell? ⟨gb147, 1, none⟩ = some (.int .i8 a1_1) ∧ w'.cell? (ad157.add ((x11_1).toNat * 2)) = some (.int .i8 ((rd_T46 t151 x11_1).f0)) ∧ w'.cell? ⟨(ad157.add ((x11_1).toNat * 2)).block, (ad157.add ((x11_1).toNat * 2)).off + 1, none⟩ = some (.int .i8 ((rd_T46 t151 x11_1).f1)) ∧ w'.cell? (ad157.add ((x11_1).toNat * 2)) = some (.int .i8 ((rd_T46 t151 x11_1).f0)) ∧ w'.cell? ⟨(ad157.add ((x11_1).toNat * 2)).block, (ad157.add ((x11_1).toNat * 2)).off + 1, none⟩ = some (.int .i8 ((rd_T46 t151 x11_1).f1))) (ds := []) #[false, false, false, false, false, false, false, false, false, false, false, false, false, false, false, false, false, false, false, false] (by kernel_rfl) rfl rfl ⟨(blk_cell BK147.out 0).trans rfl, (blk_cell BK147.out 1).trans rfl, hx157_0, hx157_1, hx159_0, hx159_1⟩ (fun hHeld => ?_); refine with_tabW spec_l01Over.tab6 spec_l01Over.bits6 (fun HT_ HW_ => ?_)
        generalize wr.drew = w18 at HO_9 HO_10 BK147 HI0 HK HB hx157_0 hx157_1 hx159_0 hx159_1 hHeld ⊢
        refine pS (i := 0) (some 21) #[true, false, false, false, false, false, false, false, false, false, false, false, false, false, false, false, false, false, false, false] (any_of HT_.out (by kernel_rfl)) ?_
        refine pS (i := 1) (some 22) #[true, true, false, false, false, false, false, false, false, false, false, false, false, false, false, false, false, false, false, false] (any_of HT_.out (by kernel_rfl)) ?_
        refine pS (i := 2) (some 23) #[true, true, true, false, false, false, false, false, false, false, false, false, false, false, false, false, false, false, false, false] (any_of HT_.out (by kernel_rfl)) ?_
        refine pS (i := 6) (some 27) #[true, true, true, false, false, false, true, false, false, false, false, false, false, false, false, false, false, false, false, false] (any_of HT_.out (by kernel_rfl)) ?_
        refine pS (i := 7) (some 28) #[true, true, true, false, false, false, true, true, false, false, false, false, false, false, false, false, false, false, false, false] (any_of HT_.out (by kernel_rfl)) ?_
        refine pS (i := 8) (some 29) #[true, true, true, false, false, false, true, true, true, false, false, false, false, false, false, false, false, false, false, false] (any_of HT_.out (by kernel_rfl)) ?_
        refine tS (i := 3) (some 24) #[true, true, true, true, false, false, true, true, true, false, false, false, false, false, false, false, false, false, false, false] (take_ofW HT_.out HW_.out (by kernel_rfl)) hHeld ?_
        refine tS (i := 4) (some 25) #[true, true, true, true, true, false, true, true, true, false, false, false, false, false, false, false, false, false, false, false] (take_ofW HT_.out HW_.out (by kernel_rfl)) hHeld ?_
        refine one_ (i := 5) (N := some 26) #[true, true, true, true, true, true, true, true, true, false, false, false, false, false, false, false, false, false, false, false] rfl rfl (one_of HT_.out (by kernel_rfl)) (by decide) (fun K hK => ?_)
        refine goes_ Try.func45 (by kernel_rfl) rfl #[.agg #[.int .i8 ((rd_T46 t151 x11_1).f0), .int .i8 ((rd_T46 t151 x11_1).f1)], .agg #[.int .i8 a1_0, .int .i8 a1_1]] (by rfl) rfl rfl (by (try simp only [List.map_toArray, List.map_cons, List.map_nil]); first | done | rfl | (simp only [List.length_drop, List.length_take]; rfl)) ?_
        with_reducible refine (spec_l01Far.calls ((rd_T46 t151 x11_1).f0) ((rd_T46 t151 x11_1).f1) a1_0 a1_1 t158 _ A12.out).mono ?_
        rintro e w19 ⟨rfl, hb⟩
        have HS2_ := (hb.cell (World.block_lt_of_cell? _ _ (hHeld.2.2.1))).trans (hHeld.2.2.1)
        have HS3_ := (hb.cell (World.block_lt_of_cell? _ _ (hHeld.2.2.2.1))).trans (hHeld.2.2.2.1)
        have HS4_ := (hb.cell (World.block_lt_of_cell? _ _ (hHeld.2.2.2.2.1))).trans (hHeld.2.2.2.2.1)
        have HS5_ := (hb.cell (World.block_lt_of_cell? _ _ (hHeld.2.2.2.2.2))).trans (hHeld.2.2.2.2.2)
        refine ⟨_, rfl, ?_⟩
        have n0_ := am (Kd.R_below (kr HO_9) hb)
        have n1_ := am (Kd.R_below (kr HO_10) hb)
        have n2_ := bB BK147 hb
        have n3_ := am (IsS32.below (si32 HI0) hb)
        have n4_ := am (KeepBut.trans (ke HK) (KeepBut.of_below hb g none) (.inl rfl))
        have n5_ := am (below_step (be HB) hb)
        clear HO_9
        clear HO_10
        clear BK147
        clear HI0
        clear HK
        clear HB
        have HO_9 := n0_
        have HO_10 := n1_
        have BK147 := n2_
        have HI0 := n3_
        have HK := n4_
        have HB := n5_
        clear n0_ n1_ n2_ n3_ n4_ n5_
        (try clear hb)
        (try clear hb2)
        (try clear hk)
        (try clear hi)
        refine hK.out _ _ ⟨(blk_cell BK147.out 0).trans rfl, (blk_cell BK147.out 1).trans rfl, HS2_, HS3_, HS4_, HS5_⟩ (fun hHeld => ?_)
        clear hK K
        refine norm_ (a' := ?_) ?_ ?_
        rotate_left
        ·show Act.put _ (some 26) _ = _
         simp only [Act.put, List.setIfInBounds_toArray, List.set_cons_zero, List.set_cons_succ, i64_w, i32_w]
         rfl
        refine pS (i := 9) (some 30) #[true, true, true, true, true, true, true, true, true, true, false, false, false, false, false, false, false, false, false, false] (any_of HT_.out (by kernel_rfl)) ?_
        refine pS (i := 10) (some 31) #[true, true, true, true, true, true, true, true, true, true, true, false, false, false, false, false, false, false, false, false] (any_of HT_.out (by kernel_rfl)) ?_
        refine pS (i := 11) (some 32) #[true, true, true, true, true, true, true, true, true, true, true, true, false, false, false, false, false, false, false, false] (any_of HT_.out (by kernel_rfl)) ?_
        refine pS (i := 12) (some 33) #[true, true, true, true, true, true, true, true, true, true, true, true, true, false, false, false, false, false, false, false] (any_of HT_.out (by kernel_rfl)) ?_
        refine pS (i := 13) (some 34) #[true, true, true, true, true, true, true, true, true, true, true, true, true, true, false, false, false, false, false, false] (any_of HT_.out (by kernel_rfl)) ?_
        refine pS (i := 14) (some 35) #[true, true, true, true, true, true, true, true, true, true, true, true, true, true, true, false, false, false, false, false] (any_of HT_.out (by kernel_rfl)) ?_
        refine pS (i := 17) (some 38) #[true, true, true, true, true, true, true, true, true, true, true, true, true, true, true, false, false, true, false, false] (any_of HT_.out (by kernel_rfl)) ?_
        refine tS (i := 15) (some 36) #[true, true, true, true, true, true, true, true, true, true, true, true, true, true, true, true, false, true, false, false] (take_ofW HT_.out HW_.out (by kernel_rfl)) hHeld ?_
        refine one_ (i := 16) (N := some 37) #[true, true, true, true, true, true, true, true, true, true, true, true, true, true, true, true, true, true, false, false] rfl rfl (one_of HT_.out (by kernel_rfl)) (by decide) (fun K hK => ?_)
        refine goes_ Try.func35 (by kernel_rfl) rfl #[.pointer (some ⟨g, 0, none⟩), .agg #[.int .i8 ((rd_T46 t151 x11_1).f0), .int .i8 ((rd_T46 t151 x11_1).f1)]] (by rfl) rfl rfl (by (try simp only [List.map_toArray, List.map_cons, List.map_nil]); first | done | rfl | (simp only [List.length_drop, List.length_take]; rfl)) ?_
        with_reducible refine (spec_l01Depth.calls g x1000_1 x1001_1 x1002_1 ((rd_T46 t151 x11_1).f0) ((rd_T46 t151 x11_1).f1) t160 t161 t162 t163 w0 _ ?side1 ?side2 A14.out).mono ?_
        (case side1 => exact si32 HI0)
        (case side2 => exact be HB)
        rintro e w20 ⟨rfl, hi, hb, hk⟩
        have HS2_ := keep_cell hk (hHeld.2.2.1) (by first | (rw [add_block]; exact Kd.own_blk (IsS32.own_ne HI0.out HO_10.out (by decide))) | (show (Addr.add _ _).block ≠ _; rw [add_block]; exact Kd.own_blk (IsS32.own_ne HI0.out HO_10.out (by decide))) | exact Kd.own_blk (IsS32.own_ne HI0.out HO_10.out (by decide)))
        have HS3_ := keep_cell hk (hHeld.2.2.2.1) (by first | (rw [add_block]; exact Kd.own_blk (IsS32.own_ne HI0.out HO_10.out (by decide))) | (show (Addr.add _ _).block ≠ _; rw [add_block]; exact Kd.own_blk (IsS32.own_ne HI0.out HO_10.out (by decide))) | exact Kd.own_blk (IsS32.own_ne HI0.out HO_10.out (by decide)))
        have HS4_ := keep_cell hk (hHeld.2.2.2.2.1) (by first | (rw [add_block]; exact Kd.own_blk (IsS32.own_ne HI0.out HO_10.out (by decide))) | (show (Addr.add _ _).block ≠ _; rw [add_block]; exact Kd.own_blk (IsS32.own_ne HI0.out HO_10.out (by decide))) | exact Kd.own_blk (IsS32.own_ne HI0.out HO_10.out (by decide)))
        have HS5_ := keep_cell hk (hHeld.2.2.2.2.2) (by first | (rw [add_block]; exact Kd.own_blk (IsS32.own_ne HI0.out HO_10.out (by decide))) | (show (Addr.add _ _).block ≠ _; rw [add_block]; exact Kd.own_blk (IsS32.own_ne HI0.out HO_10.out (by decide))) | exact Kd.own_blk (IsS32.own_ne HI0.out HO_10.out (by decide)))
        refine ⟨_, rfl, ?_⟩
        have n0_ := am (Kd.R_mono (Kd.R_keep (IsS32.apart (show IsS32 w0 _ g x1000_1 x1001_1 x1002_1 from si32 HI0) (kr HO_9) (by decide)) hk (fun _ h => h.2)) (fun _ h => h.1))
        have n1_ := am (Kd.R_mono (Kd.R_keep (IsS32.apart (show IsS32 w0 _ g x1000_1 x1001_1 x1002_1 from si32 HI0) (kr HO_10) (by decide)) hk (fun _ h => h.2)) (fun _ h => h.1))
        have n2_ := am (KeepBut.blk hk (g' := gb147) (o := .cells #[.int .i8 a1_0, .int .i8 a1_1] 46 (0, 0)) (kb BK147) NB147_0.out (by simp))
        have n3_ := am (KeepBut.trans (ke HK) hk (.inl rfl))
        have n4_ := am (hb)
        have n5_ := am (hi)
        clear HO_9
        clear HO_10
        clear BK147
        clear HK
        clear HB
        clear HI0
        have HO_9 := n0_
        have HO_10 := n1_
        have BK147 := n2_
        have HK := n3_
        have HB := n4_
        have HI0 := n5_
        clear n0_ n1_ n2_ n3_ n4_ n5_
        (try clear hb)
        (try clear hb2)
        (try clear hk)
        (try clear hi)
        refine hK.out _ _ ⟨(blk_cell BK147.out 0).trans rfl, (blk_cell BK147.out 1).trans rfl, HS2_, HS3_, HS4_, HS5_⟩ (fun hHeld => ?_)
        clear hK K
        refine norm_ (a' := ?_) ?_ ?_
        rotate_left
        ·show Act.put _ (some 37) _ = _
         simp only [Act.put, List.setIfInBounds_toArray, List.set_cons_zero, List.set_cons_succ, i64_w, i32_w]
         rfl
        refine pS (i := 18) (some 39) #[true, true, true, true, true, true, true, true, true, true, true, true, true, true, true, true, true, true, true, false] (any_of HT_.out (by kernel_rfl)) ?_
        refine pS (i := 19) (some 40) #[true, true, true, true, true, true, true, true, true, true, true, true, true, true, true, true, true, true, true, true] (any_of HT_.out (by kernel_rfl)) ?_
        refine done_ (done_of HT_.out (by kernel_rfl)) ?_
        have p164 : 0 ≤ (x11_1 : Int) := of_decide_eq_true (by first | (with_reducible assumption) | assumption)
        have q164 : x11_1 < (t151.length : Int) := of_decide_eq_true (by first | (with_reducible assumption) | assumption)
        obtain ⟨ad164, e164, hx164_0, hx164_1⟩ := at_T46 (Kd.R_reads' HO_10.out).2.2 x11_1 p164 q164
        obtain rfl : ad157 = ad164 := (by injection e164)
        replace p164 := eq_true p164
        replace q164 := eq_true q164
        try go_wp2_with (first | ((with_reducible refine gate_builtin (b := .append) (xs := #[.tmp 41, .tmp 46]) rfl ?_); at_builtin; refine Kd.R_append k46 w.heap.size rfl (.tmp 41) (.tmp 46) 73 46 (.agg #[(.int .i8 0), (.int .i8 0)]) 2 rfl Try.underlying73 info46 rfl (by decide) (by omega) u9 x9_1 (⟨(rd_T46 t151 x11_1).f0, (rd_T46 t151 x11_1).f1⟩ : S46) [.int .i8 ((rd_T46 t151 x11_1).f0), .int .i8 ((rd_T46 t151 x11_1).f1)] (fun k_ => some k_ ≠ (.slice (some ad157) t151.length co17 : Value).ownBlock ∧ k_ ≠ gb147) (fun _ => False) rfl rfl ?aP (fun _ hk => hk.elim) ?aF ?aO (Below.refl _ _) ?aS ?aL ?_; (case aP => exact k46_mkM _ _ _ (⟨(rd_T46 t151 x11_1).f0, (rd_T46 t151 x11_1).f1⟩ : S46)); (case aF => exact (fun k_ hk => ⟨Kd.fresh' (Kd.R_lt (kr HO_10)) k_ hk, Kd.freshB (g := gb147) (o := .cells #[.int .i8 a1_0, .int .i8 a1_1] 46 (0, 0)) (kb BK147) k_ hk⟩)); (case aO => exact (kr HO_9)); (case aS => exact (keep_size (w := w) (g := g) (row := none) (ke HK))); (case aL => have := LMc16.out; omega); intro v166 w21 ho hb hg hat; rw [← Ny165.out] at ho; have HO167 := am (ho); replace HO_10 := am (Kd.R_after (ok := (fun k_ => k_ ≠ gb147)) (by (with_reducible repeat (first | apply Kd.R_alloc | apply Kd.R_drewN | apply Kd.R_drew)); exact Kd.R_mono HO_10.out (fun _ hk => ⟨hk.2, hk.1⟩)) hg hat); replace BK147 := am (blk_grown (g := gb147) (o := .cells #[.int .i8 a1_0, .int .i8 a1_1] 46 (0, 0)) (kb BK147) hg (Kd.R_away HO_9.out (fun _ hk => hk.2))); replace HI0 := am (IsS32.grown (si32 HI0) hg (IsS32.own_ne HI0.out HO_9.out (by decide))); replace HB := am (below_weaken (be HB) HL.out hb); replace HK := am (KeepBut.trans (ke HK) (KeepBut.of_grown hg g) (Kd.R_base2 HO_9.out)); clear HO_9; clear ho hb hg hat))
        go_roundg k1
        case measure => have := HK1.out; omega
        case rel => exact ⟨(y165), (wrap64 (x11_1 + 1)), (t161), (t162), (t163), vv, H', ⟨by have := HK1.out; omega⟩, ⟨kr HO167⟩, ⟨by (with_reducible repeat (first | apply Kd.R_alloc | apply Kd.R_drewN | apply Kd.R_drew)); exact Kd.R_mono HO_10.out (fun _ hk => ⟨hk.2, hk.1⟩)⟩, ⟨kb BK147⟩, ⟨si32 HI0⟩, ⟨ke HK⟩, ⟨be HB⟩⟩
       ·rw [if_neg c16] at H
        exact absurd H (by simp)
      ·rw [if_neg c15] at H
       have c15b0 : decide (t160 < a3) = false := decide_eq_false c15
       clear c15
       have H' := am H
       clear H
       obtain ⟨Ao22, co22, eo22⟩ := Kd.R_slice HO_10.out
       subst eo22
       try go_wp2
       have n0_ := am (Kd.R_drew HO_9.out)
       have n1_ := am (Kd.R_drew HO_10.out)
       have n2_ := am (blk_drew BK147.out)
       have n3_ := am (IsS32.drew HI0.out)
       have n4_ := am (keep_drew HK.out)
       have n5_ := am (below_drew1 HB.out)
       clear HO_9
       clear HO_10
       clear BK147
       clear HI0
       clear HK
       clear HB
       have HO_9 := n0_
       have HO_10 := n1_
       have BK147 := n2_
       have HI0 := n3_
       have HK := n4_
       have HB := n5_
       clear n0_ n1_ n2_ n3_ n4_ n5_
       have p157 : 0 ≤ (x11_1 : Int) := of_decide_eq_true (by first | (with_reducible assumption) | assumption)
       have q157 : x11_1 < (t151.length : Int) := of_decide_eq_true (by first | (with_reducible assumption) | assumption)
       obtain ⟨ad157, e157, hx157_0, hx157_1⟩ := at_T46 (Kd.R_reads' HO_10.out).2.2 x11_1 p157 q157
       cases e157
       replace p157 := eq_true p157
       replace q157 := eq_true q157
       have p159 : 0 ≤ (x11_1 : Int) := of_decide_eq_true (by first | (with_reducible assumption) | assumption)
       have q159 : x11_1 < (t151.length : Int) := of_decide_eq_true (by first | (with_reducible assumption) | assumption)
       obtain ⟨ad159, e159, hx159_0, hx159_1⟩ := at_T46 (Kd.R_reads' HO_10.out).2.2 x11_1 p159 q159
       obtain rfl : ad157 = ad159 := (by injection e159)
       replace p159 := eq_true p159
       replace q159 := eq_true q159
       refine start_ (n := 20) (S := fun w' => w'.cell? ⟨gb147, 0, none⟩ = some (.int .i8 a1_0) ∧ w'.cell? ⟨gb147, 1, none⟩ = some (.int .i8 a1_1) ∧ w'.cell? (ad157.add ((x11_1).toNat * 2)) = some (.int .i8 ((rd_T46 t151 x11_1).f0)) ∧ w'.cell? ⟨(ad157.add ((x11_1).toNat * 2)).block, (ad157.add ((x11_1).toNat * 2)).off + 1, none⟩ = some (.int .i8 ((rd_T46 t151 x11_1).f1)) ∧ w'.cell? (ad157.add ((x11_1).toNat * 2)) = some (.int .i8 ((rd_T46 t151 x11_1).f0)) ∧ w'.cell? ⟨(ad157.add ((x11_1).toNat * 2)).block, (ad157.add ((x11_1).toNat * 2)).off + 1, none⟩ = some (.int .i8 ((rd_T46 t151 x11_1).f1))) (ds := []) #[false, false, false, false, false, false, false, false, false, false, false, false, false, false, false, false, false, false, false, false] (by kernel_rfl) rfl rfl ⟨(blk_cell BK147.out 0).trans rfl, (blk_cell BK147.out 1).trans rfl, hx157_0, hx157_1, hx159_0, hx159_1⟩ (fun hHeld => ?_); refine with_tabW spec_l01Over.tab6 spec_l01Over.bits6 (fun HT_ HW_ => ?_)
       generalize wr.drew = w23 at HO_9 HO_10 BK147 HI0 HK HB hx157_0 hx157_1 hx159_0 hx159_1 hHeld ⊢
       refine pS (i := 0) (some 21) #[true, false, false, false, false, false, false, false, false, false, false, false, false, false, false, false, false, false, false, false] (any_of HT_.out (by kernel_rfl)) ?_
       refine pS (i := 1) (some 22) #[true, true, false, false, false, false, false, false, false, false, false, false, false, false, false, false, false, false, false, false] (any_of HT_.out (by kernel_rfl)) ?_
       refine pS (i := 2) (some 23) #[true, true, true, false, false, false, false, false, false, false, false, false, false, false, false, false, false, false, false, false] (any_of HT_.out (by kernel_rfl)) ?_
       refine pS (i := 6) (some 27) #[true, true, true, false, false, false, true, false, false, false, false, false, false, false, false, false, false, false, false, false] (any_of HT_.out (by kernel_rfl)) ?_
       refine pS (i := 7) (some 28) #[true, true, true, false, false, false, true, true, false, false, false, false, false, false, false, false, false, false, false, false] (any_of HT_.out (by kernel_rfl)) ?_
       refine pS (i := 8) (some 29) #[true, true, true, false, false, false, true, true, true, false, false, false, false, false, false, false, false, false, false, false] (any_of HT_.out (by kernel_rfl)) ?_
       refine tS (i := 3) (some 24) #[true, true, true, true, false, false, true, true, true, false, false, false, false, false, false, false, false, false, false, false] (take_ofW HT_.out HW_.out (by kernel_rfl)) hHeld ?_
       refine tS (i := 4) (some 25) #[true, true, true, true, true, false, true, true, true, false, false, false, false, false, false, false, false, false, false, false] (take_ofW HT_.out HW_.out (by kernel_rfl)) hHeld ?_
       refine one_ (i := 5) (N := some 26) #[true, true, true, true, true, true, true, true, true, false, false, false, false, false, false, false, false, false, false, false] rfl rfl (one_of HT_.out (by kernel_rfl)) (by decide) (fun K hK => ?_)
       refine goes_ Try.func45 (by kernel_rfl) rfl #[.agg #[.int .i8 ((rd_T46 t151 x11_1).f0), .int .i8 ((rd_T46 t151 x11_1).f1)], .agg #[.int .i8 a1_0, .int .i8 a1_1]] (by rfl) rfl rfl (by (try simp only [List.map_toArray, List.map_cons, List.map_nil]); first | done | rfl | (simp only [List.length_drop, List.length_take]; rfl)) ?_
       with_reducible refine (spec_l01Far.calls ((rd_T46 t151 x11_1).f0) ((rd_T46 t151 x11_1).f1) a1_0 a1_1 t158 _ A12.out).mono ?_
       rintro e w24 ⟨rfl, hb⟩
       have HS2_ := (hb.cell (World.block_lt_of_cell? _ _ (hHeld.2.2.1))).trans (hHeld.2.2.1)
       have HS3_ := (hb.cell (World.block_lt_of_cell? _ _ (hHeld.2.2.2.1))).trans (hHeld.2.2.2.1)
       have HS4_ := (hb.cell (World.block_lt_of_cell? _ _ (hHeld.2.2.2.2.1))).trans (hHeld.2.2.2.2.1)
       have HS5_ := (hb.cell (World.block_lt_of_cell? _ _ (hHeld.2.2.2.2.2))).trans (hHeld.2.2.2.2.2)
       refine ⟨_, rfl, ?_⟩
       have n0_ := am (Kd.R_below (kr HO_9) hb)
       have n1_ := am (Kd.R_below (kr HO_10) hb)
       have n2_ := bB BK147 hb
       have n3_ := am (IsS32.below (si32 HI0) hb)
       have n4_ := am (KeepBut.trans (ke HK) (KeepBut.of_below hb g none) (.inl rfl))
       have n5_ := am (below_step (be HB) hb)
       clear HO_9
       clear HO_10
       clear BK147
       clear HI0
       clear HK
       clear HB
       have HO_9 := n0_
       have HO_10 := n1_
       have BK147 := n2_
       have HI0 := n3_
       have HK := n4_
       have HB := n5_
       clear n0_ n1_ n2_ n3_ n4_ n5_
       (try clear hb)
       (try clear hb2)
       (try clear hk)
       (try clear hi)
       refine hK.out _ _ ⟨(blk_cell BK147.out 0).trans rfl, (blk_cell BK147.out 1).trans rfl, HS2_, HS3_, HS4_, HS5_⟩ (fun hHeld => ?_)
       clear hK K
       refine norm_ (a' := ?_) ?_ ?_
       rotate_left
       ·show Act.put _ (some 26) _ = _
        simp only [Act.put, List.setIfInBounds_toArray, List.set_cons_zero, List.set_cons_succ, i64_w, i32_w]
        rfl
       refine pS (i := 9) (some 30) #[true, true, true, true, true, true, true, true, true, true, false, false, false, false, false, false, false, false, false, false] (any_of HT_.out (by kernel_rfl)) ?_
       refine pS (i := 10) (some 31) #[true, true, true, true, true, true, true, true, true, true, true, false, false, false, false, false, false, false, false, false] (any_of HT_.out (by kernel_rfl)) ?_
       refine pS (i := 11) (some 32) #[true, true, true, true, true, true, true, true, true, true, true, true, false, false, false, false, false, false, false, false] (any_of HT_.out (by kernel_rfl)) ?_
       refine pS (i := 12) (some 33) #[true, true, true, true, true, true, true, true, true, true, true, true, true, false, false, false, false, false, false, false] (any_of HT_.out (by kernel_rfl)) ?_
       refine pS (i := 13) (some 34) #[true, true, true, true, true, true, true, true, true, true, true, true, true, true, false, false, false, false, false, false] (any_of HT_.out (by kernel_rfl)) ?_
       refine pS (i := 14) (some 35) #[true, true, true, true, true, true, true, true, true, true, true, true, true, true, true, false, false, false, false, false] (any_of HT_.out (by kernel_rfl)) ?_
       refine pS (i := 17) (some 38) #[true, true, true, true, true, true, true, true, true, true, true, true, true, true, true, false, false, true, false, false] (any_of HT_.out (by kernel_rfl)) ?_
       refine tS (i := 15) (some 36) #[true, true, true, true, true, true, true, true, true, true, true, true, true, true, true, true, false, true, false, false] (take_ofW HT_.out HW_.out (by kernel_rfl)) hHeld ?_
       refine one_ (i := 16) (N := some 37) #[true, true, true, true, true, true, true, true, true, true, true, true, true, true, true, true, true, true, false, false] rfl rfl (one_of HT_.out (by kernel_rfl)) (by decide) (fun K hK => ?_)
       refine goes_ Try.func35 (by kernel_rfl) rfl #[.pointer (some ⟨g, 0, none⟩), .agg #[.int .i8 ((rd_T46 t151 x11_1).f0), .int .i8 ((rd_T46 t151 x11_1).f1)]] (by rfl) rfl rfl (by (try simp only [List.map_toArray, List.map_cons, List.map_nil]); first | done | rfl | (simp only [List.length_drop, List.length_take]; rfl)) ?_
       with_reducible refine (spec_l01Depth.calls g x1000_1 x1001_1 x1002_1 ((rd_T46 t151 x11_1).f0) ((rd_T46 t151 x11_1).f1) t160 t161 t162 t163 w0 _ ?side1 ?side2 A14.out).mono ?_
       (case side1 => exact si32 HI0)
       (case side2 => exact be HB)
       rintro e w25 ⟨rfl, hi, hb, hk⟩
       have HS2_ := keep_cell hk (hHeld.2.2.1) (by first | (rw [add_block]; exact Kd.own_blk (IsS32.own_ne HI0.out HO_10.out (by decide))) | (show (Addr.add _ _).block ≠ _; rw [add_block]; exact Kd.own_blk (IsS32.own_ne HI0.out HO_10.out (by decide))) | exact Kd.own_blk (IsS32.own_ne HI0.out HO_10.out (by decide)))
       have HS3_ := keep_cell hk (hHeld.2.2.2.1) (by first | (rw [add_block]; exact Kd.own_blk (IsS32.own_ne HI0.out HO_10.out (by decide))) | (show (Addr.add _ _).block ≠ _; rw [add_block]; exact Kd.own_blk (IsS32.own_ne HI0.out HO_10.out (by decide))) | exact Kd.own_blk (IsS32.own_ne HI0.out HO_10.out (by decide)))
       have HS4_ := keep_cell hk (hHeld.2.2.2.2.1) (by first | (rw [add_block]; exact Kd.own_blk (IsS32.own_ne HI0.out HO_10.out (by decide))) | (show (Addr.add _ _).block ≠ _; rw [add_block]; exact Kd.own_blk (IsS32.own_ne HI0.out HO_10.out (by decide))) | exact Kd.own_blk (IsS32.own_ne HI0.out HO_10.out (by decide)))
       have HS5_ := keep_cell hk (hHeld.2.2.2.2.2) (by first | (rw [add_block]; exact Kd.own_blk (IsS32.own_ne HI0.out HO_10.out (by decide))) | (show (Addr.add _ _).block ≠ _; rw [add_block]; exact Kd.own_blk (IsS32.own_ne HI0.out HO_10.out (by decide))) | exact Kd.own_blk (IsS32.own_ne HI0.out HO_10.out (by decide)))
       refine ⟨_, rfl, ?_⟩
       have n0_ := am (Kd.R_mono (Kd.R_keep (IsS32.apart (show IsS32 w0 _ g x1000_1 x1001_1 x1002_1 from si32 HI0) (kr HO_9) (by decide)) hk (fun _ h => h.2)) (fun _ h => h.1))
       have n1_ := am (Kd.R_mono (Kd.R_keep (IsS32.apart (show IsS32 w0 _ g x1000_1 x1001_1 x1002_1 from si32 HI0) (kr HO_10) (by decide)) hk (fun _ h => h.2)) (fun _ h => h.1))
       have n2_ := am (KeepBut.blk hk (g' := gb147) (o := .cells #[.int .i8 a1_0, .int .i8 a1_1] 46 (0, 0)) (kb BK147) NB147_0.out (by simp))
       have n3_ := am (KeepBut.trans (ke HK) hk (.inl rfl))
       have n4_ := am (hb)
       have n5_ := am (hi)
       clear HO_9
       clear HO_10
       clear BK147
       clear HK
       clear HB
       clear HI0
       have HO_9 := n0_
       have HO_10 := n1_
       have BK147 := n2_
       have HK := n3_
       have HB := n4_
       have HI0 := n5_
       clear n0_ n1_ n2_ n3_ n4_ n5_
       (try clear hb)
       (try clear hb2)
       (try clear hk)
       (try clear hi)
       refine hK.out _ _ ⟨(blk_cell BK147.out 0).trans rfl, (blk_cell BK147.out 1).trans rfl, HS2_, HS3_, HS4_, HS5_⟩ (fun hHeld => ?_)
       clear hK K
       refine norm_ (a' := ?_) ?_ ?_
       rotate_left
       ·show Act.put _ (some 37) _ = _
        simp only [Act.put, List.setIfInBounds_toArray, List.set_cons_zero, List.set_cons_succ, i64_w, i32_w]
        rfl
       refine pS (i := 18) (some 39) #[true, true, true, true, true, true, true, true, true, true, true, true, true, true, true, true, true, true, true, false] (any_of HT_.out (by kernel_rfl)) ?_
       refine pS (i := 19) (some 40) #[true, true, true, true, true, true, true, true, true, true, true, true, true, true, true, true, true, true, true, true] (any_of HT_.out (by kernel_rfl)) ?_
       refine done_ (done_of HT_.out (by kernel_rfl)) ?_
       try go_wp2
       go_roundg k1
       case measure => have := HK1.out; omega
       case rel => exact ⟨(x9_1), (wrap64 (x11_1 + 1)), (t161), (t162), (t163), vv, H', ⟨by have := HK1.out; omega⟩, ⟨kr HO_9⟩, ⟨kr HO_10⟩, ⟨kb BK147⟩, ⟨si32 HI0⟩, ⟨ke HK⟩, ⟨be HB⟩⟩
     ·rw [if_neg c13] at H
      have c13b0 : decide (t158 ≤ (wrap64 (a2 * a2))) = false := decide_eq_false c13
      clear c13
      have H' := am H
      clear H
      obtain ⟨Ao26, co26, eo26⟩ := Kd.R_slice HO_10.out
      subst eo26
      try go_wp2
      have n0_ := am (Kd.R_drew HO_9.out)
      have n1_ := am (Kd.R_drew HO_10.out)
      have n2_ := am (blk_drew BK147.out)
      have n3_ := am (IsS32.drew HI0.out)
      have n4_ := am (keep_drew HK.out)
      have n5_ := am (below_drew1 HB.out)
      clear HO_9
      clear HO_10
      clear BK147
      clear HI0
      clear HK
      clear HB
      have HO_9 := n0_
      have HO_10 := n1_
      have BK147 := n2_
      have HI0 := n3_
      have HK := n4_
      have HB := n5_
      clear n0_ n1_ n2_ n3_ n4_ n5_
      have p157 : 0 ≤ (x11_1 : Int) := of_decide_eq_true (by first | (with_reducible assumption) | assumption)
      have q157 : x11_1 < (t151.length : Int) := of_decide_eq_true (by first | (with_reducible assumption) | assumption)
      obtain ⟨ad157, e157, hx157_0, hx157_1⟩ := at_T46 (Kd.R_reads' HO_10.out).2.2 x11_1 p157 q157
      cases e157
      replace p157 := eq_true p157
      replace q157 := eq_true q157
      refine start_ (n := 20) (S := fun w' => w'.cell? ⟨gb147, 0, none⟩ = some (.int .i8 a1_0) ∧ w'.cell? ⟨gb147, 1, none⟩ = some (.int .i8 a1_1) ∧ w'.cell? (ad157.add ((x11_1).toNat * 2)) = some (.int .i8 ((rd_T46 t151 x11_1).f0)) ∧ w'.cell? ⟨(ad157.add ((x11_1).toNat * 2)).block, (ad157.add ((x11_1).toNat * 2)).off + 1, none⟩ = some (.int .i8 ((rd_T46 t151 x11_1).f1))) (ds := []) #[false, false, false, false, false, false, false, false, false, false, false, false, false, false, false, false, false, false, false, false] (by kernel_rfl) rfl rfl ⟨(blk_cell BK147.out 0).trans rfl, (blk_cell BK147.out 1).trans rfl, hx157_0, hx157_1⟩ (fun hHeld => ?_); refine with_tabW spec_l01Over.tab6 spec_l01Over.bits6 (fun HT_ HW_ => ?_)
      generalize wr.drew = w27 at HO_9 HO_10 BK147 HI0 HK HB hx157_0 hx157_1 hHeld ⊢
      refine pS (i := 0) (some 21) #[true, false, false, false, false, false, false, false, false, false, false, false, false, false, false, false, false, false, false, false] (any_of HT_.out (by kernel_rfl)) ?_
      refine pS (i := 1) (some 22) #[true, true, false, false, false, false, false, false, false, false, false, false, false, false, false, false, false, false, false, false] (any_of HT_.out (by kernel_rfl)) ?_
      refine pS (i := 2) (some 23) #[true, true, true, false, false, false, false, false, false, false, false, false, false, false, false, false, false, false, false, false] (any_of HT_.out (by kernel_rfl)) ?_
      refine pS (i := 6) (some 27) #[true, true, true, false, false, false, true, false, false, false, false, false, false, false, false, false, false, false, false, false] (any_of HT_.out (by kernel_rfl)) ?_
      refine pS (i := 7) (some 28) #[true, true, true, false, false, false, true, true, false, false, false, false, false, false, false, false, false, false, false, false] (any_of HT_.out (by kernel_rfl)) ?_
      refine pS (i := 8) (some 29) #[true, true, true, false, false, false, true, true, true, false, false, false, false, false, false, false, false, false, false, false] (any_of HT_.out (by kernel_rfl)) ?_
      refine tS (i := 3) (some 24) #[true, true, true, true, false, false, true, true, true, false, false, false, false, false, false, false, false, false, false, false] (take_ofW HT_.out HW_.out (by kernel_rfl)) hHeld ?_
      refine tS (i := 4) (some 25) #[true, true, true, true, true, false, true, true, true, false, false, false, false, false, false, false, false, false, false, false] (take_ofW HT_.out HW_.out (by kernel_rfl)) hHeld ?_
      refine one_ (i := 5) (N := some 26) #[true, true, true, true, true, true, true, true, true, false, false, false, false, false, false, false, false, false, false, false] rfl rfl (one_of HT_.out (by kernel_rfl)) (by decide) (fun K hK => ?_)
      refine goes_ Try.func45 (by kernel_rfl) rfl #[.agg #[.int .i8 ((rd_T46 t151 x11_1).f0), .int .i8 ((rd_T46 t151 x11_1).f1)], .agg #[.int .i8 a1_0, .int .i8 a1_1]] (by rfl) rfl rfl (by (try simp only [List.map_toArray, List.map_cons, List.map_nil]); first | done | rfl | (simp only [List.length_drop, List.length_take]; rfl)) ?_
      with_reducible refine (spec_l01Far.calls ((rd_T46 t151 x11_1).f0) ((rd_T46 t151 x11_1).f1) a1_0 a1_1 t158 _ A12.out).mono ?_
      rintro e w28 ⟨rfl, hb⟩
      have HS2_ := (hb.cell (World.block_lt_of_cell? _ _ (hHeld.2.2.1))).trans (hHeld.2.2.1)
      have HS3_ := (hb.cell (World.block_lt_of_cell? _ _ (hHeld.2.2.2))).trans (hHeld.2.2.2)
      refine ⟨_, rfl, ?_⟩
      have n0_ := am (Kd.R_below (kr HO_9) hb)
      have n1_ := am (Kd.R_below (kr HO_10) hb)
      have n2_ := bB BK147 hb
      have n3_ := am (IsS32.below (si32 HI0) hb)
      have n4_ := am (KeepBut.trans (ke HK) (KeepBut.of_below hb g none) (.inl rfl))
      have n5_ := am (below_step (be HB) hb)
      clear HO_9
      clear HO_10
      clear BK147
      clear HI0
      clear HK
      clear HB
      have HO_9 := n0_
      have HO_10 := n1_
      have BK147 := n2_
      have HI0 := n3_
      have HK := n4_
      have HB := n5_
      clear n0_ n1_ n2_ n3_ n4_ n5_
      (try clear hb)
      (try clear hb2)
      (try clear hk)
      (try clear hi)
      refine hK.out _ _ ⟨(blk_cell BK147.out 0).trans rfl, (blk_cell BK147.out 1).trans rfl, HS2_, HS3_⟩ (fun hHeld => ?_)
      clear hK K
      refine norm_ (a' := ?_) ?_ ?_
      rotate_left
      ·show Act.put _ (some 26) _ = _
       simp only [Act.put, List.setIfInBounds_toArray, List.set_cons_zero, List.set_cons_succ, i64_w, i32_w]
       rfl
      refine pS (i := 9) (some 30) #[true, true, true, true, true, true, true, true, true, true, false, false, false, false, false, false, false, false, false, false] (any_of HT_.out (by kernel_rfl)) ?_
      refine pS (i := 10) (some 31) #[true, true, true, true, true, true, true, true, true, true, true, false, false, false, false, false, false, false, false, false] (any_of HT_.out (by kernel_rfl)) ?_
      refine pure_ (i := 11) (N := some 32) (v := undef) (a' := ?_) #[true, true, true, true, true, true, true, true, true, true, true, true, false, false, false, false, false, false, false, false] rfl rfl (any_of HT_.out (by kernel_rfl)) (fun _ _ _ h => h) (Or.inr ⟨by rfl, rfl⟩) ?_ ?_
      rotate_left
      ·simp only [Act.put, List.setIfInBounds_toArray, List.set_cons_zero, List.set_cons_succ, i64_w, i32_w]
       rfl
      refine pure_ (i := 12) (N := some 33) (v := undef) (a' := ?_) #[true, true, true, true, true, true, true, true, true, true, true, true, true, false, false, false, false, false, false, false] rfl rfl (any_of HT_.out (by kernel_rfl)) (fun _ _ _ h => h) (Or.inr ⟨by rfl, rfl⟩) ?_ ?_
      rotate_left
      ·simp only [Act.put, List.setIfInBounds_toArray, List.set_cons_zero, List.set_cons_succ, i64_w, i32_w]
       rfl
      refine pure_ (i := 13) (N := some 34) (v := undef) (a' := ?_) #[true, true, true, true, true, true, true, true, true, true, true, true, true, true, false, false, false, false, false, false] rfl rfl (any_of HT_.out (by kernel_rfl)) (fun _ _ _ h => h) (Or.inr ⟨by rfl, rfl⟩) ?_ ?_
      rotate_left
      ·simp only [Act.put, List.setIfInBounds_toArray, List.set_cons_zero, List.set_cons_succ, i64_w, i32_w]
       rfl
      refine pure_ (i := 14) (N := some 35) (v := undef) (a' := ?_) #[true, true, true, true, true, true, true, true, true, true, true, true, true, true, true, false, false, false, false, false] rfl rfl (any_of HT_.out (by kernel_rfl)) (fun _ _ _ h => h) (Or.inr ⟨by rfl, rfl⟩) ?_ ?_
      rotate_left
      ·simp only [Act.put, List.setIfInBounds_toArray, List.set_cons_zero, List.set_cons_succ, i64_w, i32_w]
       rfl
      refine pure_ (i := 15) (N := some 36) (v := undef) (a' := ?_) #[true, true, true, true, true, true, true, true, true, true, true, true, true, true, true, true, false, false, false, false] rfl rfl (any_of HT_.out (by kernel_rfl)) (fun _ _ _ h => h) (Or.inr ⟨by rfl, rfl⟩) ?_ ?_
      rotate_left
      ·simp only [Act.put, List.setIfInBounds_toArray, List.set_cons_zero, List.set_cons_succ, i64_w, i32_w]
       rfl
      refine pure_ (i := 16) (N := some 37) (v := undef) (a' := ?_) #[true, true, true, true, true, true, true, true, true, true, true, true, true, true, true, true, true, false, false, false] rfl rfl (any_of HT_.out (by kernel_rfl)) (fun _ _ _ h => h) (Or.inr ⟨by rfl, rfl⟩) ?_ ?_
      rotate_left
      ·simp only [Act.put, List.setIfInBounds_toArray, List.set_cons_zero, List.set_cons_succ, i64_w, i32_w]
       rfl
      refine pure_ (i := 17) (N := some 38) (v := undef) (a' := ?_) #[true, true, true, true, true, true, true, true, true, true, true, true, true, true, true, true, true, true, false, false] rfl rfl (any_of HT_.out (by kernel_rfl)) (fun _ _ _ h => h) (Or.inr ⟨by rfl, rfl⟩) ?_ ?_
      rotate_left
      ·simp only [Act.put, List.setIfInBounds_toArray, List.set_cons_zero, List.set_cons_succ, i64_w, i32_w]
       rfl
      refine pure_ (i := 18) (N := some 39) (v := undef) (a' := ?_) #[true, true, true, true, true, true, true, true, true, true, true, true, true, true, true, true, true, true, true, false] rfl rfl (any_of HT_.out (by kernel_rfl)) (fun _ _ _ h => h) (Or.inr ⟨by rfl, rfl⟩) ?_ ?_
      rotate_left
      ·simp only [Act.put, List.setIfInBounds_toArray, List.set_cons_zero, List.set_cons_succ, i64_w, i32_w]
       rfl
      refine pS (i := 19) (some 40) #[true, true, true, true, true, true, true, true, true, true, true, true, true, true, true, true, true, true, true, true] (any_of HT_.out (by kernel_rfl)) ?_
      refine done_ (done_of HT_.out (by kernel_rfl)) ?_
      try go_wp2
      go_roundg k1
      case measure => have := HK1.out; omega
      case rel => exact ⟨(x9_1), (wrap64 (x11_1 + 1)), (x1000_1), (x1001_1), (x1002_1), vv, H', ⟨by have := HK1.out; omega⟩, ⟨kr HO_9⟩, ⟨kr HO_10⟩, ⟨kb BK147⟩, ⟨si32 HI0⟩, ⟨ke HK⟩, ⟨be HB⟩⟩
    ·rw [if_neg c11] at H
     exact absurd H (by simp)
   ·rw [if_neg c10] at H
    have c10b0 : decide (x11_1 < (t151.length : Int)) = false := decide_eq_false c10
    clear c10
    simp only [Option.some.injEq, Prod.mk.injEq] at H
    obtain ⟨rfl, rfl, rfl, rfl⟩ := H
    obtain ⟨Ao29, co29, eo29⟩ := Kd.R_slice HO_10.out
    subst eo29
    go_wp2
    go_ret
    exact ⟨_, by first | rfl | (simp [errW_none, errW_some] <;> rfl) | (simp [*, errW_none, errW_some] <;> rfl), by (with_reducible repeat (first | apply Kd.R_alloc | apply Kd.R_drewN | apply Kd.R_drew)); exact Kd.R_mono HO_9.out (fun _ hk => trivial), si32 HI0, be HB, ke HK⟩

end Go.Proofs.Ytigafbmdedjgdaa.PFnExactMostBoats
