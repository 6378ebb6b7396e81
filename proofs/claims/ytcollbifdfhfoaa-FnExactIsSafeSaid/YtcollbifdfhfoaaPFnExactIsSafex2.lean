-- Written by a program out of this seat's translation (functions, and that the code comes to them).
import Derived.Test.YtcollbifdfhfoaaPFnExactIsSafex0
import Derived.Test.YtcollbifdfhfoaaPFnExactIsSafex1
namespace Go.Proofs.Ytcollbifdfhfoaa.PFnExactIsSafe
open Go.RowKit Go.Proofs.YtcollbifdfhfoaaW.PrintWords Go.Proofs.YtcollbifdfhfoaaW.PrintLast Go.Proofs.YtcollbifdfhfoaaW.PrintMore
attribute [local go_sem] max2_int min2_int max_two min_two max_three min_three max_four min_four   -- for this text's walks alone
open Go.Proofs.Ytcollbifdfhfoaa.Bay Go.Proofs.Ytcollbifdfhfoaa.Short
attribute [local go_sem ↓] lv26_eq lv28_eq
attribute [local go_sem] lvv_set lvv_drewN lvv_drew lv26_run BayAt26_set BayAt26_drewN BayAt26_drew lv28_run BayAt28_set BayAt28_drewN BayAt28_drew
set_option linter.unusedVariables false
set_option linter.unusedSimpArgs false

/-! ### spec_l01Asked: function 117 -/
def spec_l01Asked.l0 : Nat → List (S38) → Int → Int → Int → (Nat → Int) → Option (Int × Int × Int × (Nat → Int))
  | 0, _, _, _, _, _ => none
  | k + 1, x1, x5, x1000, x1001, x1002 => if x5 < (x1.length : Int) then (if 0 ≤ x5 then ((spec_l01Boat.f x1000 x1001 x1002 ((rd_T38 x1 x5).f0.f0) ((rd_T38 x1 x5).f0.f1) ((rd_T38 x1 x5).f1) ((rd_T38 x1 x5).f2) ((rd_T38 x1 x5).f3) ((rd_T38 x1 x5).f4)).bind fun bt138 => (if bt138.1 = true then (spec_l01Asked.l0 k x1 (wrap64 (x5 + 1)) bt138.2.1 bt138.2.2.1 bt138.2.2.2) else (some (1, bt138.2.1, bt138.2.2.1, bt138.2.2.2)))) else (none)) else (if (x1.length : Int) > 10 then (some (3, x1000, x1001, x1002)) else (some (0, x1000, x1001, x1002)))
def spec_l01Asked.f (k : Nat) (s0_0 : Int) (s0_1 : Int) (s0_2 : (Nat → Int)) (l1 : List (S38)) : Option (Int × Int × Int × (Nat → Int)) := (spec_l01Bay.f k s0_0 s0_1 s0_2).bind fun bt133 => (if bt133.1 = true then (spec_l01Asked.l0 k l1 0 bt133.2.1 bt133.2.2.1 bt133.2.2.2) else (some (1, bt133.2.1, bt133.2.2.1, bt133.2.2.2)))
set_option maxHeartbeats 8000000 in
set_option maxRecDepth 100000 in
theorem spec_l01Asked.calls (k : Nat) (g : Nat) (s0_0 : Int) (s0_1 : Int) (s0_2 : (Nat → Int)) (A1 : Option Addr) (c1 : Nat) (l1 : List (S38)) (r1 : Int) (r2 : Int) (r3 : Int) (r4 : (Nat → Int)) (w0 w : World) (hI : IsS28 w0 w g s0_0 s0_1 s0_2) (hB : Below w0.heap.size w0 w) (hr1 : ∀ W_, KeepBut w W_ g none → Kd.C k38 W_ A1 l1.length l1) (hc1 : l1.length ≤ c1) (h : spec_l01Asked.f k s0_0 s0_1 s0_2 l1 = some (r1, r2, r3, r4)) :
    Calls Try.prog 117 #[.pointer (some ⟨g, 0, none⟩), .slice A1 l1.length c1] w fun e w' => e = .returned (.int .i64 r1) ∧ IsS28 w0 w' g r2 r3 r4 ∧ Below w0.heap.size w0 w' ∧ KeepBut w w' g none := by
  have hu38 := Try.underlying38
  have HR1 := am hr1
  have HC1 := am hc1
  clear hr1 hc1
  have HI0 := am hI
  have HK := am (KeepBut.refl w g none)
  have HL := am hB.size
  clear hI
  have HW0 := am hB.size
  have HB := am hB
  clear hB
  have H : ((spec_l01Bay.f k s0_0 s0_1 s0_2).bind fun bt133 => (if bt133.1 = true then (spec_l01Asked.l0 k l1 0 bt133.2.1 bt133.2.2.1 bt133.2.2.2) else (some (1, bt133.2.1, bt133.2.2.1, bt133.2.2.2)))) = some (r1, r2, r3, r4) := h
  clear h
  replace H := Option.bind_eq_some_iff.mp H
  obtain ⟨⟨t133, t134, t135, t136⟩, A30, H⟩ := H
  try dsimp only at H
  have A3 := am A30
  clear A30
  by_cases c4 : t133 = true
  · subst c4
    rw [if_pos rfl] at H
    have H' := am H
    clear H
    go_enter Try.func117, Try.ntmps117
    go_wp2_with (first | ((with_reducible refine gate_callee (f := 103) rfl ?_); refine gL (some 7) Try.func103 #[.pointer (some ⟨g, 0, none⟩)] ?_; (with_reducible refine (spec_l01Bay.calls k g s0_0 s0_1 s0_2 true t134 t135 t136 w0 _ ?side1 ?side2 A3.out).mono ?_); (case side1 => exact si28 HI0); (case side2 => exact be HB); rintro e w5 ⟨rfl, hi, hb, hk⟩; refine ⟨_, rfl, ?_⟩; replace HK := am (KeepBut.trans (ke HK) hk (.inl rfl)); replace HB := am (hb); replace HI0 := am (hi); (try clear hb); (try clear hb2); (try clear hk); (try clear hi)))
    go_loopg [5] k (fun kq v5 w' => ∃ (x5_1 : Int) (x1000_1 : Int) (x1001_1 : Int) (x1002_1 : (Nat → Int)), v5 = .int .i64 x5_1 ∧ Aside0 (spec_l01Asked.l0 kq l1 x5_1 x1000_1 x1001_1 x1002_1 = some (r1, r2, r3, r4)) ∧ Aside0 (kq ≤ k) ∧ Aside0 (IsS28 w0 w' g x1000_1 x1001_1 x1002_1) ∧ Aside0 (KeepBut w w' g none) ∧ Aside0 (Below w0.heap.size w0 w'))
    case atStart => exact ⟨(0), (t134), (t135), (t136), vv, H', ⟨Nat.le_refl _⟩, ⟨si28 HI0⟩, ⟨ke HK⟩, ⟨be HB⟩⟩
    case round =>
      clear H'
      try clear c1
      try clear p2
      try clear c4
      obtain ⟨x5_1, x1000_1, x1001_1, x1002_1, rfl, HA, HK1, HI0, HK, HB⟩ := hrel
      cases gk with
      | zero => exact absurd HA.out (by simp [spec_l01Asked.l0])
      | succ k1 =>
        have H := HA.out
        clear HA
        simp only [spec_l01Asked.l0] at H
        by_cases c6 : x5_1 < (l1.length : Int)
        · rw [if_pos c6] at H
          have c6b0 : decide (x5_1 < (l1.length : Int)) = true := decide_eq_true c6
          clear c6
          by_cases c7 : 0 ≤ x5_1
          · rw [if_pos c7] at H
            have c7b0 : decide (0 ≤ x5_1) = true := decide_eq_true c7
            have c7b1 : 0 ≤ x5_1 := c7
            clear c7
            replace H := Option.bind_eq_some_iff.mp H
            obtain ⟨⟨t138, t139, t140, t141⟩, A80, H⟩ := H
            try dsimp only at H
            have A8 := am A80
            clear A80
            by_cases c9 : t138 = true
            · subst c9
              rw [if_pos rfl] at H
              have H' := am H
              clear H
              have p137 : 0 ≤ (x5_1 : Int) := of_decide_eq_true (by first | (with_reducible assumption) | assumption)
              have q137 : x5_1 < (l1.length : Int) := of_decide_eq_true (by first | (with_reducible assumption) | assumption)
              obtain ⟨ad137, e137, hx137_0, hx137_1, hx137_2, hx137_3, hx137_4, hx137_5⟩ := at_T38 (Kd.C_foot_now HR1.out HK.out) x5_1 p137 q137
              cases e137
              replace p137 := eq_true p137
              replace q137 := eq_true q137
              go_wp2_with (first | ((with_reducible refine gate_callee (f := 105) rfl ?_); refine gL (some 20) Try.func105 #[.pointer (some ⟨g, 0, none⟩), .agg #[.int .i8 ((rd_T38 l1 x5_1).f0.f0), .int .i8 ((rd_T38 l1 x5_1).f0.f1), .int .i8 ((rd_T38 l1 x5_1).f1), .int .i8 ((rd_T38 l1 x5_1).f2), .int .i8 ((rd_T38 l1 x5_1).f3), .int .i8 ((rd_T38 l1 x5_1).f4)]] ?_; (with_reducible refine (spec_l01Boat.calls g x1000_1 x1001_1 x1002_1 ((rd_T38 l1 x5_1).f0.f0) ((rd_T38 l1 x5_1).f0.f1) ((rd_T38 l1 x5_1).f1) ((rd_T38 l1 x5_1).f2) ((rd_T38 l1 x5_1).f3) ((rd_T38 l1 x5_1).f4) true t139 t140 t141 w0 _ ?side1 ?side2 A8.out).mono ?_); (case side1 => exact si28 HI0); (case side2 => exact be HB); rintro e w10 ⟨rfl, hi, hb, hk⟩; refine ⟨_, rfl, ?_⟩; replace HK := am (KeepBut.trans (ke HK) hk (.inl rfl)); replace HB := am (hb); replace HI0 := am (hi); (try clear hb); (try clear hb2); (try clear hk); (try clear hi)))
              go_roundg k1
              case measure => have := HK1.out; omega
              case rel => exact ⟨(wrap64 (x5_1 + 1)), (t139), (t140), (t141), vv, H', ⟨by have := HK1.out; omega⟩, ⟨si28 HI0⟩, ⟨ke HK⟩, ⟨be HB⟩⟩
            · replace c9 := Bool.eq_false_iff.mpr c9
              subst c9
              have H1 : (some (1, t139, t140, t141)) = some (r1, r2, r3, r4) := by rw [if_neg (show ¬ (false = true) by decide)] at H; exact H
              clear H
              have H := H1
              clear H1
              simp only [Option.some.injEq, Prod.mk.injEq] at H
              obtain ⟨rfl, rfl, rfl, rfl⟩ := H
              have p137 : 0 ≤ (x5_1 : Int) := of_decide_eq_true (by first | (with_reducible assumption) | assumption)
              have q137 : x5_1 < (l1.length : Int) := of_decide_eq_true (by first | (with_reducible assumption) | assumption)
              obtain ⟨ad137, e137, hx137_0, hx137_1, hx137_2, hx137_3, hx137_4, hx137_5⟩ := at_T38 (Kd.C_foot_now HR1.out HK.out) x5_1 p137 q137
              cases e137
              replace p137 := eq_true p137
              replace q137 := eq_true q137
              go_wp2_with (first | ((with_reducible refine gate_callee (f := 105) rfl ?_); refine gL (some 20) Try.func105 #[.pointer (some ⟨g, 0, none⟩), .agg #[.int .i8 ((rd_T38 l1 x5_1).f0.f0), .int .i8 ((rd_T38 l1 x5_1).f0.f1), .int .i8 ((rd_T38 l1 x5_1).f1), .int .i8 ((rd_T38 l1 x5_1).f2), .int .i8 ((rd_T38 l1 x5_1).f3), .int .i8 ((rd_T38 l1 x5_1).f4)]] ?_; (with_reducible refine (spec_l01Boat.calls g x1000_1 x1001_1 x1002_1 ((rd_T38 l1 x5_1).f0.f0) ((rd_T38 l1 x5_1).f0.f1) ((rd_T38 l1 x5_1).f1) ((rd_T38 l1 x5_1).f2) ((rd_T38 l1 x5_1).f3) ((rd_T38 l1 x5_1).f4) false t139 t140 t141 w0 _ ?side1 ?side2 A8.out).mono ?_); (case side1 => exact si28 HI0); (case side2 => exact be HB); rintro e w11 ⟨rfl, hi, hb, hk⟩; refine ⟨_, rfl, ?_⟩; replace HK := am (KeepBut.trans (ke HK) hk (.inl rfl)); replace HB := am (hb); replace HI0 := am (hi); (try clear hb); (try clear hb2); (try clear hk); (try clear hi)))
              go_ret
              exact ⟨by first | rfl | (simp [errW_none, errW_some] <;> rfl) | (simp [*, errW_none, errW_some] <;> rfl), si28 HI0, be HB, ke HK⟩
          · rw [if_neg c7] at H
            exact absurd H (by simp)
        · rw [if_neg c6] at H
          have c6b0 : decide (x5_1 < (l1.length : Int)) = false := decide_eq_false c6
          clear c6
          by_cases c12 : (l1.length : Int) > 10
          · rw [if_pos c12] at H
            have c12b0 : decide (10 < (l1.length : Int)) = true := decide_eq_true c12
            have c12b1 : decide (10 < l1.length) = true := decide_eq_true (by omega)
            clear c12
            simp only [Option.some.injEq, Prod.mk.injEq] at H
            obtain ⟨rfl, rfl, rfl, rfl⟩ := H
            go_wp2
            go_ret
            exact ⟨by first | rfl | (simp [errW_none, errW_some] <;> rfl) | (simp [*, errW_none, errW_some] <;> rfl), si28 HI0, be HB, ke HK⟩
          · rw [if_neg c12] at H
            have c12b0 : decide (10 < (l1.length : Int)) = false := decide_eq_false c12
            have c12b1 : decide (10 < l1.length) = false := decide_eq_false (by omega)
            clear c12
            simp only [Option.some.injEq, Prod.mk.injEq] at H
            obtain ⟨rfl, rfl, rfl, rfl⟩ := H
            go_wp2
            go_ret
            exact ⟨by first | rfl | (simp [errW_none, errW_some] <;> rfl) | (simp [*, errW_none, errW_some] <;> rfl), si28 HI0, be HB, ke HK⟩
  · replace c4 := Bool.eq_false_iff.mpr c4
    subst c4
    have H1 : (some (1, t134, t135, t136)) = some (r1, r2, r3, r4) := by rw [if_neg (show ¬ (false = true) by decide)] at H; exact H
    clear H
    have H := H1
    clear H1
    simp only [Option.some.injEq, Prod.mk.injEq] at H
    obtain ⟨rfl, rfl, rfl, rfl⟩ := H
    go_enter Try.func117, Try.ntmps117
    go_wp2_with (first | ((with_reducible refine gate_callee (f := 103) rfl ?_); refine gL (some 7) Try.func103 #[.pointer (some ⟨g, 0, none⟩)] ?_; (with_reducible refine (spec_l01Bay.calls k g s0_0 s0_1 s0_2 false t134 t135 t136 w0 _ ?side1 ?side2 A3.out).mono ?_); (case side1 => exact si28 HI0); (case side2 => exact be HB); rintro e w13 ⟨rfl, hi, hb, hk⟩; refine ⟨_, rfl, ?_⟩; replace HK := am (KeepBut.trans (ke HK) hk (.inl rfl)); replace HB := am (hb); replace HI0 := am (hi); (try clear hb); (try clear hb2); (try clear hk); (try clear hi)))
    go_ret
    exact ⟨by first | rfl | (simp [errW_none, errW_some] <;> rfl) | (simp [*, errW_none, errW_some] <;> rfl), si28 HI0, be HB, ke HK⟩

/-! ### spec_l01All: function 109 -/
mutual
def spec_l01All.l0 : Nat → List (S36) → Int → Int → Int → (Nat → Int) → Option ((List (S36)) × Int × Int × (Nat → Int))
  | 0, _, _, _, _, _ => none
  | k + 1, x3, x4, x1000, x1001, x1002 => if x4 < x1001 then (spec_l01All.l1 k x3 x4 0 x1000 x1001 x1002) else (some (x3, x1000, x1001, x1002))
def spec_l01All.l1 : Nat → List (S36) → Int → Int → Int → Int → (Nat → Int) → Option ((List (S36)) × Int × Int × (Nat → Int))
  | 0, _, _, _, _, _, _ => none
  | k + 1, x3, x4, x5, x1000, x1001, x1002 => if x5 < x1000 then (if x3.length < 70368744177664 then (spec_l01All.l1 k (x3 ++ [(⟨x5, x4⟩ : S36)]) x4 (IntKind.i8.wrap (x5 + 1)) x1000 x1001 x1002) else (none)) else (spec_l01All.l0 k x3 (IntKind.i8.wrap (x4 + 1)) x1000 x1001 x1002)
end
def spec_l01All.f (k : Nat) (s0_0 : Int) (s0_1 : Int) (s0_2 : (Nat → Int)) : Option ((List (S36)) × Int × Int × (Nat → Int)) := spec_l01All.l0 k (([] : List (S36))) 0 s0_0 s0_1 s0_2
set_option maxHeartbeats 8000000 in
set_option maxRecDepth 100000 in
theorem spec_l01All.calls (k : Nat) (g : Nat) (s0_0 : Int) (s0_1 : Int) (s0_2 : (Nat → Int)) (r1 : List (S36)) (r2 : Int) (r3 : Int) (r4 : (Nat → Int)) (w0 w : World) (hI : IsS28 w0 w g s0_0 s0_1 s0_2) (hB : Below w0.heap.size w0 w) (h : spec_l01All.f k s0_0 s0_1 s0_2 = some (r1, r2, r3, r4)) :
    Calls Try.prog 109 #[.pointer (some ⟨g, 0, none⟩)] w fun e w' => ∃ v0_ : Value, e = .returned (v0_) ∧ Kd.R k36 36 w' w.heap.size (fun _ => True) v0_ r1 ∧ IsS28 w0 w' g r2 r3 r4 ∧ Below w0.heap.size w0 w' ∧ KeepBut w w' g none := by
  have hu36 := Try.underlying36
  have HI0 := am hI
  have HK := am (KeepBut.refl w g none)
  have HL := am hB.size
  clear hI
  have HW0 := am hB.size
  have HB := am hB
  clear hB
  have H : (spec_l01All.l0 k (([] : List (S36))) 0 s0_0 s0_1 s0_2) = some (r1, r2, r3, r4) := h
  clear h
  obtain ⟨y142, hy142⟩ : ∃ y_ : List (S36), y_ = (([] : List (S36))) := ⟨_, rfl⟩
  replace H : (spec_l01All.l0 k y142 0 s0_0 s0_1 s0_2) = some (r1, r2, r3, r4) := by first | (rw [hy142]; with_reducible exact H) | (have H2_ := (Option.bind_some _ _).symm.trans H; rw [hy142]; with_reducible exact H2_) | (have H2_ := (Option.bind_some _ _).symm.trans H; with_reducible exact H2_) | with_reducible exact H | (rw [hy142]; exact H) | exact H
  have Ny142 := am hy142
  clear hy142
  have H' := am H
  clear H
  go_enter Try.func109, Try.ntmps109
  go_wp2_with (first | ((with_reducible refine gate_dst (N := 6) rfl ?_); refine Kd.R_lit k36 _ 36 ?hg (N := 6) ?hd (xs := ([] : List (S36))) (inner := []) (ok := fun _ => True) (okp := fun _ => True) ?hr ?hp (fun _ hk => hk) trivial (Below.refl _ _) (Nat.le_refl _) (by simp) ?_; (case hd => rfl); (case hg => rfl); (case hr => first | (go_simp; done) | (go_simp; rfl)); (case hp => exact (Reps.none _ _)); intro v143 w2 ho3 hb hg_ hnew_; clear hg_ hnew_; (first | rw [← Ny142.out] at ho3 | (simp only [Int.reduceToNat] at ho3; rw [← Ny142.out] at ho3)); have HO144 := am (Kd.R_lower ho3 (keep_size (w := w) (g := g) (row := none) (ke HK))); replace HI0 := am (IsS28.below (si28 HI0) hb); replace HK := am (KeepBut.trans (ke HK) (KeepBut.of_below hb g none) (.inl rfl)); replace HB := am (below_step (be HB) hb); clear hb ho3))
  go_loopg [3, 4] k (fun kq v3 v4 w' => ∃ (x3_1 : List (S36)) (x4_1 : Int), v4 = .int .i8 x4_1 ∧ Aside0 (spec_l01All.l0 kq x3_1 x4_1 s0_0 s0_1 s0_2 = some (r1, r2, r3, r4)) ∧ Aside0 (kq ≤ k) ∧ Aside0 (Kd.R k36 36 w' w.heap.size (fun _ => True) v3 x3_1) ∧ Aside0 (IsS28 w0 w' g s0_0 s0_1 s0_2) ∧ Aside0 (KeepBut w w' g none) ∧ Aside0 (Below w0.heap.size w0 w'))
  case atStart => exact ⟨(y142), (0), vv, H', ⟨Nat.le_refl _⟩, ⟨kr HO144⟩, ⟨si28 HI0⟩, ⟨ke HK⟩, ⟨be HB⟩⟩
  case round =>
    clear H'
    try clear c1
    try clear p2
    obtain ⟨x3_1, x4_1, rfl, HA, HK1, HO_3, HI0, HK, HB⟩ := hrel
    cases gk with
    | zero => exact absurd HA.out (by simp [spec_l01All.l0])
    | succ k1 =>
      have H := HA.out
      clear HA
      simp only [spec_l01All.l0] at H
      by_cases c4 : x4_1 < s0_1
      · rw [if_pos c4] at H
        have c4b0 : decide (x4_1 < s0_1) = true := decide_eq_true c4
        clear c4
        have H' := am H
        clear H
        obtain ⟨HGz5, hgz5⟩ := HI0.out
        have hcz5_0 := cellS28_0 HGz5
        have hcz5_1 := cellS28_1 HGz5
        have hwz5 := lv28_at HGz5; have haz5 := at_cells HGz5; have hyz5 := BayAt28_of HGz5; have hvz5 := lvv_of HGz5
        have hfz5_0 := blk_frozen HGz5 0
        have hfz5_1 := blk_frozen HGz5 1
        have hfz5_2 := blk_frozen HGz5 2
        clear HGz5 hgz5
        go_wp2
        go_loopg [3, 5] k1 (fun kq v3 v5 w' => ∃ (x3_2 : List (S36)) (x5_2 : Int), v5 = .int .i8 x5_2 ∧ Aside0 (spec_l01All.l1 kq x3_2 x4_1 x5_2 s0_0 s0_1 s0_2 = some (r1, r2, r3, r4)) ∧ Aside0 (kq ≤ k1) ∧ Aside0 (Kd.R k36 36 w' w.heap.size (fun _ => True) v3 x3_2) ∧ Aside0 (IsS28 w0 w' g s0_0 s0_1 s0_2) ∧ Aside0 (KeepBut w w' g none) ∧ Aside0 (Below w0.heap.size w0 w'))
        case atStart => exact ⟨(x3_1), (0), vv, H', ⟨Nat.le_refl _⟩, ⟨kr HO_3⟩, ⟨si28 HI0⟩, ⟨ke HK⟩, ⟨be HB⟩⟩
        case round =>
          clear H'
          try clear c1
          try clear p2
          try clear c4
          try clear c4b0
          try clear hcz5_0
          try clear hcz5_1
          try clear hfz5_0
          try clear hfz5_1
          try clear hfz5_2
          try clear p2
          obtain ⟨x3_2, x5_2, rfl, HA, HK2, HO_3, HI0, HK, HB⟩ := hrel
          cases gk with
          | zero => exact absurd HA.out (by simp [spec_l01All.l1])
          | succ k2 =>
            have H := HA.out
            clear HA
            simp only [spec_l01All.l1] at H
            by_cases c6 : x5_2 < s0_0
            · rw [if_pos c6] at H
              have c6b0 : decide (x5_2 < s0_0) = true := decide_eq_true c6
              clear c6
              by_cases c7 : x3_2.length < 70368744177664
              · rw [if_pos c7] at H
                have LMc7 := am c7
                clear c7
                obtain ⟨y145, hy145⟩ : ∃ y_ : List (S36), y_ = (x3_2 ++ [(⟨x5_2, x4_1⟩ : S36)]) := ⟨_, rfl⟩
                replace H : (spec_l01All.l1 k2 y145 x4_1 (IntKind.i8.wrap (x5_2 + 1)) s0_0 s0_1 s0_2) = some (r1, r2, r3, r4) := by first | (rw [hy145]; with_reducible exact H) | (have H2_ := (Option.bind_some _ _).symm.trans H; rw [hy145]; with_reducible exact H2_) | (have H2_ := (Option.bind_some _ _).symm.trans H; with_reducible exact H2_) | with_reducible exact H | (rw [hy145]; exact H) | exact H
                have Ny145 := am hy145
                clear hy145
                have H' := am H
                clear H
                obtain ⟨HGz8, hgz8⟩ := HI0.out
                have hcz8_0 := cellS28_0 HGz8
                have hcz8_1 := cellS28_1 HGz8
                have hwz8 := lv28_at HGz8; have haz8 := at_cells HGz8; have hyz8 := BayAt28_of HGz8; have hvz8 := lvv_of HGz8
                have hfz8_0 := blk_frozen HGz8 0
                have hfz8_1 := blk_frozen HGz8 1
                have hfz8_2 := blk_frozen HGz8 2
                clear HGz8 hgz8
                go_wp2_with (first | ((with_reducible refine gate_builtin (b := .append) (xs := #[.tmp 23, .tmp 27]) rfl ?_); at_builtin; refine Kd.R_append k36 w.heap.size rfl (.tmp 23) (.tmp 27) 56 36 (.agg #[(.int .i8 0), (.int .i8 0)]) 2 rfl Try.underlying56 info36 rfl (by decide) (by omega) u3 x3_2 (⟨x5_2, x4_1⟩ : S36) [.int .i8 x5_2, .int .i8 x4_1] (fun _ => True) (fun _ => False) rfl rfl ?aP (fun _ hk => hk.elim) ?aF ?aO (Below.refl _ _) ?aS ?aL ?_; (case aP => exact k36_mkM _ _ _ (⟨x5_2, x4_1⟩ : S36)); (case aF => exact (fun _ _ => trivial)); (case aO => exact (kr HO_3)); (case aS => exact (keep_size (w := w) (g := g) (row := none) (ke HK))); (case aL => have := LMc7.out; omega); intro v146 w9 ho hb hg hat; rw [← Ny145.out] at ho; have HO147 := am (ho); replace HI0 := am (IsS28.grown (si28 HI0) hg (IsS28.own_ne HI0.out HO_3.out (by decide))); replace HB := am (below_weaken (be HB) HL.out hb); replace HK := am (KeepBut.trans (ke HK) (KeepBut.of_grown hg g) (Kd.R_base2 HO_3.out)); clear HO_3; clear ho hb hg hat))
                go_roundg k2
                case measure => have := HK1.out; have := HK2.out; omega
                case rel => exact ⟨(y145), (IntKind.i8.wrap (x5_2 + 1)), vv, H', ⟨by have := HK1.out; have := HK2.out; omega⟩, ⟨kr HO147⟩, ⟨si28 HI0⟩, ⟨ke HK⟩, ⟨be HB⟩⟩
              · rw [if_neg c7] at H
                exact absurd H (by simp)
            · rw [if_neg c6] at H
              have c6b0 : decide (x5_2 < s0_0) = false := decide_eq_false c6
              clear c6
              have H' := am H
              clear H
              obtain ⟨HGz10, hgz10⟩ := HI0.out
              have hcz10_0 := cellS28_0 HGz10
              have hcz10_1 := cellS28_1 HGz10
              have hwz10 := lv28_at HGz10; have haz10 := at_cells HGz10; have hyz10 := BayAt28_of HGz10; have hvz10 := lvv_of HGz10
              have hfz10_0 := blk_frozen HGz10 0
              have hfz10_1 := blk_frozen HGz10 1
              have hfz10_2 := blk_frozen HGz10 2
              clear HGz10 hgz10
              go_wp2
              go_roundg k2
              case measure => have := HK1.out; have := HK2.out; omega
              case rel => exact ⟨(x3_2), (IntKind.i8.wrap (x4_1 + 1)), vv, H', ⟨by have := HK1.out; have := HK2.out; omega⟩, ⟨kr HO_3⟩, ⟨si28 HI0⟩, ⟨ke HK⟩, ⟨be HB⟩⟩
      · rw [if_neg c4] at H
        have c4b0 : decide (x4_1 < s0_1) = false := decide_eq_false c4
        clear c4
        simp only [Option.some.injEq, Prod.mk.injEq] at H
        obtain ⟨rfl, rfl, rfl, rfl⟩ := H
        obtain ⟨HGz11, hgz11⟩ := HI0.out
        have hcz11_0 := cellS28_0 HGz11
        have hcz11_1 := cellS28_1 HGz11
        have hwz11 := lv28_at HGz11; have haz11 := at_cells HGz11; have hyz11 := BayAt28_of HGz11; have hvz11 := lvv_of HGz11
        have hfz11_0 := blk_frozen HGz11 0
        have hfz11_1 := blk_frozen HGz11 1
        have hfz11_2 := blk_frozen HGz11 2
        clear HGz11 hgz11
        go_wp2
        go_ret
        exact ⟨_, by first | rfl | (simp [errW_none, errW_some] <;> rfl) | (simp [*, errW_none, errW_some] <;> rfl), by (with_reducible repeat (first | apply Kd.R_alloc | apply Kd.R_drewN | apply Kd.R_drew)); exact HO_3.out, si28 HI0, be HB, ke HK⟩

/-! ### spec_l01Far: function 170 -/
def spec_l01Far.f (a0_0 : Int) (a0_1 : Int) (a1_0 : Int) (a1_1 : Int) : Option (Int) := some (wrap64 ((wrap64 ((wrap64 ((wrap64 (a0_0)) - (wrap64 (a1_0)))) * (wrap64 ((wrap64 (a0_0)) - (wrap64 (a1_0)))))) + (wrap64 ((wrap64 ((wrap64 (a0_1)) - (wrap64 (a1_1)))) * (wrap64 ((wrap64 (a0_1)) - (wrap64 (a1_1))))))))
set_option maxHeartbeats 8000000 in
set_option maxRecDepth 100000 in
theorem spec_l01Far.calls (a0_0 : Int) (a0_1 : Int) (a1_0 : Int) (a1_1 : Int) (r : Int) (w : World) (h : spec_l01Far.f a0_0 a0_1 a1_0 a1_1 = some r) :
    Calls Try.prog 170 #[.agg #[.int .i8 a0_0, .int .i8 a0_1], .agg #[.int .i8 a1_0, .int .i8 a1_1]] w fun e w' => e = .returned (.int .i64 r) ∧ Below w.heap.size w w' := by
  have hu36 := Try.underlying36
  have HB := am (Below.refl w.heap.size w)
  have H : (some (wrap64 ((wrap64 ((wrap64 ((wrap64 (a0_0)) - (wrap64 (a1_0)))) * (wrap64 ((wrap64 (a0_0)) - (wrap64 (a1_0)))))) + (wrap64 ((wrap64 ((wrap64 (a0_1)) - (wrap64 (a1_1)))) * (wrap64 ((wrap64 (a0_1)) - (wrap64 (a1_1))))))))) = some r := h
  clear h
  obtain rfl := Option.some.inj H
  go_enter Try.func170, Try.ntmps170
  go_wp2_with (first | ((with_reducible refine gate_dst (N := 2) rfl ?_); refine bxe (N := 2) (cs := #[.int .i8 a0_0, .int .i8 a0_1]) (t := 36) ?_; intro gb148 hg w3 hbox hb; have BK148 := am (hbox); have GW148 := am (gN hg (below_size (be HB))); have GE148 := am (gN hg (below_size (be HB))); replace HB := am (below_step (be HB) hb); clear hb hbox hg) | ((with_reducible refine gate_dst (N := 3) rfl ?_); refine bxe (N := 3) (cs := #[.int .i8 a1_0, .int .i8 a1_1]) (t := 36) ?_; intro gb149 hg w4 hbox hb; have BK149 := am (hbox); have GW149 := am (gN hg (below_size (be HB))); have GE149 := am (gN hg (below_size (be HB))); have NB148_149 := nL BK148 hg; have NB149_148 := nR BK148 hg; replace BK148 := bB BK148 hb; replace HB := am (below_step (be HB) hb); clear hb hbox hg; have hnb5 := NB148_149.out; have hnc5 := NB149_148.out; obtain ⟨hcz6_0, hcz6_1, hfz6_0, hfz6_1⟩ := bx2 BK148; obtain ⟨hcz7_0, hcz7_1, hfz7_0, hfz7_1⟩ := bx2 BK149))
  go_ret
  exact ⟨by first | rfl | (simp [errW_none, errW_some] <;> rfl) | (simp [*, errW_none, errW_some] <;> rfl), be HB⟩

end Go.Proofs.Ytcollbifdfhfoaa.PFnExactIsSafe
