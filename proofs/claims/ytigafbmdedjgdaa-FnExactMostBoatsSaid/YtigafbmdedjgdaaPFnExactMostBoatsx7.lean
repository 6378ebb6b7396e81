-- Written by a program out of this seat's translation (functions, and that the code comes to them).
import Derived.Test.YtigafbmdedjgdaaPFnExactMostBoatsx0
import Derived.Test.YtigafbmdedjgdaaPFnExactMostBoatsx2
import Derived.Test.YtigafbmdedjgdaaPFnExactMostBoatsx3
import Derived.Test.YtigafbmdedjgdaaPFnExactMostBoatsx6
namespace Go.Proofs.Ytigafbmdedjgdaa.PFnExactMostBoats
open Go.RowKit Go.Proofs.YtigafbmdedjgdaaW.PrintWords Go.Proofs.YtigafbmdedjgdaaW.PrintLast Go.Proofs.YtigafbmdedjgdaaW.PrintMore
attribute [local go_sem] max2_int min2_int max_two min_two max_three min_three max_four min_four   -- for this text's walks alone
open Go.Proofs.Ytigafbmdedjgdaa.Bay Go.Proofs.Ytigafbmdedjgdaa.Short
attribute [local go_sem ↓] lv26_eq lv32_eq
attribute [local go_sem] lvv_set lvv_drewN lvv_drew lv26_run BayAt26_set BayAt26_drewN BayAt26_drew lv32_run BayAt32_set BayAt32_drewN BayAt32_drew
set_option linter.unusedVariables false
set_option linter.unusedSimpArgs false

/-! ### spec_l01Most: function 15 -/
mutual
def spec_l01Most.l0 : Nat → List (S48) → List Int → List Int → Int → Int → Int → (Nat → Int) → Option (List Int × Int × Int × (Nat → Int))
 | 0, _, _, _, _, _, _, _ => none
 | k + 1, x1, x3, x9, x10, x1000, x1001, x1002 => if x10 < (x1.length : Int) then ((some (([] : List Int) : List Int)).bind fun y210 => (if y210.length + x3.length < 17592186044416 then ((some (y210 ++ x3 : List Int)).bind fun y213 => (if y213.length < 17592186044416 then ((some (y213 ++ [x10] : List Int)).bind fun y216 => ((spec_l01Chosen.f k x1 y216).bind fun t219 => ((spec_l01Right.f k x1000 x1001 x1002 t219).bind fun bt222 => (if bt222.1 = true then ((spec_l01Most.f k bt222.2.1 bt222.2.2.1 bt222.2.2.2 x1 (wrap64 (x10 + 1)) y216).bind fun bt226 => (if (bt226.1.length : Int) > (x9.length : Int) then (spec_l01Most.l0 k x1 x3 bt226.1 (wrap64 (x10 + 1)) bt226.2.1 bt226.2.2.1 bt226.2.2.2) else (spec_l01Most.l0 k x1 x3 x9 (wrap64 (x10 + 1)) bt226.2.1 bt226.2.2.1 bt226.2.2.2))) else (spec_l01Most.l0 k x1 x3 x9 (wrap64 (x10 + 1)) bt222.2.1 bt222.2.2.1 bt222.2.2.2))))) else (none))) else (none))) else (some (x9, x1000, x1001, x1002))
def spec_l01Most.f : Nat → Int → Int → (Nat → Int) → List (S48) → Int → List Int → Option (List Int × Int × Int × (Nat → Int))
 | 0, _, _, _, _, _, _ => none
 | k + 1, s0_0, s0_1, s0_2, l1, a2, l3 => spec_l01Most.l0 k l1 l3 l3 a2 s0_0 s0_1 s0_2
end
set_option maxHeartbeats 8000000 in
set_option maxRecDepth 100000 in
theorem spec_l01Most.calls (k : Nat) : ∀ (g : Nat) (s0_0 : Int) (s0_1 : Int) (s0_2 : (Nat → Int)) (A1 : Option Addr) (c1 : Nat) (l1 : List (S48)) (a2 : Int) (P3_ : Nat → Prop) (A3 : Option Addr) (c3 : Nat) (l3 : List Int) (r1 : List Int) (r2 : Int) (r3 : Int) (r4 : (Nat → Int)) (w0 w : World) (hI : IsS32 w0 w g s0_0 s0_1 s0_2) (hB : Below w0.heap.size w0 w) (hr1 : ∀ W_, KeepBut w W_ g none → Kd.C k48 W_ A1 l1.length l1) (hc1 : l1.length ≤ c1) (hs3 : Kd.V (Kd.int .i64) 2 w w.heap.size (fun k_ => P3_ k_ ∧ k_ ≠ g) (.slice A3 l3.length c3) l3) (h : spec_l01Most.f k s0_0 s0_1 s0_2 l1 a2 l3 = some (r1, r2, r3, r4)),
  Calls Try.prog 15 #[.pointer (some ⟨g, 0, none⟩), .slice A1 l1.length c1, .int .i64 a2, .slice A3 l3.length c3] w fun e w' => ∃ v0_ : Value, e = .returned (v0_) ∧ Kd.V (Kd.int .i64) 2 w' w.heap.size (fun k_ => (P3_ k_ ∨ w.heap.size ≤ k_)) v0_ r1 ∧ IsS32 w0 w' g r2 r3 r4 ∧ Below w0.heap.size w0 w' ∧ KeepBut w w' g none := by
 induction k using Nat.strongRecOn with
 | _ k ih =>
 intro g s0_0 s0_1 s0_2 A1 c1 l1 a2 P3_ A3 c3 l3 r1 r2 r3 r4 w0 w hI hB hr1 hc1 hs3 h
 cases k with
 | zero => exact absurd h (by simp [spec_l01Most.f])
 | succ k =>
 simp only [spec_l01Most.f] at h
 have HR1 := am hr1
 have HC1 := am hc1
 clear hr1 hc1
 have HO3 := am (show Kd.V (Kd.int .i64) 2 w w.heap.size (fun k_ => (P3_ k_ ∨ w.heap.size ≤ k_) ∧ k_ ≠ g) (.slice A3 l3.length c3) l3 from Kd.V_mono hs3 (fun k_ hk => ⟨.inl hk.1, hk.2⟩))
 have HI0 := am hI
 have HK := am (KeepBut.refl w g none)
 have HL := am hB.size
 clear hI
 have HW0 := am hB.size
 have HB := am hB
 clear hB
 have H : (spec_l01Most.l0 k l1 l3 l3 a2 s0_0 s0_1 s0_2) = some (r1, r2, r3, r4) := h
 clear h
 have H' := am H
 clear H
 go_enter Try.func15, Try.ntmps15
 go_wp2
 go_loopg [9, 10] k (fun kq v9 v10 w' => ∃ (x9_1 : List Int) (x10_1 : Int) (x1000_1 : Int) (x1001_1 : Int) (x1002_1 : (Nat → Int)), v10 = .int .i64 x10_1 ∧ Aside0 (spec_l01Most.l0 kq l1 l3 x9_1 x10_1 x1000_1 x1001_1 x1002_1 = some (r1, r2, r3, r4)) ∧ Aside0 (kq ≤ k) ∧ Aside0 (Kd.V (Kd.int .i64) 2 w' w.heap.size (fun k_ => (P3_ k_ ∨ w.heap.size ≤ k_) ∧ k_ ≠ g) (.slice A3 l3.length c3) l3) ∧ Aside0 (Kd.V (Kd.int .i64) 2 w' w.heap.size (fun k_ => (P3_ k_ ∨ w.heap.size ≤ k_) ∧ k_ ≠ g) v9 x9_1) ∧ Aside0 (IsS32 w0 w' g x1000_1 x1001_1 x1002_1) ∧ Aside0 (KeepBut w w' g none) ∧ Aside0 (Below w0.heap.size w0 w'))
 case atStart => exact ⟨(l3), (a2), (s0_0), (s0_1), (s0_2), vv, H', ⟨Nat.le_refl _⟩, ⟨by (with_reducible repeat (first | apply Kd.V_alloc | apply Kd.V_drewN | apply Kd.V_drew)); exact HO3.out⟩, ⟨by (with_reducible repeat (first | apply Kd.V_alloc | apply Kd.V_drewN | apply Kd.V_drew)); exact HO3.out⟩, ⟨si32 HI0⟩, ⟨ke HK⟩, ⟨be HB⟩⟩
 case round =>
  clear H'
  try clear c1
  try clear p2
  try clear c3
  obtain ⟨x9_1, x10_1, x1000_1, x1001_1, x1002_1, rfl, HA, HK1, HO_3, HO_9, HI0, HK, HB⟩ := hrel
  cases gk with
  | zero => exact absurd HA.out (by simp [spec_l01Most.l0])
  | succ k1 =>
   have H := HA.out
   clear HA
   simp only [spec_l01Most.l0] at H
   by_cases c5 : x10_1 < (l1.length : Int)
   ·rw [if_pos c5] at H
    have c5b0 : decide (x10_1 < (l1.length : Int)) = true := decide_eq_true c5
    clear c5
    obtain ⟨y210, hy210⟩ : ∃ y_ : List Int, y_ = (([] : List Int)) := ⟨_, rfl⟩
    replace H : (if y210.length + l3.length < 17592186044416 then ((some (y210 ++ l3 : List Int)).bind fun y213 => (if y213.length < 17592186044416 then ((some (y213 ++ [x10_1] : List Int)).bind fun y216 => ((spec_l01Chosen.f k1 l1 y216).bind fun t219 => ((spec_l01Right.f k1 x1000_1 x1001_1 x1002_1 t219).bind fun bt222 => (if bt222.1 = true then ((spec_l01Most.f k1 bt222.2.1 bt222.2.2.1 bt222.2.2.2 l1 (wrap64 (x10_1 + 1)) y216).bind fun bt226 => (if (bt226.1.length : Int) > (x9_1.length : Int) then (spec_l01Most.l0 k1 l1 l3 bt226.1 (wrap64 (x10_1 + 1)) bt226.2.1 bt226.2.2.1 bt226.2.2.2) else (spec_l01Most.l0 k1 l1 l3 x9_1 (wrap64 (x10_1 + 1)) bt226.2.1 bt226.2.2.1 bt226.2.2.2))) else (spec_l01Most.l0 k1 l1 l3 x9_1 (wrap64 (x10_1 + 1)) bt222.2.1 bt222.2.2.1 bt222.2.2.2))))) else (none))) else (none)) = some (r1, r2, r3, r4) := by first | (rw [hy210]; with_reducible exact H) | (have H2_ := (Option.bind_some _ _).symm.trans H; rw [hy210]; with_reducible exact H2_) | (have H2_ := (Option.bind_some _ _).symm.trans H; with_reducible exact H2_) | with_reducible exact H | (rw [hy210]; exact H) | exact H
    have Ny210 := am hy210
    clear hy210
    by_cases c6 : y210.length + l3.length < 17592186044416
    ·rw [if_pos c6] at H
     have LMc6 := am c6
     clear c6
     obtain ⟨y213, hy213⟩ : ∃ y_ : List Int, y_ = (y210 ++ l3) := ⟨_, rfl⟩
     replace H : (if y213.length < 17592186044416 then ((some (y213 ++ [x10_1] : List Int)).bind fun y216 => ((spec_l01Chosen.f k1 l1 y216).bind fun t219 => ((spec_l01Right.f k1 x1000_1 x1001_1 x1002_1 t219).bind fun bt222 => (if bt222.1 = true then ((spec_l01Most.f k1 bt222.2.1 bt222.2.2.1 bt222.2.2.2 l1 (wrap64 (x10_1 + 1)) y216).bind fun bt226 => (if (bt226.1.length : Int) > (x9_1.length : Int) then (spec_l01Most.l0 k1 l1 l3 bt226.1 (wrap64 (x10_1 + 1)) bt226.2.1 bt226.2.2.1 bt226.2.2.2) else (spec_l01Most.l0 k1 l1 l3 x9_1 (wrap64 (x10_1 + 1)) bt226.2.1 bt226.2.2.1 bt226.2.2.2))) else (spec_l01Most.l0 k1 l1 l3 x9_1 (wrap64 (x10_1 + 1)) bt222.2.1 bt222.2.2.1 bt222.2.2.2))))) else (none)) = some (r1, r2, r3, r4) := by first | (rw [hy213]; with_reducible exact H) | (have H2_ := (Option.bind_some _ _).symm.trans H; rw [hy213]; with_reducible exact H2_) | (have H2_ := (Option.bind_some _ _).symm.trans H; with_reducible exact H2_) | with_reducible exact H | (rw [hy213]; exact H) | exact H
     have Ny213 := am hy213
     clear hy213
     by_cases c7 : y213.length < 17592186044416
     ·rw [if_pos c7] at H
      have LMc7 := am c7
      clear c7
      obtain ⟨y216, hy216⟩ : ∃ y_ : List Int, y_ = (y213 ++ [x10_1]) := ⟨_, rfl⟩
      replace H : ((spec_l01Chosen.f k1 l1 y216).bind fun t219 => ((spec_l01Right.f k1 x1000_1 x1001_1 x1002_1 t219).bind fun bt222 => (if bt222.1 = true then ((spec_l01Most.f k1 bt222.2.1 bt222.2.2.1 bt222.2.2.2 l1 (wrap64 (x10_1 + 1)) y216).bind fun bt226 => (if (bt226.1.length : Int) > (x9_1.length : Int) then (spec_l01Most.l0 k1 l1 l3 bt226.1 (wrap64 (x10_1 + 1)) bt226.2.1 bt226.2.2.1 bt226.2.2.2) else (spec_l01Most.l0 k1 l1 l3 x9_1 (wrap64 (x10_1 + 1)) bt226.2.1 bt226.2.2.1 bt226.2.2.2))) else (spec_l01Most.l0 k1 l1 l3 x9_1 (wrap64 (x10_1 + 1)) bt222.2.1 bt222.2.2.1 bt222.2.2.2)))) = some (r1, r2, r3, r4) := by first | (rw [hy216]; with_reducible exact H) | (have H2_ := (Option.bind_some _ _).symm.trans H; rw [hy216]; with_reducible exact H2_) | (have H2_ := (Option.bind_some _ _).symm.trans H; with_reducible exact H2_) | with_reducible exact H | (rw [hy216]; exact H) | exact H
      have Ny216 := am hy216
      clear hy216
      replace H := Option.bind_eq_some_iff.mp H
      obtain ⟨t219, A80, H⟩ := H
      try dsimp only at H
      have A8 := am A80
      clear A80
      replace H := Option.bind_eq_some_iff.mp H
      obtain ⟨⟨t222, t223, t224, t225⟩, A90, H⟩ := H
      try dsimp only at H
      have A9 := am A90
      clear A90
      by_cases c10 : t222 = true
      ·subst c10
       rw [if_pos rfl] at H
       replace H := Option.bind_eq_some_iff.mp H
       obtain ⟨⟨t226, t229, t230, t231⟩, A110, H⟩ := H
       try dsimp only at H
       have A11 := am A110
       clear A110
       by_cases c12 : (t226.length : Int) > (x9_1.length : Int)
       ·rw [if_pos c12] at H
        have c12b0 : decide ((x9_1.length : Int) < (t226.length : Int)) = true := decide_eq_true c12
        have c12b1 : decide (x9_1.length < t226.length) = true := decide_eq_true (Int.ofNat_lt.mp c12)
        clear c12
        have H' := am H
        clear H
        go_wp2_with (first | ((with_reducible refine gate_dst (N := 21) rfl ?_); refine Kd.R_lit (Kd.int .i64) _ 2 ?hg (N := 21) ?hd (xs := ([] : List Int)) (inner := []) (ok := fun _ => True) (okp := fun _ => True) ?hr ?hp (fun _ hk => hk) trivial (Below.refl _ _) (Nat.le_refl _) (by simp) ?_; (case hd => rfl); (case hg => rfl); (case hr => first | (go_simp; done) | (go_simp; rfl)); (case hp => exact (Reps.none _ _)); intro v211 w13 ho14 hb hg_ hnew_; clear hg_ hnew_; (first | rw [← Ny210.out] at ho14 | (simp only [Int.reduceToNat] at ho14; rw [← Ny210.out] at ho14)); have HO212 := am (Kd.R_lower (Kd.R_newM (M := fun k_ => (w.heap.size ≤ k_)) ho14 (keep_size (w := w) (g := g) (row := none) (ke HK)) (fun k_ h_ => h_)) (keep_size (w := w) (g := g) (row := none) (ke HK))); replace HO_3 := am (Kd.V_elder' (by (with_reducible repeat (first | apply Kd.V_alloc | apply Kd.V_drewN | apply Kd.V_drew)); exact HO_3.out) (Kd.R_base ho14) hb); replace HO_9 := am (Kd.V_elder' (by (with_reducible repeat (first | apply Kd.V_alloc | apply Kd.V_drewN | apply Kd.V_drew)); exact HO_9.out) (Kd.R_base ho14) hb); replace HI0 := am (IsS32.below (si32 HI0) hb); replace HK := am (KeepBut.trans (ke HK) (KeepBut.of_below hb g none) (.inl rfl)); replace HB := am (below_step (be HB) hb); clear hb ho14) | ((with_reducible refine gate_builtin (b := .append) (xs := #[.tmp 21, .tmp 22]) rfl ?_); at_builtin; refine Kd.R_append_rows (Kd.int .i64) w.heap.size rfl (.tmp 21) (.tmp 22) 29 2 (.int .i64 0) 8 rfl Try.underlying29 info2 rfl (by decide) (by omega) v211 y210 l3 _ _ _ (fun k_ => (w.heap.size ≤ k_)) (fun _ => False) rfl rfl ?aO ?aR (fun _ _ h => h) (fun _ h => h.elim) ?aF (Below.refl _ _) ?aS ?aL ?_; (case aR => repeat (first | exact (Kd.V_reads' HO_3.out).2.2 | (with_reducible refine Kd.C_alloc ?_ _) | (with_reducible refine Kd.C_drewN ?_ _) | (with_reducible refine Kd.C_drew ?_))); (case aF => exact (fun k_ hk => (Nat.le_trans (keep_size (w := w) (g := g) (row := none) (ke HK)) hk))); (case aO => exact (by (with_reducible repeat (first | apply Kd.R_alloc | apply Kd.R_drewN | apply Kd.R_drew)); exact Kd.R_mono HO212.out (fun _ hk => hk.1))); (case aS => exact (keep_size (w := w) (g := g) (row := none) (ke HK))); (case aL => have := LMc6.out; omega); intro v214 w15 ho hb hg hat; rw [← Ny213.out] at ho; have HO215 := am (ho); replace HO_3 := am (Kd.V_afterv (ok := (fun k_ => (P3_ k_ ∨ w.heap.size ≤ k_) ∧ k_ ≠ g)) (by (with_reducible repeat (first | apply Kd.V_alloc | apply Kd.V_drewN | apply Kd.V_drew)); exact HO_3.out) hg hat); replace HO_9 := am (Kd.V_afterv (ok := (fun k_ => (P3_ k_ ∨ w.heap.size ≤ k_) ∧ k_ ≠ g)) (by (with_reducible repeat (first | apply Kd.V_alloc | apply Kd.V_drewN | apply Kd.V_drew)); exact HO_9.out) hg hat); replace HI0 := am (IsS32.grown (si32 HI0) hg (IsS32.own_ne HI0.out HO212.out (by decide))); replace HB := am (below_weaken (be HB) HL.out hb); replace HK := am (KeepBut.trans (ke HK) (KeepBut.of_grown hg g) (Kd.R_base2 HO212.out)); clear HO212; clear ho hb hg hat) | ((with_reducible refine gate_builtin (b := .append) (xs := #[.tmp 23, .tmp 25]) rfl ?_); at_builtin; refine Kd.R_append (Kd.int .i64) w.heap.size rfl (.tmp 23) (.tmp 25) 29 2 (.int .i64 0) 8 rfl Try.underlying29 info2 rfl (by decide) (by omega) v214 y213 x10_1 [.int .i64 x10_1] (fun k_ => (w.heap.size ≤ k_)) (fun _ => False) rfl rfl ?aP (fun _ hk => hk.elim) ?aF ?aO (Below.refl _ _) ?aS ?aL ?_; (case aP => exact rfl); (case aF => exact (fun k_ hk => (Nat.le_trans (keep_size (w := w) (g := g) (row := none) (ke HK)) hk))); (case aO => exact (kr HO215)); (case aS => exact (keep_size (w := w) (g := g) (row := none) (ke HK))); (case aL => have := LMc7.out; omega); intro v217 w16 ho hb hg hat; rw [← Ny216.out] at ho; have HO218 := am (ho); replace HO_3 := am (Kd.V_afterv (ok := (fun k_ => (P3_ k_ ∨ w.heap.size ≤ k_) ∧ k_ ≠ g)) (by (with_reducible repeat (first | apply Kd.V_alloc | apply Kd.V_drewN | apply Kd.V_drew)); exact HO_3.out) hg hat); replace HO_9 := am (Kd.V_afterv (ok := (fun k_ => (P3_ k_ ∨ w.heap.size ≤ k_) ∧ k_ ≠ g)) (by (with_reducible repeat (first | apply Kd.V_alloc | apply Kd.V_drewN | apply Kd.V_drew)); exact HO_9.out) hg hat); replace HI0 := am (IsS32.grown (si32 HI0) hg (IsS32.own_ne HI0.out HO215.out (by decide))); replace HB := am (below_weaken (be HB) HL.out hb); replace HK := am (KeepBut.trans (ke HK) (KeepBut.of_grown hg g) (Kd.R_base2 HO215.out)); clear HO215; clear ho hb hg hat; obtain ⟨Ao17, co17, eo17⟩ := Kd.R_slice HO218.out; subst eo17) | ((with_reducible refine gate_callee (f := 25) rfl ?_); refine gL (some 30) Try.func25 #[.slice A1 l1.length c1, .slice Ao17 y216.length co17] ?_; (with_reducible refine (spec_l01Chosen.calls k1 _ _ l1 _ _ y216 t219 _ ?side1 ?side2 ?side3 ?side4 A8.out).mono ?_); (case side1 => exact Kd.C_foot_now HR1.out (ke HK)); (case side2 => exact HC1.out); (case side3 => repeat (first | exact (Kd.R_reads' HO218.out).2.2 | (with_reducible refine Kd.C_alloc ?_ _) | (with_reducible refine Kd.C_drewN ?_ _) | (with_reducible refine Kd.C_drew ?_))); (case side4 => exact (Kd.R_reads' HO218.out).2.1); rintro e w18 ⟨v220, rfl, ho0, hb⟩; refine ⟨_, rfl, ?_⟩; have HO221 := am (Kd.R_lower (Kd.R_newM (M := fun k_ => (w.heap.size ≤ k_)) ho0 (keep_size (w := w) (g := g) (row := none) (ke HK)) (fun k_ h_ => h_)) (keep_size (w := w) (g := g) (row := none) (ke HK))); replace HO_3 := am (Kd.V_elder' (by (with_reducible repeat (first | apply Kd.V_alloc | apply Kd.V_drewN | apply Kd.V_drew)); exact HO_3.out) (Kd.R_base ho0) hb); replace HO_9 := am (Kd.V_elder' (by (with_reducible repeat (first | apply Kd.V_alloc | apply Kd.V_drewN | apply Kd.V_drew)); exact HO_9.out) (Kd.R_base ho0) hb); replace HO218 := am (Kd.R_below (kr HO218) hb); replace HI0 := am (IsS32.below (si32 HI0) hb); replace HK := am (KeepBut.trans (ke HK) (KeepBut.of_below hb g none) (.inl rfl)); replace HB := am (below_step (be HB) hb); (try clear hb); (try clear hb2); (try clear hk); (try clear hi); (try clear ho0); obtain ⟨Ao19, co19, eo19⟩ := Kd.R_slice HO221.out; subst eo19) | ((with_reducible refine gate_callee (f := 24) rfl ?_); refine gL (some 31) Try.func24 #[.pointer (some ⟨g, 0, none⟩), .slice Ao19 t219.length co19] ?_; (with_reducible refine (spec_l01Right.calls k1 g x1000_1 x1001_1 x1002_1 _ _ t219 true t223 t224 t225 w0 _ ?side1 ?side2 ?side3 ?side4 A9.out).mono ?_); (case side1 => exact si32 HI0); (case side2 => exact be HB); (case side3 => exact Kd.C_foot_own (IsS32.apart (show IsS32 w0 _ g x1000_1 x1001_1 x1002_1 from si32 HI0) (kr HO221) (by decide)) (fun _ h_ => h_.2)); (case side4 => exact (Kd.R_reads' HO221.out).2.1); rintro e w20 ⟨rfl, hi, hb, hk⟩; refine ⟨_, rfl, ?_⟩; replace HO_3 := am (Kd.V_mono (Kd.V_keep (Kd.V_mono (ok := fun k_ => (((((P3_ k_ ∨ w.heap.size ≤ k_)) ∧ k_ ≠ g) ∧ some k_ ≠ (.slice Ao17 y216.length co17 : Value).ownBlock) ∧ some k_ ≠ (.slice Ao19 t219.length co19 : Value).ownBlock)) (by (with_reducible repeat (first | apply Kd.V_alloc | apply Kd.V_drewN | apply Kd.V_drew)); exact HO_3.out) (fun k_ hk_ => (⟨hk_, hk_.1.1.2⟩ : _ ∧ k_ ≠ g))) hk (fun _ h => h.2)) (fun _ h => h.1)); replace HO_9 := am (Kd.V_mono (Kd.V_keep (Kd.V_mono (ok := fun k_ => (((((P3_ k_ ∨ w.heap.size ≤ k_)) ∧ k_ ≠ g) ∧ some k_ ≠ (.slice Ao17 y216.length co17 : Value).ownBlock) ∧ some k_ ≠ (.slice Ao19 t219.length co19 : Value).ownBlock)) (by (with_reducible repeat (first | apply Kd.V_alloc | apply Kd.V_drewN | apply Kd.V_drew)); exact HO_9.out) (fun k_ hk_ => (⟨hk_, hk_.1.1.2⟩ : _ ∧ k_ ≠ g))) hk (fun _ h => h.2)) (fun _ h => h.1)); replace HO218 := am (Kd.R_mono (Kd.R_keep (IsS32.apart (show IsS32 w0 _ g x1000_1 x1001_1 x1002_1 from si32 HI0) (kr HO218) (by decide)) hk (fun _ h => h.2)) (fun _ h => h.1)); replace HO221 := am (Kd.R_mono (Kd.R_keep (IsS32.apart (show IsS32 w0 _ g x1000_1 x1001_1 x1002_1 from si32 HI0) (kr HO221) (by decide)) hk (fun _ h => h.2)) (fun _ h => h.1)); replace HK := am (KeepBut.trans (ke HK) hk (.inl rfl)); replace HB := am (hb); replace HI0 := am (hi); (try clear hb); (try clear hb2); (try clear hk); (try clear hi)) | ((with_reducible refine gate_callee (f := 15) rfl ?_); refine gL (some 38) Try.func15 #[.pointer (some ⟨g, 0, none⟩), .slice A1 l1.length c1, .int .i64 (wrap64 (x10_1 + 1)), .slice Ao17 y216.length co17] ?_; (with_reducible refine (ih k1 (by have := HK1.out; omega) g t223 t224 t225 _ _ l1 (wrap64 (x10_1 + 1)) (fun k_ => some k_ = (.slice Ao17 y216.length co17 : Value).ownBlock) _ _ y216 t226 t229 t230 t231 w0 _ ?side1 ?side2 ?side3 ?side4 ?side5 A11.out).mono ?_); (case side1 => exact si32 HI0); (case side2 => exact be HB); (case side3 => exact Kd.C_foot_step HR1.out (ke HK)); (case side4 => exact HC1.out); (case side5 => exact Kd.V_mono (Kd.R_V (Kd.R_tight rfl (IsS32.apart HI0.out (Kd.R_apart' (HO218.out) (Kd.R_typed HO221.out) (by decide)) (by decide)))) (fun k_ hk_ => ⟨hk_, ((IsS32.apart HI0.out (Kd.R_apart' (HO218.out) (Kd.R_typed HO221.out) (by decide)) (by decide)).1 k_ hk_.symm).2⟩)); rintro e w21 ⟨v227, rfl, ho0, hi, hb, hk⟩; refine ⟨_, rfl, ?_⟩; have HO228 := am (Kd.V_lower (Kd.V_mono (ok' := fun k_ => (P3_ k_ ∨ w.heap.size ≤ k_) ∧ some k_ ≠ (.slice Ao19 t219.length co19 : Value).ownBlock ∧ k_ ≠ g) ho0 (fun k_ hk_ => ⟨Or.elim hk_ (fun hs_ => (.inr (((IsS32.apart HI0.out (Kd.R_apart' (HO218.out) (Kd.R_typed HO221.out) (by decide)) (by decide)).1 k_ hs_.symm).1.1))) (fun hn_ => (.inr (Nat.le_trans (keep_size (w := w) (g := g) (row := none) (ke HK)) hn_))), Or.elim hk_ (fun hs_ => ((IsS32.apart HI0.out (Kd.R_apart' (HO218.out) (Kd.R_typed HO221.out) (by decide)) (by decide)).1 k_ hs_.symm).1.2) (fun hn_ => (Kd.fresh' (Kd.R_lt (kr HO221)) k_ hn_)), Or.elim hk_ (fun hs_ => ((IsS32.apart HI0.out (Kd.R_apart' (HO218.out) (Kd.R_typed HO221.out) (by decide)) (by decide)).1 k_ hs_.symm).2) (fun hn_ => (IsS32.fresh (si32 HI0) k_ hn_))⟩)) (keep_size (w := w) (g := g) (row := none) (ke HK))); replace HO_3 := am (Kd.V_mono (Kd.V_keep (Kd.V_mono (ok := fun k_ => (((((P3_ k_ ∨ w.heap.size ≤ k_)) ∧ k_ ≠ g) ∧ some k_ ≠ (.slice Ao17 y216.length co17 : Value).ownBlock) ∧ some k_ ≠ (.slice Ao19 t219.length co19 : Value).ownBlock)) (by (with_reducible repeat (first | apply Kd.V_alloc | apply Kd.V_drewN | apply Kd.V_drew)); exact HO_3.out) (fun k_ hk_ => (⟨hk_, hk_.1.1.2⟩ : _ ∧ k_ ≠ g))) hk (fun _ h => h.2)) (fun _ h => h.1)); replace HO_9 := am (Kd.V_mono (Kd.V_keep (Kd.V_mono (ok := fun k_ => (((((P3_ k_ ∨ w.heap.size ≤ k_)) ∧ k_ ≠ g) ∧ some k_ ≠ (.slice Ao17 y216.length co17 : Value).ownBlock) ∧ some k_ ≠ (.slice Ao19 t219.length co19 : Value).ownBlock)) (by (with_reducible repeat (first | apply Kd.V_alloc | apply Kd.V_drewN | apply Kd.V_drew)); exact HO_9.out) (fun k_ hk_ => (⟨hk_, hk_.1.1.2⟩ : _ ∧ k_ ≠ g))) hk (fun _ h => h.2)) (fun _ h => h.1)); replace HO218 := am (Kd.R_mono (Kd.R_keep (IsS32.apart (show IsS32 w0 _ g t223 t224 t225 from si32 HI0) (kr HO218) (by decide)) hk (fun _ h => h.2)) (fun _ h => h.1)); replace HO221 := am (Kd.R_mono (Kd.R_keep (IsS32.apart (show IsS32 w0 _ g t223 t224 t225 from si32 HI0) (kr HO221) (by decide)) hk (fun _ h => h.2)) (fun _ h => h.1)); replace HK := am (KeepBut.trans (ke HK) hk (.inl rfl)); replace HB := am (hb); replace HI0 := am (hi); (try clear hb); (try clear hb2); (try clear hk); (try clear hi); (try clear ho0); obtain ⟨Ao22, co22, eo22⟩ := Kd.V_slice HO228.out; subst eo22; obtain ⟨Ao23, co23, eo23⟩ := Kd.V_slice HO_9.out; subst eo23))
        go_roundg k1
        case measure => have := HK1.out; omega
        case rel => exact ⟨(t226), (wrap64 (x10_1 + 1)), (t229), (t230), (t231), vv, H', ⟨by have := HK1.out; omega⟩, ⟨by (with_reducible repeat (first | apply Kd.V_alloc | apply Kd.V_drewN | apply Kd.V_drew)); exact Kd.V_mono HO_3.out (fun _ hk => ⟨hk.1.1.1, hk.1.1.2⟩)⟩, ⟨by (with_reducible repeat (first | apply Kd.V_alloc | apply Kd.V_drewN | apply Kd.V_drew)); exact Kd.V_mono HO228.out (fun _ hk => ⟨hk.1, hk.2.2⟩)⟩, ⟨si32 HI0⟩, ⟨ke HK⟩, ⟨be HB⟩⟩
       ·rw [if_neg c12] at H
        have c12b0 : decide ((x9_1.length : Int) < (t226.length : Int)) = false := decide_eq_false c12
        have c12b1 : decide (x9_1.length < t226.length) = false := decide_eq_false (fun h => c12 (Int.ofNat_lt.mpr h))
        clear c12
        have H' := am H
        clear H
        go_wp2_with (first | ((with_reducible refine gate_dst (N := 21) rfl ?_); refine Kd.R_lit (Kd.int .i64) _ 2 ?hg (N := 21) ?hd (xs := ([] : List Int)) (inner := []) (ok := fun _ => True) (okp := fun _ => True) ?hr ?hp (fun _ hk => hk) trivial (Below.refl _ _) (Nat.le_refl _) (by simp) ?_; (case hd => rfl); (case hg => rfl); (case hr => first | (go_simp; done) | (go_simp; rfl)); (case hp => exact (Reps.none _ _)); intro v211 w24 ho25 hb hg_ hnew_; clear hg_ hnew_; (first | rw [← Ny210.out] at ho25 | (simp only [Int.reduceToNat] at ho25; rw [← Ny210.out] at ho25)); have HO212 := am (Kd.R_lower (Kd.R_newM (M := fun k_ => (w.heap.size ≤ k_)) ho25 (keep_size (w := w) (g := g) (row := none) (ke HK)) (fun k_ h_ => h_)) (keep_size (w := w) (g := g) (row := none) (ke HK))); replace HO_3 := am (Kd.V_elder' (by (with_reducible repeat (first | apply Kd.V_alloc | apply Kd.V_drewN | apply Kd.V_drew)); exact HO_3.out) (Kd.R_base ho25) hb); replace HO_9 := am (Kd.V_elder' (by (with_reducible repeat (first | apply Kd.V_alloc | apply Kd.V_drewN | apply Kd.V_drew)); exact HO_9.out) (Kd.R_base ho25) hb); replace HI0 := am (IsS32.below (si32 HI0) hb); replace HK := am (KeepBut.trans (ke HK) (KeepBut.of_below hb g none) (.inl rfl)); replace HB := am (below_step (be HB) hb); clear hb ho25) | ((with_reducible refine gate_builtin (b := .append) (xs := #[.tmp 21, .tmp 22]) rfl ?_); at_builtin; refine Kd.R_append_rows (Kd.int .i64) w.heap.size rfl (.tmp 21) (.tmp 22) 29 2 (.int .i64 0) 8 rfl Try.underlying29 info2 rfl (by decide) (by omega) v211 y210 l3 _ _ _ (fun k_ => (w.heap.size ≤ k_)) (fun _ => False) rfl rfl ?aO ?aR (fun _ _ h => h) (fun _ h => h.elim) ?aF (Below.refl _ _) ?aS ?aL ?_; (case aR => repeat (first | exact (Kd.V_reads' HO_3.out).2.2 | (with_reducible refine Kd.C_alloc ?_ _) | (with_reducible refine Kd.C_drewN ?_ _) | (with_reducible refine Kd.C_drew ?_))); (case aF => exact (fun k_ hk => (Nat.le_trans (keep_size (w := w) (g := g) (row := none) (ke HK)) hk))); (case aO => exact (by (with_reducible repeat (first | apply Kd.R_alloc | apply Kd.R_drewN | apply Kd.R_drew)); exact Kd.R_mono HO212.out (fun _ hk => hk.1))); (case aS => exact (keep_size (w := w) (g := g) (row := none) (ke HK))); (case aL => have := LMc6.out; omega); intro v214 w26 ho hb hg hat; rw [← Ny213.out] at ho; have HO215 := am (ho); replace HO_3 := am (Kd.V_afterv (ok := (fun k_ => (P3_ k_ ∨ w.heap.size ≤ k_) ∧ k_ ≠ g)) (by (with_reducible repeat (first | apply Kd.V_alloc | apply Kd.V_drewN | apply Kd.V_drew)); exact HO_3.out) hg hat); replace HO_9 := am (Kd.V_afterv (ok := (fun k_ => (P3_ k_ ∨ w.heap.size ≤ k_) ∧ k_ ≠ g)) (by (with_reducible repeat (first | apply Kd.V_alloc | apply Kd.V_drewN | apply Kd.V_drew)); exact HO_9.out) hg hat); replace HI0 := am (IsS32.grown (si32 HI0) hg (IsS32.own_ne HI0.out HO212.out (by decide))); replace HB := am (below_weaken (be HB) HL.out hb); replace HK := am (KeepBut.trans (ke HK) (KeepBut.of_grown hg g) (Kd.R_base2 HO212.out)); clear HO212; clear ho hb hg hat) | ((with_reducible refine gate_builtin (b := .append) (xs := #[.tmp 23, .tmp 25]) rfl ?_); at_builtin; refine Kd.R_append (Kd.int .i64) w.heap.size rfl (.tmp 23) (.tmp 25) 29 2 (.int .i64 0) 8 rfl Try.underlying29 info2 rfl (by decide) (by omega) v214 y213 x10_1 [.int .i64 x10_1] (fun k_ => (w.heap.size ≤ k_)) (fun _ => False) rfl rfl ?aP (fun _ hk => hk.elim) ?aF ?aO (Below.refl _ _) ?aS ?aL ?_; (case aP => exact rfl); (case aF => exact (fun k_ hk => (Nat.le_trans (keep_size (w := w) (g := g) (row := none) (ke HK)) hk))); (case aO => exact (kr HO215)); (case aS => exact (keep_size (w := w) (g := g) (row := none) (ke HK))); (case aL => have := LMc7.out; omega); intro v217 w27 ho hb hg hat; rw [← Ny216.out] at ho; have HO218 := am (ho); replace HO_3 := am (Kd.V_afterv (ok := (fun k_ => (P3_ k_ ∨ w.heap.size ≤ k_) ∧ k_ ≠ g)) (by (with_reducible repeat (first | apply Kd.V_alloc | apply Kd.V_drewN | apply Kd.V_drew)); exact HO_3.out) hg hat); replace HO_9 := am (Kd.V_afterv (ok := (fun k_ => (P3_ k_ ∨ w.heap.size ≤ k_) ∧ k_ ≠ g)) (by (with_reducible repeat (first | apply Kd.V_alloc | apply Kd.V_drewN | apply Kd.V_drew)); exact HO_9.out) hg hat); replace HI0 := am (IsS32.grown (si32 HI0) hg (IsS32.own_ne HI0.out HO215.out (by decide))); replace HB := am (below_weaken (be HB) HL.out hb); replace HK := am (KeepBut.trans (ke HK) (KeepBut.of_grown hg g) (Kd.R_base2 HO215.out)); clear HO215; clear ho hb hg hat; obtain ⟨Ao28, co28, eo28⟩ := Kd.R_slice HO218.out; subst eo28) | ((with_reducible refine gate_callee (f := 25) rfl ?_); refine gL (some 30) Try.func25 #[.slice A1 l1.length c1, .slice Ao28 y216.length co28] ?_; (with_reducible refine (spec_l01Chosen.calls k1 _ _ l1 _ _ y216 t219 _ ?side1 ?side2 ?side3 ?side4 A8.out).mono ?_); (case side1 => exact Kd.C_foot_now HR1.out (ke HK)); (case side2 => exact HC1.out); (case side3 => repeat (first | exact (Kd.R_reads' HO218.out).2.2 | (with_reducible refine Kd.C_alloc ?_ _) | (with_reducible refine Kd.C_drewN ?_ _) | (with_reducible refine Kd.C_drew ?_))); (case side4 => exact (Kd.R_reads' HO218.out).2.1); rintro e w29 ⟨v220, rfl, ho0, hb⟩; refine ⟨_, rfl, ?_⟩; have HO221 := am (Kd.R_lower (Kd.R_newM (M := fun k_ => (w.heap.size ≤ k_)) ho0 (keep_size (w := w) (g := g) (row := none) (ke HK)) (fun k_ h_ => h_)) (keep_size (w := w) (g := g) (row := none) (ke HK))); replace HO_3 := am (Kd.V_elder' (by (with_reducible repeat (first | apply Kd.V_alloc | apply Kd.V_drewN | apply Kd.V_drew)); exact HO_3.out) (Kd.R_base ho0) hb); replace HO_9 := am (Kd.V_elder' (by (with_reducible repeat (first | apply Kd.V_alloc | apply Kd.V_drewN | apply Kd.V_drew)); exact HO_9.out) (Kd.R_base ho0) hb); replace HO218 := am (Kd.R_below (kr HO218) hb); replace HI0 := am (IsS32.below (si32 HI0) hb); replace HK := am (KeepBut.trans (ke HK) (KeepBut.of_below hb g none) (.inl rfl)); replace HB := am (below_step (be HB) hb); (try clear hb); (try clear hb2); (try clear hk); (try clear hi); (try clear ho0); obtain ⟨Ao30, co30, eo30⟩ := Kd.R_slice HO221.out; subst eo30) | ((with_reducible refine gate_callee (f := 24) rfl ?_); refine gL (some 31) Try.func24 #[.pointer (some ⟨g, 0, none⟩), .slice Ao30 t219.length co30] ?_; (with_reducible refine (spec_l01Right.calls k1 g x1000_1 x1001_1 x1002_1 _ _ t219 true t223 t224 t225 w0 _ ?side1 ?side2 ?side3 ?side4 A9.out).mono ?_); (case side1 => exact si32 HI0); (case side2 => exact be HB); (case side3 => exact Kd.C_foot_own (IsS32.apart (show IsS32 w0 _ g x1000_1 x1001_1 x1002_1 from si32 HI0) (kr HO221) (by decide)) (fun _ h_ => h_.2)); (case side4 => exact (Kd.R_reads' HO221.out).2.1); rintro e w31 ⟨rfl, hi, hb, hk⟩; refine ⟨_, rfl, ?_⟩; replace HO_3 := am (Kd.V_mono (Kd.V_keep (Kd.V_mono (ok := fun k_ => (((((P3_ k_ ∨ w.heap.size ≤ k_)) ∧ k_ ≠ g) ∧ some k_ ≠ (.slice Ao28 y216.length co28 : Value).ownBlock) ∧ some k_ ≠ (.slice Ao30 t219.length co30 : Value).ownBlock)) (by (with_reducible repeat (first | apply Kd.V_alloc | apply Kd.V_drewN | apply Kd.V_drew)); exact HO_3.out) (fun k_ hk_ => (⟨hk_, hk_.1.1.2⟩ : _ ∧ k_ ≠ g))) hk (fun _ h => h.2)) (fun _ h => h.1)); replace HO_9 := am (Kd.V_mono (Kd.V_keep (Kd.V_mono (ok := fun k_ => (((((P3_ k_ ∨ w.heap.size ≤ k_)) ∧ k_ ≠ g) ∧ some k_ ≠ (.slice Ao28 y216.length co28 : Value).ownBlock) ∧ some k_ ≠ (.slice Ao30 t219.length co30 : Value).ownBlock)) (by (with_reducible repeat (first | apply Kd.V_alloc | apply Kd.V_drewN | apply Kd.V_drew)); exact HO_9.out) (fun k_ hk_ => (⟨hk_, hk_.1.1.2⟩ : _ ∧ k_ ≠ g))) hk (fun _ h => h.2)) (fun _ h => h.1)); replace HO218 := am (Kd.R_mono (Kd.R_keep (IsS32.apart (show IsS32 w0 _ g x1000_1 x1001_1 x1002_1 from si32 HI0) (kr HO218) (by decide)) hk (fun _ h => h.2)) (fun _ h => h.1)); replace HO221 := am (Kd.R_mono (Kd.R_keep (IsS32.apart (show IsS32 w0 _ g x1000_1 x1001_1 x1002_1 from si32 HI0) (kr HO221) (by decide)) hk (fun _ h => h.2)) (fun _ h => h.1)); replace HK := am (KeepBut.trans (ke HK) hk (.inl rfl)); replace HB := am (hb); replace HI0 := am (hi); (try clear hb); (try clear hb2); (try clear hk); (try clear hi)) | ((with_reducible refine gate_callee (f := 15) rfl ?_); refine gL (some 38) Try.func15 #[.pointer (some ⟨g, 0, none⟩), .slice A1 l1.length c1, .int .i64 (wrap64 (x10_1 + 1)), .slice Ao28 y216.length co28] ?_; (with_reducible refine (ih k1 (by have := HK1.out; omega) g t223 t224 t225 _ _ l1 (wrap64 (x10_1 + 1)) (fun k_ => some k_ = (.slice Ao28 y216.length co28 : Value).ownBlock) _ _ y216 t226 t229 t230 t231 w0 _ ?side1 ?side2 ?side3 ?side4 ?side5 A11.out).mono ?_); (case side1 => exact si32 HI0); (case side2 => exact be HB); (case side3 => exact Kd.C_foot_step HR1.out (ke HK)); (case side4 => exact HC1.out); (case side5 => exact Kd.V_mono (Kd.R_V (Kd.R_tight rfl (IsS32.apart HI0.out (Kd.R_apart' (HO218.out) (Kd.R_typed HO221.out) (by decide)) (by decide)))) (fun k_ hk_ => ⟨hk_, ((IsS32.apart HI0.out (Kd.R_apart' (HO218.out) (Kd.R_typed HO221.out) (by decide)) (by decide)).1 k_ hk_.symm).2⟩)); rintro e w32 ⟨v227, rfl, ho0, hi, hb, hk⟩; refine ⟨_, rfl, ?_⟩; have HO228 := am (Kd.V_lower (Kd.V_mono (ok' := fun k_ => (P3_ k_ ∨ w.heap.size ≤ k_) ∧ some k_ ≠ (.slice Ao30 t219.length co30 : Value).ownBlock ∧ k_ ≠ g) ho0 (fun k_ hk_ => ⟨Or.elim hk_ (fun hs_ => (.inr (((IsS32.apart HI0.out (Kd.R_apart' (HO218.out) (Kd.R_typed HO221.out) (by decide)) (by decide)).1 k_ hs_.symm).1.1))) (fun hn_ => (.inr (Nat.le_trans (keep_size (w := w) (g := g) (row := none) (ke HK)) hn_))), Or.elim hk_ (fun hs_ => ((IsS32.apart HI0.out (Kd.R_apart' (HO218.out) (Kd.R_typed HO221.out) (by decide)) (by decide)).1 k_ hs_.symm).1.2) (fun hn_ => (Kd.fresh' (Kd.R_lt (kr HO221)) k_ hn_)), Or.elim hk_ (fun hs_ => ((IsS32.apart HI0.out (Kd.R_apart' (HO218.out) (Kd.R_typed HO221.out) (by decide)) (by decide)).1 k_ hs_.symm).2) (fun hn_ => (IsS32.fresh (si32 HI0) k_ hn_))⟩)) (keep_size (w := w) (g := g) (row := none) (ke HK))); replace HO_3 := am (Kd.V_mono (Kd.V_keep (Kd.V_mono (ok := fun k_ => (((((P3_ k_ ∨ w.heap.size ≤ k_)) ∧ k_ ≠ g) ∧ some k_ ≠ (.slice Ao28 y216.length co28 : Value).ownBlock) ∧ some k_ ≠ (.slice Ao30 t219.length co30 : Value).ownBlock)) (by (with_reducible repeat (first | apply Kd.V_alloc | apply Kd.V_drewN | apply Kd.V_drew)); exact HO_3.out) (fun k_ hk_ => (⟨hk_, hk_.1.1.2⟩ : _ ∧ k_ ≠ g))) hk (fun _ h => h.2)) (fun _ h => h.1)); replace HO_9 := am (Kd.V_mono (Kd.V_keep (Kd.V_mono (ok := fun k_ => (((((P3_ k_ ∨ w.heap.size ≤ k_)) ∧ k_ ≠ g) ∧ some k_ ≠ (.slice Ao28 y216.length co28 : Value).ownBlock) ∧ some k_ ≠ (.slice Ao30 t219.length co30 : Value).ownBlock)) (by (with_reducible repeat (first | apply Kd.V_alloc | apply Kd.V_drewN | apply Kd.V_drew)); exact HO_9.out) (fun k_ hk_ => (⟨hk_, hk_.1.1.2⟩ : _ ∧ k_ ≠ g))) hk (fun _ h => h.2)) (fun _ h => h.1)); replace HO218 := am (Kd.R_mono (Kd.R_keep (IsS32.apart (show IsS32 w0 _ g t223 t224 t225 from si32 HI0) (kr HO218) (by decide)) hk (fun _ h => h.2)) (fun _ h => h.1)); replace HO221 := am (Kd.R_mono (Kd.R_keep (IsS32.apart (show IsS32 w0 _ g t223 t224 t225 from si32 HI0) (kr HO221) (by decide)) hk (fun _ h => h.2)) (fun _ h => h.1)); replace HK := am (KeepBut.trans (ke HK) hk (.inl rfl)); replace HB := am (hb); replace HI0 := am (hi); (try clear hb); (try clear hb2); (try clear hk); (try clear hi); (try clear ho0); obtain ⟨Ao33, co33, eo33⟩ := Kd.V_slice HO228.out; subst eo33; obtain ⟨Ao34, co34, eo34⟩ := Kd.V_slice HO_9.out; subst eo34))
        go_roundg k1
        case measure => have := HK1.out; omega
        case rel => exact ⟨(x9_1), (wrap64 (x10_1 + 1)), (t229), (t230), (t231), vv, H', ⟨by have := HK1.out; omega⟩, ⟨by (with_reducible repeat (first | apply Kd.V_alloc | apply Kd.V_drewN | apply Kd.V_drew)); exact Kd.V_mono HO_3.out (fun _ hk => ⟨hk.1.1.1, hk.1.1.2⟩)⟩, ⟨by (with_reducible repeat (first | apply Kd.V_alloc | apply Kd.V_drewN | apply Kd.V_drew)); exact Kd.V_mono HO_9.out (fun _ hk => ⟨hk.1.1.1, hk.1.1.2⟩)⟩, ⟨si32 HI0⟩, ⟨ke HK⟩, ⟨be HB⟩⟩
      ·replace c10 := Bool.eq_false_iff.mpr c10
       subst c10
       have H1 : (spec_l01Most.l0 k1 l1 l3 x9_1 (wrap64 (x10_1 + 1)) t223 t224 t225) = some (r1, r2, r3, r4) := by rw [if_neg (show ¬ (false = true) by decide)] at H; exact H
       clear H
       have H := H1
       clear H1
       have H' := am H
       clear H
       go_wp2_with (first | ((with_reducible refine gate_dst (N := 21) rfl ?_); refine Kd.R_lit (Kd.int .i64) _ 2 ?hg (N := 21) ?hd (xs := ([] : List Int)) (inner := []) (ok := fun _ => True) (okp := fun _ => True) ?hr ?hp (fun _ hk => hk) trivial (Below.refl _ _) (Nat.le_refl _) (by simp) ?_; (case hd => rfl); (case hg => rfl); (case hr => first | (go_simp; done) | (go_simp; rfl)); (case hp => exact (Reps.none _ _)); intro v211 w35 ho36 hb hg_ hnew_; clear hg_ hnew_; (first | rw [← Ny210.out] at ho36 | (simp only [Int.reduceToNat] at ho36; rw [← Ny210.out] at ho36)); have HO212 := am (Kd.R_lower (Kd.R_newM (M := fun k_ => (w.heap.size ≤ k_)) ho36 (keep_size (w := w) (g := g) (row := none) (ke HK)) (fun k_ h_ => h_)) (keep_size (w := w) (g := g) (row := none) (ke HK))); replace HO_3 := am (Kd.V_elder' (by (with_reducible repeat (first | apply Kd.V_alloc | apply Kd.V_drewN | apply Kd.V_drew)); exact HO_3.out) (Kd.R_base ho36) hb); replace HO_9 := am (Kd.V_elder' (by (with_reducible repeat (first | apply Kd.V_alloc | apply Kd.V_drewN | apply Kd.V_drew)); exact HO_9.out) (Kd.R_base ho36) hb); replace HI0 := am (IsS32.below (si32 HI0) hb); replace HK := am (KeepBut.trans (ke HK) (KeepBut.of_below hb g none) (.inl rfl)); replace HB := am (below_step (be HB) hb); clear hb ho36) | ((with_reducible refine gate_builtin (b := .append) (xs := #[.tmp 21, .tmp 22]) rfl ?_); at_builtin; refine Kd.R_append_rows (Kd.int .i64) w.heap.size rfl (.tmp 21) (.tmp 22) 29 2 (.int .i64 0) 8 rfl Try.underlying29 info2 rfl (by decide) (by omega) v211 y210 l3 _ _ _ (fun k_ => (w.heap.size ≤ k_)) (fun _ => False) rfl rfl ?aO ?aR (fun _ _ h => h) (fun _ h => h.elim) ?aF (Below.refl _ _) ?aS ?aL ?_; (case aR => repeat (first | exact (Kd.V_reads' HO_3.out).2.2 | (with_reducible refine Kd.C_alloc ?_ _) | (with_reducible refine Kd.C_drewN ?_ _) | (with_reducible refine Kd.C_drew ?_))); (case aF => exact (fun k_ hk => (Nat.le_trans (keep_size (w := w) (g := g) (row := none) (ke HK)) hk))); (case aO => exact (by (with_reducible repeat (first | apply Kd.R_alloc | apply Kd.R_drewN | apply Kd.R_drew)); exact Kd.R_mono HO212.out (fun _ hk => hk.1))); (case aS => exact (keep_size (w := w) (g := g) (row := none) (ke HK))); (case aL => have := LMc6.out; omega); intro v214 w37 ho hb hg hat; rw [← Ny213.out] at ho; have HO215 := am (ho); replace HO_3 := am (Kd.V_afterv (ok := (fun k_ => (P3_ k_ ∨ w.heap.size ≤ k_) ∧ k_ ≠ g)) (by (with_reducible repeat (first | apply Kd.V_alloc | apply Kd.V_drewN | apply Kd.V_drew)); exact HO_3.out) hg hat); replace HO_9 := am (Kd.V_afterv (ok := (fun k_ => (P3_ k_ ∨ w.heap.size ≤ k_) ∧ k_ ≠ g)) (by (with_reducible repeat (first | apply Kd.V_alloc | apply Kd.V_drewN | apply Kd.V_drew)); exact HO_9.out) hg hat); replace HI0 := am (IsS32.grown (si32 HI0) hg (IsS32.own_ne HI0.out HO212.out (by decide))); replace HB := am (below_weaken (be HB) HL.out hb); replace HK := am (KeepBut.trans (ke HK) (KeepBut.of_grown hg g) (Kd.R_base2 HO212.out)); clear HO212; clear ho hb hg hat) | ((with_reducible refine gate_builtin (b := .append) (xs := #[.tmp 23, .tmp 25]) rfl ?_); at_builtin; refine Kd.R_append (Kd.int .i64) w.heap.size rfl (.tmp 23) (.tmp 25) 29 2 (.int .i64 0) 8 rfl Try.underlying29 info2 rfl (by decide) (by omega) v214 y213 x10_1 [.int .i64 x10_1] (fun k_ => (w.heap.size ≤ k_)) (fun _ => False) rfl rfl ?aP (fun _ hk => hk.elim) ?aF ?aO (Below.refl _ _) ?aS ?aL ?_; (case aP => exact rfl); (case aF => exact (fun k_ hk => (Nat.le_trans (keep_size (w := w) (g := g) (row := none) (ke HK)) hk))); (case aO => exact (kr HO215)); (case aS => exact (keep_size (w := w) (g := g) (row := none) (ke HK))); (case aL => have := LMc7.out; omega); intro v217 w38 ho hb hg hat; rw [← Ny216.out] at ho; have HO218 := am (ho); replace HO_3 := am (Kd.V_afterv (ok := (fun k_ => (P3_ k_ ∨ w.heap.size ≤ k_) ∧ k_ ≠ g)) (by (with_reducible repeat (first | apply Kd.V_alloc | apply Kd.V_drewN | apply Kd.V_drew)); exact HO_3.out) hg hat); replace HO_9 := am (Kd.V_afterv (ok := (fun k_ => (P3_ k_ ∨ w.heap.size ≤ k_) ∧ k_ ≠ g)) (by (with_reducible repeat (first | apply Kd.V_alloc | apply Kd.V_drewN | apply Kd.V_drew)); exact HO_9.out) hg hat); replace HI0 := am (IsS32.grown (si32 HI0) hg (IsS32.own_ne HI0.out HO215.out (by decide))); replace HB := am (below_weaken (be HB) HL.out hb); replace HK := am (KeepBut.trans (ke HK) (KeepBut.of_grown hg g) (Kd.R_base2 HO215.out)); clear HO215; clear ho hb hg hat; obtain ⟨Ao39, co39, eo39⟩ := Kd.R_slice HO218.out; subst eo39) | ((with_reducible refine gate_callee (f := 25) rfl ?_); refine gL (some 30) Try.func25 #[.slice A1 l1.length c1, .slice Ao39 y216.length co39] ?_; (with_reducible refine (spec_l01Chosen.calls k1 _ _ l1 _ _ y216 t219 _ ?side1 ?side2 ?side3 ?side4 A8.out).mono ?_); (case side1 => exact Kd.C_foot_now HR1.out (ke HK)); (case side2 => exact HC1.out); (case side3 => repeat (first | exact (Kd.R_reads' HO218.out).2.2 | (with_reducible refine Kd.C_alloc ?_ _) | (with_reducible refine Kd.C_drewN ?_ _) | (with_reducible refine Kd.C_drew ?_))); (case side4 => exact (Kd.R_reads' HO218.out).2.1); rintro e w40 ⟨v220, rfl, ho0, hb⟩; refine ⟨_, rfl, ?_⟩; have HO221 := am (Kd.R_lower (Kd.R_newM (M := fun k_ => (w.heap.size ≤ k_)) ho0 (keep_size (w := w) (g := g) (row := none) (ke HK)) (fun k_ h_ => h_)) (keep_size (w := w) (g := g) (row := none) (ke HK))); replace HO_3 := am (Kd.V_elder' (by (with_reducible repeat (first | apply Kd.V_alloc | apply Kd.V_drewN | apply Kd.V_drew)); exact HO_3.out) (Kd.R_base ho0) hb); replace HO_9 := am (Kd.V_elder' (by (with_reducible repeat (first | apply Kd.V_alloc | apply Kd.V_drewN | apply Kd.V_drew)); exact HO_9.out) (Kd.R_base ho0) hb); replace HO218 := am (Kd.R_below (kr HO218) hb); replace HI0 := am (IsS32.below (si32 HI0) hb); replace HK := am (KeepBut.trans (ke HK) (KeepBut.of_below hb g none) (.inl rfl)); replace HB := am (below_step (be HB) hb); (try clear hb); (try clear hb2); (try clear hk); (try clear hi); (try clear ho0); obtain ⟨Ao41, co41, eo41⟩ := Kd.R_slice HO221.out; subst eo41) | ((with_reducible refine gate_callee (f := 24) rfl ?_); refine gL (some 31) Try.func24 #[.pointer (some ⟨g, 0, none⟩), .slice Ao41 t219.length co41] ?_; (with_reducible refine (spec_l01Right.calls k1 g x1000_1 x1001_1 x1002_1 _ _ t219 false t223 t224 t225 w0 _ ?side1 ?side2 ?side3 ?side4 A9.out).mono ?_); (case side1 => exact si32 HI0); (case side2 => exact be HB); (case side3 => exact Kd.C_foot_own (IsS32.apart (show IsS32 w0 _ g x1000_1 x1001_1 x1002_1 from si32 HI0) (kr HO221) (by decide)) (fun _ h_ => h_.2)); (case side4 => exact (Kd.R_reads' HO221.out).2.1); rintro e w42 ⟨rfl, hi, hb, hk⟩; refine ⟨_, rfl, ?_⟩; replace HO_3 := am (Kd.V_mono (Kd.V_keep (Kd.V_mono (ok := fun k_ => (((((P3_ k_ ∨ w.heap.size ≤ k_)) ∧ k_ ≠ g) ∧ some k_ ≠ (.slice Ao39 y216.length co39 : Value).ownBlock) ∧ some k_ ≠ (.slice Ao41 t219.length co41 : Value).ownBlock)) (by (with_reducible repeat (first | apply Kd.V_alloc | apply Kd.V_drewN | apply Kd.V_drew)); exact HO_3.out) (fun k_ hk_ => (⟨hk_, hk_.1.1.2⟩ : _ ∧ k_ ≠ g))) hk (fun _ h => h.2)) (fun _ h => h.1)); replace HO_9 := am (Kd.V_mono (Kd.V_keep (Kd.V_mono (ok := fun k_ => (((((P3_ k_ ∨ w.heap.size ≤ k_)) ∧ k_ ≠ g) ∧ some k_ ≠ (.slice Ao39 y216.length co39 : Value).ownBlock) ∧ some k_ ≠ (.slice Ao41 t219.length co41 : Value).ownBlock)) (by (with_reducible repeat (first | apply Kd.V_alloc | apply Kd.V_drewN | apply Kd.V_drew)); exact HO_9.out) (fun k_ hk_ => (⟨hk_, hk_.1.1.2⟩ : _ ∧ k_ ≠ g))) hk (fun _ h => h.2)) (fun _ h => h.1)); replace HO218 := am (Kd.R_mono (Kd.R_keep (IsS32.apart (show IsS32 w0 _ g x1000_1 x1001_1 x1002_1 from si32 HI0) (kr HO218) (by decide)) hk (fun _ h => h.2)) (fun _ h => h.1)); replace HO221 := am (Kd.R_mono (Kd.R_keep (IsS32.apart (show IsS32 w0 _ g x1000_1 x1001_1 x1002_1 from si32 HI0) (kr HO221) (by decide)) hk (fun _ h => h.2)) (fun _ h => h.1)); replace HK := am (KeepBut.trans (ke HK) hk (.inl rfl)); replace HB := am (hb); replace HI0 := am (hi); (try clear hb); (try clear hb2); (try clear hk); (try clear hi)))
       go_roundg k1
       case measure => have := HK1.out; omega
       case rel => exact ⟨(x9_1), (wrap64 (x10_1 + 1)), (t223), (t224), (t225), vv, H', ⟨by have := HK1.out; omega⟩, ⟨by (with_reducible repeat (first | apply Kd.V_alloc | apply Kd.V_drewN | apply Kd.V_drew)); exact Kd.V_mono HO_3.out (fun _ hk => ⟨hk.1.1.1, hk.1.1.2⟩)⟩, ⟨by (with_reducible repeat (first | apply Kd.V_alloc | apply Kd.V_drewN | apply Kd.V_drew)); exact Kd.V_mono HO_9.out (fun _ hk => ⟨hk.1.1.1, hk.1.1.2⟩)⟩, ⟨si32 HI0⟩, ⟨ke HK⟩, ⟨be HB⟩⟩
     ·rw [if_neg c7] at H
      exact absurd H (by simp)
    ·rw [if_neg c6] at H
     exact absurd H (by simp)
   ·rw [if_neg c5] at H
    have c5b0 : decide (x10_1 < (l1.length : Int)) = false := decide_eq_false c5
    clear c5
    simp only [Option.some.injEq, Prod.mk.injEq] at H
    obtain ⟨rfl, rfl, rfl, rfl⟩ := H
    go_wp2
    go_ret
    exact ⟨_, by first | rfl | (simp [errW_none, errW_some] <;> rfl) | (simp [*, errW_none, errW_some] <;> rfl), by (with_reducible repeat (first | apply Kd.V_alloc | apply Kd.V_drewN | apply Kd.V_drew)); exact Kd.V_mono HO_9.out (fun _ hk => hk.1), si32 HI0, be HB, ke HK⟩

/-! ### spec_MostBoats: function 5 -/
def spec_MostBoats.f (k : Nat) (a0_0 : Int) (a0_1 : Int) (a0_2 : (Nat → Int)) (l1 : List (S48)) : Option (List Int × Int) := (spec_l01Asked.f k a0_0 a0_1 a0_2 l1).bind fun bt233 => (if bt233.1 = 0 then ((spec_l01Most.f k bt233.2.1 bt233.2.2.1 bt233.2.2.2 l1 0 (([] : List Int))).bind fun bt240 => (some (bt240.1, 0))) else (some ((([] : List Int)), bt233.1)))
set_option maxHeartbeats 8000000 in
set_option maxRecDepth 100000 in
theorem spec_MostBoats.calls (k : Nat) (a0_0 : Int) (a0_1 : Int) (a0_2 : (Nat → Int)) (A1 : Option Addr) (c1 : Nat) (l1 : List (S48)) (r1 : List Int) (r2 : Int) (w : World) (hr1 : Kd.C k48 w A1 l1.length l1) (hc1 : l1.length ≤ c1) (h : spec_MostBoats.f k a0_0 a0_1 a0_2 l1 = some (r1, r2)) :
  Calls Try.prog 5 #[.agg (csBay a0_0 a0_1 a0_2), .slice A1 l1.length c1] w fun e w' => ∃ v0_ : Value, e = .returned (.tuple #[v0_, .int .i64 r2]) ∧ Kd.V (Kd.int .i64) 2 w' w.heap.size (fun k_ => (w.heap.size ≤ k_)) v0_ r1 ∧ Below w.heap.size w w' := by
 have hu32 := Try.underlying32
 have HR1 := am hr1
 have HC1 := am hc1
 clear hr1 hc1
 have HB := am (Below.refl w.heap.size w)
 have H : ((spec_l01Asked.f k a0_0 a0_1 a0_2 l1).bind fun bt233 => (if bt233.1 = 0 then ((spec_l01Most.f k bt233.2.1 bt233.2.2.1 bt233.2.2.2 l1 0 (([] : List Int))).bind fun bt240 => (some (bt240.1, 0))) else (some ((([] : List Int)), bt233.1)))) = some (r1, r2) := h
 clear h
 replace H := Option.bind_eq_some_iff.mp H
 obtain ⟨⟨t233, t234, t235, t236⟩, A30, H⟩ := H
 try dsimp only at H
 have A3 := am A30
 clear A30
 by_cases c4 : t233 = 0
 ·rw [if_pos c4] at H
  have c4b0 : (t233 == 0) = true := beq_iff_eq.mpr c4
  have c4b1 : (t233 != 0) = false := bne_eq_false_iff_eq.mpr c4
  clear c4
  obtain ⟨y237, hy237⟩ : ∃ y_ : List Int, y_ = (([] : List Int)) := ⟨_, rfl⟩
  replace H : ((spec_l01Most.f k t234 t235 t236 l1 0 y237).bind fun bt240 => (some (bt240.1, 0))) = some (r1, r2) := by first | (rw [hy237]; with_reducible exact H) | (have H2_ := (Option.bind_some _ _).symm.trans H; rw [hy237]; with_reducible exact H2_) | (have H2_ := (Option.bind_some _ _).symm.trans H; with_reducible exact H2_) | with_reducible exact H | (rw [hy237]; exact H) | exact H
  have Ny237 := am hy237
  clear hy237
  replace H := Option.bind_eq_some_iff.mp H
  obtain ⟨⟨t240, t243, t244, t245⟩, A50, H⟩ := H
  try dsimp only at H
  have A5 := am A50
  clear A50
  simp only [Option.some.injEq, Prod.mk.injEq] at H
  obtain ⟨rfl, rfl⟩ := H
  go_enter Try.func5, Try.ntmps5
  go_wp2_with (first | ((with_reducible refine gate_dst (N := 2) rfl ?_); refine bxe (N := 2) (cs := (csBay a0_0 a0_1 a0_2)) (t := 32) ?_; intro gb232 hg w6 hbox hb; have HI232 := am ((show IsS32 w w6 gb232 a0_0 a0_1 a0_2 from ⟨hbox, by rw [hg]; exact (below_size (be HB))⟩)); have GW232 := am (gN hg (below_size (be HB))); have GE232 := am (gN hg (below_size (be HB))); replace HB := am (below_step (be HB) hb); clear hb hbox hg) | ((with_reducible refine gate_callee (f := 14) rfl ?_); refine gL (some 8) Try.func14 #[.pointer (some ⟨gb232, 0, none⟩), .slice A1 l1.length c1] ?_; (with_reducible refine (spec_l01Asked.calls k gb232 a0_0 a0_1 a0_2 _ _ l1 t233 t234 t235 t236 w _ ?side1 ?side2 ?side3 ?side4 A3.out).mono ?_); (case side1 => exact si32 HI232); (case side2 => exact be HB); (case side3 => exact Kd.C_foot_came k48_heap HR1.out (be HB) (IsS32.ge HI232.out)); (case side4 => exact HC1.out); rintro e w7 ⟨rfl, hi, hb, hk⟩; refine ⟨_, rfl, ?_⟩; replace HB := am (hb); replace HI232 := am (hi); (try clear hb); (try clear hb2); (try clear hk); (try clear hi)) | ((with_reducible refine gate_dst (N := 14) rfl ?_); refine Kd.R_lit (Kd.int .i64) _ 2 ?hg (N := 14) ?hd (xs := ([] : List Int)) (inner := []) (ok := fun _ => True) (okp := fun _ => True) ?hr ?hp (fun _ hk => hk) trivial (Below.refl _ _) (Nat.le_refl _) (by simp) ?_; (case hd => rfl); (case hg => rfl); (case hr => first | (go_simp; done) | (go_simp; rfl)); (case hp => exact (Reps.none _ _)); intro v238 w8 ho9 hb hg_ hnew_; clear hg_ hnew_; (first | rw [← Ny237.out] at ho9 | (simp only [Int.reduceToNat] at ho9; rw [← Ny237.out] at ho9)); have HO239 := am (Kd.R_lower (Kd.R_newM (M := fun k_ => (w.heap.size ≤ k_)) ho9 (below_size (be HB)) (fun k_ h_ => h_)) (below_size (be HB))); replace HI232 := am (IsS32.below (si32 HI232) hb); replace HB := am (below_step (be HB) hb); clear hb ho9; obtain ⟨Ao10, co10, eo10⟩ := Kd.R_slice HO239.out; subst eo10) | ((with_reducible refine gate_callee (f := 15) rfl ?_); refine gL (some 15) Try.func15 #[.pointer (some ⟨gb232, 0, none⟩), .slice A1 l1.length c1, .int .i64 0, .slice Ao10 y237.length co10] ?_; (with_reducible refine (spec_l01Most.calls k gb232 t234 t235 t236 _ _ l1 0 (fun k_ => some k_ = (.slice Ao10 y237.length co10 : Value).ownBlock) _ _ y237 t240 t243 t244 t245 w _ ?side1 ?side2 ?side3 ?side4 ?side5 A5.out).mono ?_); (case side1 => exact si32 HI232); (case side2 => exact be HB); (case side3 => exact Kd.C_foot_came k48_heap HR1.out (be HB) (IsS32.ge HI232.out)); (case side4 => exact HC1.out); (case side5 => exact Kd.V_mono (Kd.R_V (Kd.R_tight rfl (IsS32.apart HI232.out (HO239.out) (by decide)))) (fun k_ hk_ => ⟨hk_, ((IsS32.apart HI232.out (HO239.out) (by decide)).1 k_ hk_.symm).2⟩)); rintro e w11 ⟨v241, rfl, ho0, hi, hb, hk⟩; refine ⟨_, rfl, ?_⟩; have HO242 := am (Kd.V_lower (Kd.V_mono (ok' := fun k_ => (w.heap.size ≤ k_) ∧ k_ ≠ gb232) ho0 (fun k_ hk_ => ⟨Or.elim hk_ (fun hs_ => ((IsS32.apart HI232.out (HO239.out) (by decide)).1 k_ hs_.symm).1.1) (fun hn_ => (Nat.le_trans (below_size (be HB)) hn_)), Or.elim hk_ (fun hs_ => ((IsS32.apart HI232.out (HO239.out) (by decide)).1 k_ hs_.symm).2) (fun hn_ => (IsS32.fresh (si32 HI232) k_ hn_))⟩)) (below_size (be HB))); replace HO239 := am (Kd.R_mono (Kd.R_keep (IsS32.apart (show IsS32 w _ gb232 t234 t235 t236 from si32 HI232) (kr HO239) (by decide)) hk (fun _ h => h.2)) (fun _ h => h.1)); replace HB := am (hb); replace HI232 := am (hi); (try clear hb); (try clear hb2); (try clear hk); (try clear hi); (try clear ho0)))
  go_ret2
  exact ⟨_, by first | rfl | (simp [errW_none, errW_some] <;> rfl) | (simp [*, errW_none, errW_some] <;> rfl), by (with_reducible repeat (first | apply Kd.V_alloc | apply Kd.V_drewN | apply Kd.V_drew)); exact Kd.V_mono HO242.out (fun _ hk => hk.1), be HB⟩
 ·rw [if_neg c4] at H
  have c4b0 : (t233 == 0) = false := beq_eq_false_iff_ne.mpr c4
  have c4b1 : (t233 != 0) = true := bne_iff_ne.mpr c4
  obtain ⟨y246, hy246⟩ : ∃ y_ : List Int, y_ = (([] : List Int)) := ⟨_, rfl⟩
  replace H : (some (y246, t233)) = some (r1, r2) := by first | (rw [hy246]; with_reducible exact H) | (have H2_ := (Option.bind_some _ _).symm.trans H; rw [hy246]; with_reducible exact H2_) | (have H2_ := (Option.bind_some _ _).symm.trans H; with_reducible exact H2_) | with_reducible exact H | (rw [hy246]; exact H) | exact H
  have Ny246 := am hy246
  clear hy246
  simp only [Option.some.injEq, Prod.mk.injEq] at H
  obtain ⟨rfl, rfl⟩ := H
  go_enter Try.func5, Try.ntmps5
  go_wp2_with (first | ((with_reducible refine gate_dst (N := 2) rfl ?_); refine bxe (N := 2) (cs := (csBay a0_0 a0_1 a0_2)) (t := 32) ?_; intro gb232 hg w12 hbox hb; have HI232 := am ((show IsS32 w w12 gb232 a0_0 a0_1 a0_2 from ⟨hbox, by rw [hg]; exact (below_size (be HB))⟩)); have GW232 := am (gN hg (below_size (be HB))); have GE232 := am (gN hg (below_size (be HB))); replace HB := am (below_step (be HB) hb); clear hb hbox hg) | ((with_reducible refine gate_callee (f := 14) rfl ?_); refine gL (some 8) Try.func14 #[.pointer (some ⟨gb232, 0, none⟩), .slice A1 l1.length c1] ?_; (with_reducible refine (spec_l01Asked.calls k gb232 a0_0 a0_1 a0_2 _ _ l1 t233 t234 t235 t236 w _ ?side1 ?side2 ?side3 ?side4 A3.out).mono ?_); (case side1 => exact si32 HI232); (case side2 => exact be HB); (case side3 => exact Kd.C_foot_came k48_heap HR1.out (be HB) (IsS32.ge HI232.out)); (case side4 => exact HC1.out); rintro e w13 ⟨rfl, hi, hb, hk⟩; refine ⟨_, rfl, ?_⟩; replace HB := am (hb); replace HI232 := am (hi); (try clear hb); (try clear hb2); (try clear hk); (try clear hi)) | ((with_reducible refine gate_dst (N := 11) rfl ?_); refine Kd.R_lit (Kd.int .i64) _ 2 ?hg (N := 11) ?hd (xs := ([] : List Int)) (inner := []) (ok := fun _ => True) (okp := fun _ => True) ?hr ?hp (fun _ hk => hk) trivial (Below.refl _ _) (Nat.le_refl _) (by simp) ?_; (case hd => rfl); (case hg => rfl); (case hr => first | (go_simp; done) | (go_simp; rfl)); (case hp => exact (Reps.none _ _)); intro v247 w14 ho15 hb hg_ hnew_; clear hg_ hnew_; (first | rw [← Ny246.out] at ho15 | (simp only [Int.reduceToNat] at ho15; rw [← Ny246.out] at ho15)); have HO248 := am (Kd.R_lower (Kd.R_newM (M := fun k_ => (w.heap.size ≤ k_)) ho15 (below_size (be HB)) (fun k_ h_ => h_)) (below_size (be HB))); replace HI232 := am (IsS32.below (si32 HI232) hb); replace HB := am (below_step (be HB) hb); clear hb ho15))
  go_ret2
  exact ⟨_, by first | rfl | (simp [errW_none, errW_some] <;> rfl) | (simp [*, errW_none, errW_some] <;> rfl), Kd.R_V (by (with_reducible repeat (first | apply Kd.R_alloc | apply Kd.R_drewN | apply Kd.R_drew)); exact Kd.R_mono HO248.out (fun _ hk => hk.1)), be HB⟩

-- NOT PRINTED: function 26 (laws_toInt8A16)

-- NOT PRINTED: function 16 (laws_toInt8A16A16)

/-! ### laws_toBay: function 6 -/
def laws_toBay.f (a0_0 : Int) (a0_1 : Int) (a0_2 : (Nat → Int)) : Option (Int × Int × (Nat → Int)) := some (a0_0, a0_1, a0_2)
theorem laws_toBay.calls (a0_0 : Int) (a0_1 : Int) (a0_2 : (Nat → Int)) (r1 : Int) (r2 : Int) (r3 : (Nat → Int)) (w : World) (h : laws_toBay.f a0_0 a0_1 a0_2 = some (r1, r2, r3)) :
  Calls Try.prog 6 #[.agg (csBay a0_0 a0_1 a0_2)] w fun e w' => e = .returned (.agg (csBay r1 r2 r3)) ∧ Below w.heap.size w w' := by
 simp only [laws_toBay.f, Option.some.injEq, Prod.mk.injEq] at h
 obtain ⟨rfl, rfl, rfl⟩ := h
 exact Go.Proofs.Ytigafbmdedjgdaa.BayIn.toBay_calls _ _ _ w

/-! ### laws_toPlace: function 27 -/
def laws_toPlace.f (a0_0 : Int) (a0_1 : Int) : Option (Int × Int) := some (a0_0, a0_1)
set_option maxHeartbeats 8000000 in
set_option maxRecDepth 100000 in
theorem laws_toPlace.calls (a0_0 : Int) (a0_1 : Int) (r1 : Int) (r2 : Int) (w : World) (h : laws_toPlace.f a0_0 a0_1 = some (r1, r2)) :
  Calls Try.prog 27 #[.agg #[.int .i8 a0_0, .int .i8 a0_1]] w fun e w' => e = .returned (.agg #[.int .i8 r1, .int .i8 r2]) ∧ Below w.heap.size w w' := by
 have hu50 := Try.underlying50
 have hu46 := Try.underlying46
 have HB := am (Below.refl w.heap.size w)
 have H : (some (a0_0, a0_1)) = some (r1, r2) := h
 clear h
 simp only [Option.some.injEq, Prod.mk.injEq] at H
 obtain ⟨rfl, rfl⟩ := H
 go_enter Try.func27, Try.ntmps27
 go_wp2_with (first | ((with_reducible refine gate_dst (N := 1) rfl ?_); refine bxe (N := 1) (cs := #[.int .i8 a0_0, .int .i8 a0_1]) (t := 50) ?_; intro gb249 hg w2 hbox hb; have BK249 := am (hbox); have GW249 := am (gN hg (below_size (be HB))); have GE249 := am (gN hg (below_size (be HB))); replace HB := am (below_step (be HB) hb); clear hb hbox hg) | ((with_reducible refine gate_dst (N := 2) rfl ?_); refine bxe (N := 2) (cs := #[.int .i8 0, .int .i8 0]) (t := 46) ?_; intro gb250 hg w3 hbox hb; have BK250 := am (hbox); have GW250 := am (gN hg (below_size (be HB))); have GE250 := am (gN hg (below_size (be HB))); have NB249_250 := nL BK249 hg; have NB250_249 := nR BK249 hg; replace BK249 := bB BK249 hb; replace HB := am (below_step (be HB) hb); clear hb hbox hg) | ((with_reducible refine gate_dst (N := 3) rfl ?_); refine bxe (N := 3) (cs := #[.int .i8 0, .int .i8 0]) (t := 46) ?_; intro gb251 hg w4 hbox hb; have BK251 := am (hbox); have GW251 := am (gN hg (below_size (be HB))); have GE251 := am (gN hg (below_size (be HB))); have NB249_251 := nL BK249 hg; have NB251_249 := nR BK249 hg; have NB250_251 := nL BK250 hg; have NB251_250 := nR BK250 hg; replace BK249 := bB BK249 hb; replace BK250 := bB BK250 hb; replace HB := am (below_step (be HB) hb); clear hb hbox hg; have hnb5 := NB249_250.out; have hnc5 := NB250_249.out; have hnb6 := NB249_251.out; have hnc6 := NB251_249.out; obtain ⟨hcz7_0, hcz7_1, hfz7_0, hfz7_1⟩ := bx2 BK249; have hnb8 := NB251_250.out; have hnc8 := NB250_251.out; obtain ⟨hcz9_0, hcz9_1, hfz9_0, hfz9_1⟩ := bx2 BK251; obtain ⟨hcz10_0, hcz10_1, hfz10_0, hfz10_1⟩ := bx2 BK250))
 refine bodyPost_ret (results_cell_row rfl _ _ gb250 46 #[.int .i8 a0_0, .int .i8 a0_1] (0, 0) _ rfl (by (with_reducible repeat (first | refine blk_drewN ?_ _ | refine blk_drew ?_ | refine blk_alloc ?_ _)); refine blk_put (cs := #[.int .i8 a0_0, .int .i8 0]) ?_ 1 _ rfl; (with_reducible repeat (first | refine blk_drewN ?_ _ | refine blk_drew ?_ | refine blk_alloc ?_ _)); refine blk_put (cs := #[.int .i8 0, .int .i8 0]) ?_ 0 _ rfl; (with_reducible repeat (first | refine blk_drewN ?_ _ | refine blk_drew ?_ | refine blk_alloc ?_ _)); refine blk_far ?_ NB250_251.out _; (with_reducible repeat (first | refine blk_drewN ?_ _ | refine blk_drew ?_ | refine blk_alloc ?_ _)); refine blk_far ?_ NB250_251.out _; exact kb BK250) Try.underlying46 rfl (by kernel_rfl)) rfl ?_
 exact ⟨by first | rfl | (simp [errW_none, errW_some] <;> rfl) | (simp [*, errW_none, errW_some] <;> rfl), be HB⟩

/-! ### laws_toBoat: function 17 -/
def laws_toBoat.f (a0_0 : Int) (a0_1 : Int) (a0_2 : Int) (a0_3 : Int) (a0_4 : Int) (a0_5 : Int) : Option (Int × Int × Int × Int × Int × Int) := (laws_toPlace.f a0_0 a0_1).bind fun bt255 => (some (bt255.1, bt255.2, a0_2, a0_3, a0_4, a0_5))
set_option maxHeartbeats 8000000 in
set_option maxRecDepth 100000 in
theorem laws_toBoat.calls (a0_0 : Int) (a0_1 : Int) (a0_2 : Int) (a0_3 : Int) (a0_4 : Int) (a0_5 : Int) (r1 : Int) (r2 : Int) (r3 : Int) (r4 : Int) (r5 : Int) (r6 : Int) (w : World) (h : laws_toBoat.f a0_0 a0_1 a0_2 a0_3 a0_4 a0_5 = some (r1, r2, r3, r4, r5, r6)) :
  Calls Try.prog 17 #[.agg #[.int .i8 a0_0, .int .i8 a0_1, .int .i8 a0_2, .int .i8 a0_3, .int .i8 a0_4, .int .i8 a0_5]] w fun e w' => e = .returned (.agg #[.int .i8 r1, .int .i8 r2, .int .i8 r3, .int .i8 r4, .int .i8 r5, .int .i8 r6]) ∧ Below w.heap.size w w' := by
 have hu52 := Try.underlying52
 have hu48 := Try.underlying48
 have hu50 := Try.underlying50
 have hu46 := Try.underlying46
 have HB := am (Below.refl w.heap.size w)
 have H : ((laws_toPlace.f a0_0 a0_1).bind fun bt255 => (some (bt255.1, bt255.2, a0_2, a0_3, a0_4, a0_5))) = some (r1, r2, r3, r4, r5, r6) := h
 clear h
 replace H := Option.bind_eq_some_iff.mp H
 obtain ⟨⟨t255, t256⟩, A20, H⟩ := H
 try dsimp only at H
 have A2 := am A20
 clear A20
 simp only [Option.some.injEq, Prod.mk.injEq] at H
 obtain ⟨rfl, rfl, rfl, rfl, rfl, rfl⟩ := H
 go_enter Try.func17, Try.ntmps17
 go_wp2_with (first | ((with_reducible refine gate_dst (N := 1) rfl ?_); refine bxe (N := 1) (cs := #[.int .i8 a0_0, .int .i8 a0_1, .int .i8 a0_2, .int .i8 a0_3, .int .i8 a0_4, .int .i8 a0_5]) (t := 52) ?_; intro gb252 hg w3 hbox hb; have BK252 := am (hbox); have GW252 := am (gN hg (below_size (be HB))); have GE252 := am (gN hg (below_size (be HB))); replace HB := am (below_step (be HB) hb); clear hb hbox hg) | ((with_reducible refine gate_dst (N := 2) rfl ?_); refine bxe (N := 2) (cs := #[.int .i8 0, .int .i8 0, .int .i8 0, .int .i8 0, .int .i8 0, .int .i8 0]) (t := 48) ?_; intro gb253 hg w4 hbox hb; have BK253 := am (hbox); have GW253 := am (gN hg (below_size (be HB))); have GE253 := am (gN hg (below_size (be HB))); have NB252_253 := nL BK252 hg; have NB253_252 := nR BK252 hg; replace BK252 := bB BK252 hb; replace HB := am (below_step (be HB) hb); clear hb hbox hg) | ((with_reducible refine gate_dst (N := 3) rfl ?_); refine bxe (N := 3) (cs := #[.int .i8 0, .int .i8 0, .int .i8 0, .int .i8 0, .int .i8 0, .int .i8 0]) (t := 48) ?_; intro gb254 hg w5 hbox hb; have BK254 := am (hbox); have GW254 := am (gN hg (below_size (be HB))); have GE254 := am (gN hg (below_size (be HB))); have NB252_254 := nL BK252 hg; have NB254_252 := nR BK252 hg; have NB253_254 := nL BK253 hg; have NB254_253 := nR BK253 hg; replace BK252 := bB BK252 hb; replace BK253 := bB BK253 hb; replace HB := am (below_step (be HB) hb); clear hb hbox hg; have hnb6 := NB252_253.out; have hnc6 := NB253_252.out; have hnb7 := NB252_254.out; have hnc7 := NB254_252.out; obtain ⟨hcz8_0, hcz8_1, hcz8_2, hcz8_3, hcz8_4, hcz8_5, hfz8_0, hfz8_1, hfz8_2, hfz8_3, hfz8_4, hfz8_5⟩ := bx6 BK252) | ((with_reducible refine gate_callee (f := 27) rfl ?_); refine gL (some 6) Try.func27 #[.agg #[.int .i8 a0_0, .int .i8 a0_1]] ?_; (with_reducible refine (laws_toPlace.calls a0_0 a0_1 t255 t256 _ A2.out).mono ?_); rintro e w9 ⟨rfl, hb⟩; refine ⟨_, rfl, ?_⟩; replace BK252 := bB BK252 hb; replace BK253 := bB BK253 hb; replace BK254 := bB BK254 hb; replace HB := am (below_step (be HB) hb); (try clear hb); (try clear hb2); (try clear hk); (try clear hi); have hnb10 := NB254_253.out; have hnc10 := NB253_254.out; obtain ⟨hcz11_0, hcz11_1, hcz11_2, hcz11_3, hcz11_4, hcz11_5, hfz11_0, hfz11_1, hfz11_2, hfz11_3, hfz11_4, hfz11_5⟩ := bx6 BK254; obtain ⟨hcz12_0, hcz12_1, hcz12_2, hcz12_3, hcz12_4, hcz12_5, hfz12_0, hfz12_1, hfz12_2, hfz12_3, hfz12_4, hfz12_5⟩ := bx6 BK252; obtain ⟨hcz13_0, hcz13_1, hcz13_2, hcz13_3, hcz13_4, hcz13_5, hfz13_0, hfz13_1, hfz13_2, hfz13_3, hfz13_4, hfz13_5⟩ := bx6 BK253))
 refine bodyPost_ret (results_cell_row rfl _ _ gb253 48 #[.int .i8 t255, .int .i8 t256, .int .i8 a0_2, .int .i8 a0_3, .int .i8 a0_4, .int .i8 a0_5] (0, 0) _ rfl (by (with_reducible repeat (first | refine blk_drewN ?_ _ | refine blk_drew ?_ | refine blk_alloc ?_ _)); refine blk_put (cs := #[.int .i8 t255, .int .i8 t256, .int .i8 a0_2, .int .i8 a0_3, .int .i8 a0_4, .int .i8 0]) ?_ 5 _ rfl; (with_reducible repeat (first | refine blk_drewN ?_ _ | refine blk_drew ?_ | refine blk_alloc ?_ _)); refine blk_put (cs := #[.int .i8 t255, .int .i8 t256, .int .i8 a0_2, .int .i8 a0_3, .int .i8 0, .int .i8 0]) ?_ 4 _ rfl; (with_reducible repeat (first | refine blk_drewN ?_ _ | refine blk_drew ?_ | refine blk_alloc ?_ _)); refine blk_put (cs := #[.int .i8 t255, .int .i8 t256, .int .i8 a0_2, .int .i8 0, .int .i8 0, .int .i8 0]) ?_ 3 _ rfl; (with_reducible repeat (first | refine blk_drewN ?_ _ | refine blk_drew ?_ | refine blk_alloc ?_ _)); refine blk_put (cs := #[.int .i8 t255, .int .i8 t256, .int .i8 0, .int .i8 0, .int .i8 0, .int .i8 0]) ?_ 2 _ rfl; (with_reducible repeat (first | refine blk_drewN ?_ _ | refine blk_drew ?_ | refine blk_alloc ?_ _)); refine blk_put (cs := #[.int .i8 t255, .int .i8 0, .int .i8 0, .int .i8 0, .int .i8 0, .int .i8 0]) ?_ 1 _ rfl; (with_reducible repeat (first | refine blk_drewN ?_ _ | refine blk_drew ?_ | refine blk_alloc ?_ _)); refine blk_put (cs := #[.int .i8 0, .int .i8 0, .int .i8 0, .int .i8 0, .int .i8 0, .int .i8 0]) ?_ 0 _ rfl; (with_reducible repeat (first | refine blk_drewN ?_ _ | refine blk_drew ?_ | refine blk_alloc ?_ _)); refine blk_far ?_ NB253_254.out _; (with_reducible repeat (first | refine blk_drewN ?_ _ | refine blk_drew ?_ | refine blk_alloc ?_ _)); refine blk_far ?_ NB253_254.out _; (with_reducible repeat (first | refine blk_drewN ?_ _ | refine blk_drew ?_ | refine blk_alloc ?_ _)); refine blk_far ?_ NB253_254.out _; (with_reducible repeat (first | refine blk_drewN ?_ _ | refine blk_drew ?_ | refine blk_alloc ?_ _)); refine blk_far ?_ NB253_254.out _; (with_reducible repeat (first | refine blk_drewN ?_ _ | refine blk_drew ?_ | refine blk_alloc ?_ _)); refine blk_far ?_ NB253_254.out _; (with_reducible repeat (first | refine blk_drewN ?_ _ | refine blk_drew ?_ | refine blk_alloc ?_ _)); refine blk_far ?_ NB253_254.out _; exact kb BK253) Try.underlying48 rfl (by kernel_rfl)) rfl ?_
 exact ⟨by first | rfl | (simp [errW_none, errW_some] <;> rfl) | (simp [*, errW_none, errW_some] <;> rfl), be HB⟩

/-! ### laws_toBoatS: function 7 -/
def laws_toBoatS.l0 : Nat → List (S52) → List (S48) → Int → Option ((List (S48)))
 | 0, _, _, _ => none
 | k + 1, x0, x3, x4 => if x4 < (x0.length : Int) then (if 0 ≤ x4 then ((laws_toBoat.f ((rd_T52 x0 x4).f0.f0) ((rd_T52 x0 x4).f0.f1) ((rd_T52 x0 x4).f1) ((rd_T52 x0 x4).f2) ((rd_T52 x0 x4).f3) ((rd_T52 x0 x4).f4)).bind fun bt261 => (if x4 < (x3.length : Int) then (laws_toBoatS.l0 k x0 (x3.set (x4 : Int).toNat (⟨(⟨bt261.1, bt261.2.1⟩ : S46), bt261.2.2.1, bt261.2.2.2.1, bt261.2.2.2.2.1, bt261.2.2.2.2.2⟩ : S48)) (wrap64 (x4 + 1))) else (none))) else (none)) else (some x3)
def laws_toBoatS.f (k : Nat) (l0 : List (S52)) : Option ((List (S48))) := if 0 ≤ (l0.length : Int) then (if ((l0.length : Int) : Int).toNat ≤ 46912496118442 then (laws_toBoatS.l0 k l0 (List.replicate ((l0.length : Int) : Int).toNat z48) 0) else (none)) else (none)
set_option maxHeartbeats 8000000 in
set_option maxRecDepth 100000 in
theorem laws_toBoatS.calls (k : Nat) (A0 : Option Addr) (c0 : Nat) (l0 : List (S52)) (r : List (S48)) (w : World) (hr0 : Kd.C k52 w A0 l0.length l0) (hc0 : l0.length ≤ c0) (h : laws_toBoatS.f k l0 = some r) :
  Calls Try.prog 7 #[.slice A0 l0.length c0] w fun e w' => ∃ v0_ : Value, e = .returned (v0_) ∧ Kd.R k48 48 w' w.heap.size (fun _ => True) v0_ r ∧ Below w.heap.size w w' := by
 have hu52 := Try.underlying52
 have hu48 := Try.underlying48
 have HR0 := am hr0
 have HC0 := am hc0
 clear hr0 hc0
 have HB := am (Below.refl w.heap.size w)
 have H : (if 0 ≤ (l0.length : Int) then (if ((l0.length : Int) : Int).toNat ≤ 46912496118442 then (laws_toBoatS.l0 k l0 (List.replicate ((l0.length : Int) : Int).toNat z48) 0) else (none)) else (none)) = some r := h
 clear h
 by_cases c2 : 0 ≤ (l0.length : Int)
 ·rw [if_pos c2] at H
  have c2b0 := eq_true c2
  have c2b1 : decide (0 ≤ (l0.length : Int)) = true := decide_eq_true c2
  clear c2
  by_cases c3 : ((l0.length : Int) : Int).toNat ≤ 46912496118442
  ·rw [if_pos c3] at H
   have c3b0 := eq_true c3
   have c3b1 : decide (((l0.length : Int) : Int).toNat ≤ 46912496118442) = true := decide_eq_true c3
   clear c3
   obtain ⟨y257, hy257⟩ : ∃ y_ : List (S48), y_ = (List.replicate ((l0.length : Int) : Int).toNat z48) := ⟨_, rfl⟩
   replace H : (laws_toBoatS.l0 k l0 y257 0) = some r := by first | (rw [hy257]; with_reducible exact H) | (have H2_ := (Option.bind_some _ _).symm.trans H; rw [hy257]; with_reducible exact H2_) | (have H2_ := (Option.bind_some _ _).symm.trans H; with_reducible exact H2_) | with_reducible exact H | (rw [hy257]; exact H) | exact H
   have Ny257 := am hy257
   clear hy257
   have H' := am H
   clear H
   go_enter Try.func7, Try.ntmps7
   go_wp2_with (first | ((with_reducible refine gate_dst (N := 7) rfl ?_); refine Kd.R_make k48 _ 48 rfl (N := 7) rfl 34 _ _ rfl (l0.length : Int) rfl rfl Try.underlying34 (.agg #[(.int .i8 0), (.int .i8 0), (.int .i8 0), (.int .i8 0), (.int .i8 0), (.int .i8 0)]) 6 info48 rfl (by decide) (by omega) z48 (ok := fun _ => True) (okp := fun _ => True) (k48_mkM _ _ _ z48 ) (fun _ hk => hk) trivial (of_decide_eq_true (by first | (with_reducible assumption) | assumption)) (Nat.le_trans (Nat.mul_le_mul_right _ (of_decide_eq_true (by first | (with_reducible assumption) | assumption) : (l0.length : Int).toNat ≤ 46912496118442)) (by omega)) (Below.refl _ _) (Nat.le_refl _) ?_; intro v258 w4 ho5 hb hg_ hnew_; clear hg_ hnew_; (first | rw [← Ny257.out] at ho5 | (simp only [Int.reduceToNat] at ho5; rw [← Ny257.out] at ho5)); have HO259 := am (Kd.R_lower ho5 (below_size (be HB))); replace HB := am (below_step (be HB) hb); clear hb ho5))
   go_loopg [4] k (fun kq v4 w' => ∃ (x3_1 : List (S48)) (x4_1 : Int), v4 = .int .i64 x4_1 ∧ Aside0 (laws_toBoatS.l0 kq l0 x3_1 x4_1 = some r) ∧ Aside0 (kq ≤ k) ∧ Aside0 (Kd.R k48 48 w' w.heap.size (fun _ => True) v258 x3_1) ∧ Aside0 (Below w.heap.size w w'))
   case atStart => exact ⟨(y257), (0), vv, H', ⟨Nat.le_refl _⟩, ⟨kr HO259⟩, ⟨be HB⟩⟩
   case round =>
    clear H'
    try clear c2
    try clear c2b0
    try clear c2b1
    try clear p2
    try clear c3
    try clear c3b0
    try clear c3b1
    obtain ⟨x3_1, x4_1, rfl, HA, HK1, HO_3, HB⟩ := hrel
    cases gk with
    | zero => exact absurd HA.out (by simp [laws_toBoatS.l0])
    | succ k1 =>
     have H := HA.out
     clear HA
     simp only [laws_toBoatS.l0] at H
     by_cases c6 : x4_1 < (l0.length : Int)
     ·rw [if_pos c6] at H
      have c6b0 : decide (x4_1 < (l0.length : Int)) = true := decide_eq_true c6
      clear c6
      by_cases c7 : 0 ≤ x4_1
      ·rw [if_pos c7] at H
       have c7b0 : decide (0 ≤ x4_1) = true := decide_eq_true c7
       have c7b1 : 0 ≤ x4_1 := c7
       clear c7
       replace H := Option.bind_eq_some_iff.mp H
       obtain ⟨⟨t261, t262, t263, t264, t265, t266⟩, A80, H⟩ := H
       try dsimp only at H
       have A8 := am A80
       clear A80
       by_cases c9 : x4_1 < (x3_1.length : Int)
       ·rw [if_pos c9] at H
        have c9b0 : decide (x4_1 < (x3_1.length : Int)) = true := decide_eq_true c9
        clear c9
        obtain ⟨y267, hy267⟩ : ∃ y_ : List (S48), y_ = (x3_1.set (x4_1 : Int).toNat (⟨(⟨t261, t262⟩ : S46), t263, t264, t265, t266⟩ : S48)) := ⟨_, rfl⟩
        replace H : (laws_toBoatS.l0 k1 l0 y267 (wrap64 (x4_1 + 1))) = some r := by first | (rw [hy267]; with_reducible exact H) | (have H2_ := (Option.bind_some _ _).symm.trans H; rw [hy267]; with_reducible exact H2_) | (have H2_ := (Option.bind_some _ _).symm.trans H; with_reducible exact H2_) | with_reducible exact H | (rw [hy267]; exact H) | exact H
        have Ny267 := am hy267
        clear hy267
        have H' := am H
        clear H
        have p260 : 0 ≤ (x4_1 : Int) := of_decide_eq_true (by first | (with_reducible assumption) | assumption)
        have q260 : x4_1 < (l0.length : Int) := of_decide_eq_true (by first | (with_reducible assumption) | assumption)
        obtain ⟨ad260, e260, hx260_0, hx260_1, hx260_2, hx260_3, hx260_4, hx260_5⟩ := at_T52 HR0.out x4_1 p260 q260
        cases e260
        replace hx260_0 := (HB.out.cell (World.block_lt_of_cell? w _ hx260_0)).trans hx260_0
        replace hx260_1 := (HB.out.cell (World.block_lt_of_cell? w _ hx260_1)).trans hx260_1
        replace hx260_2 := (HB.out.cell (World.block_lt_of_cell? w _ hx260_2)).trans hx260_2
        replace hx260_3 := (HB.out.cell (World.block_lt_of_cell? w _ hx260_3)).trans hx260_3
        replace hx260_4 := (HB.out.cell (World.block_lt_of_cell? w _ hx260_4)).trans hx260_4
        replace hx260_5 := (HB.out.cell (World.block_lt_of_cell? w _ hx260_5)).trans hx260_5
        replace p260 := eq_true p260
        replace q260 := eq_true q260
        go_wp2_with (first | ((with_reducible refine gate_callee (f := 17) rfl ?_); refine gL (some 20) Try.func17 #[.agg #[.int .i8 ((rd_T52 l0 x4_1).f0.f0), .int .i8 ((rd_T52 l0 x4_1).f0.f1), .int .i8 ((rd_T52 l0 x4_1).f1), .int .i8 ((rd_T52 l0 x4_1).f2), .int .i8 ((rd_T52 l0 x4_1).f3), .int .i8 ((rd_T52 l0 x4_1).f4)]] ?_; (with_reducible refine (laws_toBoat.calls ((rd_T52 l0 x4_1).f0.f0) ((rd_T52 l0 x4_1).f0.f1) ((rd_T52 l0 x4_1).f1) ((rd_T52 l0 x4_1).f2) ((rd_T52 l0 x4_1).f3) ((rd_T52 l0 x4_1).f4) t261 t262 t263 t264 t265 t266 _ A8.out).mono ?_); rintro e w11 ⟨rfl, hb⟩; refine ⟨_, rfl, ?_⟩; replace HO_3 := am (Kd.R_below (kr HO_3) hb); replace HB := am (below_step (be HB) hb); (try clear hb); (try clear hb2); (try clear hk); (try clear hi); have p10 : 0 ≤ (x4_1 : Int) := of_decide_eq_true (by first | (with_reducible assumption) | assumption); have q10 : (x4_1 : Int) < ((x3_1.length : Int) : Int) := of_decide_eq_true (by first | (with_reducible assumption) | assumption); obtain ⟨go10, co10, eo10, gb10, gl10, cl10, HG10⟩ := Kd.R_form HO_3.out (by omega); (first | cases eo10 | (injection eo10 with ea_ en_ ec_; (first | subst ea_ | (injection ea_ with ea_; subst ea_)); subst ec_; clear en_)); have GB10 := am gb10; have GG10 := am HG10; clear gb10 gl10 HG10; obtain ⟨ce10, hcl10, hM10, hcc10, hfr10⟩ := Kd.R_elem HO_3.out z48 (x4_1 : Int) p10 q10; obtain rfl := k48_openM hM10; have hx10_0 : w11.cell? ⟨go10, (x4_1 : Int).toNat * 6, none⟩ = some (.int .i8 ((rd_T48 x3_1 x4_1).f0.f0)) := hcc10 0 _ rfl; have hx10_1 : w11.cell? ⟨go10, (x4_1 : Int).toNat * 6 + 1, none⟩ = some (.int .i8 ((rd_T48 x3_1 x4_1).f0.f1)) := hcc10 1 _ rfl; have hx10_2 : w11.cell? ⟨go10, (x4_1 : Int).toNat * 6 + 2, none⟩ = some (.int .i8 ((rd_T48 x3_1 x4_1).f1)) := hcc10 2 _ rfl; have hx10_3 : w11.cell? ⟨go10, (x4_1 : Int).toNat * 6 + 3, none⟩ = some (.int .i8 ((rd_T48 x3_1 x4_1).f2)) := hcc10 3 _ rfl; have hx10_4 : w11.cell? ⟨go10, (x4_1 : Int).toNat * 6 + 4, none⟩ = some (.int .i8 ((rd_T48 x3_1 x4_1).f3)) := hcc10 4 _ rfl; have hx10_5 : w11.cell? ⟨go10, (x4_1 : Int).toNat * 6 + 5, none⟩ = some (.int .i8 ((rd_T48 x3_1 x4_1).f4)) := hcc10 5 _ rfl; have hf10_0 : w11.frozen? ⟨go10, (x4_1 : Int).toNat * 6, none⟩ = false := hfr10 0; have hf10_1 : w11.frozen? ⟨go10, (x4_1 : Int).toNat * 6 + 1, none⟩ = false := hfr10 1; have hf10_2 : w11.frozen? ⟨go10, (x4_1 : Int).toNat * 6 + 2, none⟩ = false := hfr10 2; have hf10_3 : w11.frozen? ⟨go10, (x4_1 : Int).toNat * 6 + 3, none⟩ = false := hfr10 3; have hf10_4 : w11.frozen? ⟨go10, (x4_1 : Int).toNat * 6 + 4, none⟩ = false := hfr10 4; have hf10_5 : w11.frozen? ⟨go10, (x4_1 : Int).toNat * 6 + 5, none⟩ = false := hfr10 5; clear hcl10 hcc10 hfr10 hM10; replace p10 := eq_true p10; replace q10 := eq_true q10; have HX12 := am (show Kd.R k48 48 w11 w.heap.size (fun _ => True) (.slice (some ⟨go10, 0, none⟩) x3_1.length co10) x3_1 from (kr HO_3)); obtain ⟨ce12, hcl12, hM12, hcc12, hfr12⟩ := Kd.R_elem HX12.out z48 (x4_1 : Int) (of_decide_eq_true (by first | (with_reducible assumption) | assumption)) (by have h_ : (x4_1 : Int) < ((x3_1.length : Int) : Int) := of_decide_eq_true (by first | (with_reducible assumption) | assumption); first | exact h_ | (have e_ := (Kd.R_reads' HO_3.out).1; omega) | simpa using h_); obtain rfl := k48_openM hM12; have HP12 := Kd.R_seg HX12.out (x4_1 : Int) (of_decide_eq_true (by first | (with_reducible assumption) | assumption)) (by have h_ : (x4_1 : Int) < ((x3_1.length : Int) : Int) := of_decide_eq_true (by first | (with_reducible assumption) | assumption); first | exact h_ | (have e_ := (Kd.R_reads' HO_3.out).1; omega) | simpa using h_) (seg := [.int .i8 t261, .int .i8 t262, .int .i8 t263, .int .i8 t264, .int .i8 t265, .int .i8 t266]) (j := 0) hcl12 hcc12 (show 6 ≤ 6 from by decide) (x' := (⟨(⟨t261, t262⟩ : S46), t263, t264, t265, t266⟩ : S48)) (k48_mkM _ _ _ (⟨(⟨t261, t262⟩ : S46), t263, t264, t265, t266⟩ : S48) ) (fun _ hk => hk); have hx12_0 := hcc12 0 _ rfl; (try simp only [show (k48).sz = 6 from rfl, Nat.mul_one, Nat.add_zero] at hx12_0); have hf12_0 := hfr12 0; (try simp only [show (k48).sz = 6 from rfl, Nat.mul_one, Nat.add_zero] at hf12_0); have hx12_1 := hcc12 1 _ rfl; (try simp only [show (k48).sz = 6 from rfl, Nat.mul_one, Nat.add_zero] at hx12_1); have hf12_1 := hfr12 1; (try simp only [show (k48).sz = 6 from rfl, Nat.mul_one, Nat.add_zero] at hf12_1); have hx12_2 := hcc12 2 _ rfl; (try simp only [show (k48).sz = 6 from rfl, Nat.mul_one, Nat.add_zero] at hx12_2); have hf12_2 := hfr12 2; (try simp only [show (k48).sz = 6 from rfl, Nat.mul_one, Nat.add_zero] at hf12_2); have hx12_3 := hcc12 3 _ rfl; (try simp only [show (k48).sz = 6 from rfl, Nat.mul_one, Nat.add_zero] at hx12_3); have hf12_3 := hfr12 3; (try simp only [show (k48).sz = 6 from rfl, Nat.mul_one, Nat.add_zero] at hf12_3); have hx12_4 := hcc12 4 _ rfl; (try simp only [show (k48).sz = 6 from rfl, Nat.mul_one, Nat.add_zero] at hx12_4); have hf12_4 := hfr12 4; (try simp only [show (k48).sz = 6 from rfl, Nat.mul_one, Nat.add_zero] at hf12_4); have hx12_5 := hcc12 5 _ rfl; (try simp only [show (k48).sz = 6 from rfl, Nat.mul_one, Nat.add_zero] at hx12_5); have hf12_5 := hfr12 5; (try simp only [show (k48).sz = 6 from rfl, Nat.mul_one, Nat.add_zero] at hf12_5); clear hcl12 hcc12 hfr12 hM12) | ((with_reducible refine gate_store (t := 48) (p := 21) rfl ?_); refine store_event (t := 48) (p := 21) (v := ?vo_w13) (w1 := ((((((w11.setCell ⟨go10, (x4_1 : Int).toNat * 6, none⟩ (.int .i8 t261)).setCell ⟨go10, (x4_1 : Int).toNat * 6 + 1, none⟩ (.int .i8 t262)).setCell ⟨go10, (x4_1 : Int).toNat * 6 + 2, none⟩ (.int .i8 t263)).setCell ⟨go10, (x4_1 : Int).toNat * 6 + 3, none⟩ (.int .i8 t264)).setCell ⟨go10, (x4_1 : Int).toNat * 6 + 4, none⟩ (.int .i8 t265)).setCell ⟨go10, (x4_1 : Int).toNat * 6 + 5, none⟩ (.int .i8 t266))) ?hg ?ho ?hn ?hr ?_; (case ho => rfl); (case hg => rfl); (case hn => rfl); (case hr => first | (go_simp; done) | (go_simp; rfl)); intro w13 hw; have hg : w11.grownBy w13 (some go10) := (by rw [hw]; exact HP12.2); have hp_ : Kd.R k48 48 w13 w.heap.size (fun _ => True) (.slice (some ⟨go10, 0, none⟩) x3_1.length co10) y267 := (by rw [hw, Ny267.out]; exact HP12.1); clear HP12; replace HO_3 := am (hp_); replace HB := am ((by rw [hw]; exact below_set (below_set (below_set (below_set (below_set (below_set (HB.out) GB10.out) GB10.out) GB10.out) GB10.out) GB10.out) GB10.out : Below w.heap.size w w13)); clear hg hw hp_))
        go_roundg k1
        case measure => have := HK1.out; omega
        case rel => exact ⟨(y267), (wrap64 (x4_1 + 1)), vv, H', ⟨by have := HK1.out; omega⟩, ⟨kr HO_3⟩, ⟨be HB⟩⟩
       ·rw [if_neg c9] at H
        exact absurd H (by simp)
      ·rw [if_neg c7] at H
       exact absurd H (by simp)
     ·rw [if_neg c6] at H
      have c6b0 : decide (x4_1 < (l0.length : Int)) = false := decide_eq_false c6
      clear c6
      obtain rfl := Option.some.inj H
      go_wp2
      go_ret
      exact ⟨_, by first | rfl | (simp [errW_none, errW_some] <;> rfl) | (simp [*, errW_none, errW_some] <;> rfl), by (with_reducible repeat (first | apply Kd.R_alloc | apply Kd.R_drewN | apply Kd.R_drew)); exact HO_3.out, be HB⟩
  ·rw [if_neg c3] at H
   exact absurd H (by simp)
 ·rw [if_neg c2] at H
  exact absurd H (by simp)

/-! ### impl_ValidBay: function 28 -/
def impl_ValidBay.f (a0_0 : Int) (a0_1 : Int) (a0_2 : (Nat → Int)) : Option (Bool) := some (decide (Go.Proofs.Ytigafbmdedjgdaa.BayIn.okBay a0_0 a0_1 a0_2))
theorem impl_ValidBay.calls (a0_0 : Int) (a0_1 : Int) (a0_2 : (Nat → Int)) (r : Bool) (w : World) (h : impl_ValidBay.f a0_0 a0_1 a0_2 = some r) :
  Calls Try.prog 28 #[.agg (csBay a0_0 a0_1 a0_2)] w fun e w' => e = .returned (.bool r) ∧ Below w.heap.size w w' := by
 obtain rfl := Option.some.inj h
 exact Go.Proofs.Ytigafbmdedjgdaa.BayIn.validBay_calls _ _ _ w

/-! ### impl_isPlace: function 46 -/
def impl_isPlace.f (a0_0 : Int) (a0_1 : Int) (a0_2 : (Nat → Int)) (a1_0 : Int) (a1_1 : Int) : Option (Bool) := if a1_0 ≥ 0 then (if a1_0 < a0_0 then (if a1_1 ≥ 0 then (some (decide (a1_1 < a0_1))) else (some false)) else (some false)) else (some false)
set_option maxHeartbeats 8000000 in
set_option maxRecDepth 100000 in
theorem impl_isPlace.calls (a0_0 : Int) (a0_1 : Int) (a0_2 : (Nat → Int)) (a1_0 : Int) (a1_1 : Int) (r : Bool) (w : World) (h : impl_isPlace.f a0_0 a0_1 a0_2 a1_0 a1_1 = some r) :
  Calls Try.prog 46 #[.agg (csBay a0_0 a0_1 a0_2), .agg #[.int .i8 a1_0, .int .i8 a1_1]] w fun e w' => e = .returned (.bool r) ∧ Below w.heap.size w w' := by
 have hu32 := Try.underlying32
 have hu46 := Try.underlying46
 have HB := am (Below.refl w.heap.size w)
 have H : (if a1_0 ≥ 0 then (if a1_0 < a0_0 then (if a1_1 ≥ 0 then (some (decide (a1_1 < a0_1))) else (some false)) else (some false)) else (some false)) = some r := h
 clear h
 by_cases c3 : a1_0 ≥ 0
 ·rw [if_pos c3] at H
  have c3b0 : decide (0 ≤ a1_0) = true := decide_eq_true c3
  have c3b1 : 0 ≤ a1_0 := c3
  clear c3
  by_cases c4 : a1_0 < a0_0
  ·rw [if_pos c4] at H
   have c4b0 : decide (a1_0 < a0_0) = true := decide_eq_true c4
   clear c4
   by_cases c5 : a1_1 ≥ 0
   ·rw [if_pos c5] at H
    have c5b0 : decide (0 ≤ a1_1) = true := decide_eq_true c5
    have c5b1 : 0 ≤ a1_1 := c5
    clear c5
    obtain rfl := Option.some.inj H
    go_enter Try.func46, Try.ntmps46
    go_wp2_with (first | ((with_reducible refine gate_dst (N := 2) rfl ?_); refine bxe (N := 2) (cs := (csBay a0_0 a0_1 a0_2)) (t := 32) ?_; intro gb268 hg w6 hbox hb; have BK268 := am (hbox); have GW268 := am (gN hg (below_size (be HB))); have GE268 := am (gN hg (below_size (be HB))); replace HB := am (below_step (be HB) hb); clear hb hbox hg) | ((with_reducible refine gate_dst (N := 3) rfl ?_); refine bxe (N := 3) (cs := #[.int .i8 a1_0, .int .i8 a1_1]) (t := 46) ?_; intro gb269 hg w7 hbox hb; have BK269 := am (hbox); have GW269 := am (gN hg (below_size (be HB))); have GE269 := am (gN hg (below_size (be HB))); have NB268_269 := nL BK268 hg; have NB269_268 := nR BK268 hg; replace BK268 := bB BK268 hb; replace HB := am (below_step (be HB) hb); clear hb hbox hg; have hnb8 := NB269_268.out; have hnc8 := NB268_269.out; obtain ⟨hcz9_0, hcz9_1, hfz9_0, hfz9_1⟩ := bx2 BK269; obtain ⟨hcz10_0, hcz10_1, hwz10, haz10, hyz10, hvz10, hfz10_0, hfz10_1, hfz10_2⟩ := bb32 BK268))
    go_ret
    exact ⟨by first | rfl | (simp [errW_none, errW_some] <;> rfl) | (simp [*, errW_none, errW_some] <;> rfl), be HB⟩
   ·rw [if_neg c5] at H
    have c5b0 : decide (0 ≤ a1_1) = false := decide_eq_false c5
    clear c5
    obtain rfl := Option.some.inj H
    go_enter Try.func46, Try.ntmps46
    go_wp2_with (first | ((with_reducible refine gate_dst (N := 2) rfl ?_); refine bxe (N := 2) (cs := (csBay a0_0 a0_1 a0_2)) (t := 32) ?_; intro gb268 hg w11 hbox hb; have BK268 := am (hbox); have GW268 := am (gN hg (below_size (be HB))); have GE268 := am (gN hg (below_size (be HB))); replace HB := am (below_step (be HB) hb); clear hb hbox hg) | ((with_reducible refine gate_dst (N := 3) rfl ?_); refine bxe (N := 3) (cs := #[.int .i8 a1_0, .int .i8 a1_1]) (t := 46) ?_; intro gb269 hg w12 hbox hb; have BK269 := am (hbox); have GW269 := am (gN hg (below_size (be HB))); have GE269 := am (gN hg (below_size (be HB))); have NB268_269 := nL BK268 hg; have NB269_268 := nR BK268 hg; replace BK268 := bB BK268 hb; replace HB := am (below_step (be HB) hb); clear hb hbox hg; have hnb13 := NB269_268.out; have hnc13 := NB268_269.out; obtain ⟨hcz14_0, hcz14_1, hfz14_0, hfz14_1⟩ := bx2 BK269; obtain ⟨hcz15_0, hcz15_1, hwz15, haz15, hyz15, hvz15, hfz15_0, hfz15_1, hfz15_2⟩ := bb32 BK268))
    go_ret
    exact ⟨by first | rfl | (simp [errW_none, errW_some] <;> rfl) | (simp [*, errW_none, errW_some] <;> rfl), be HB⟩
  ·rw [if_neg c4] at H
   have c4b0 : decide (a1_0 < a0_0) = false := decide_eq_false c4
   clear c4
   obtain rfl := Option.some.inj H
   go_enter Try.func46, Try.ntmps46
   go_wp2_with (first | ((with_reducible refine gate_dst (N := 2) rfl ?_); refine bxe (N := 2) (cs := (csBay a0_0 a0_1 a0_2)) (t := 32) ?_; intro gb268 hg w16 hbox hb; have BK268 := am (hbox); have GW268 := am (gN hg (below_size (be HB))); have GE268 := am (gN hg (below_size (be HB))); replace HB := am (below_step (be HB) hb); clear hb hbox hg) | ((with_reducible refine gate_dst (N := 3) rfl ?_); refine bxe (N := 3) (cs := #[.int .i8 a1_0, .int .i8 a1_1]) (t := 46) ?_; intro gb269 hg w17 hbox hb; have BK269 := am (hbox); have GW269 := am (gN hg (below_size (be HB))); have GE269 := am (gN hg (below_size (be HB))); have NB268_269 := nL BK268 hg; have NB269_268 := nR BK268 hg; replace BK268 := bB BK268 hb; replace HB := am (below_step (be HB) hb); clear hb hbox hg; have hnb18 := NB269_268.out; have hnc18 := NB268_269.out; obtain ⟨hcz19_0, hcz19_1, hfz19_0, hfz19_1⟩ := bx2 BK269; obtain ⟨hcz20_0, hcz20_1, hwz20, haz20, hyz20, hvz20, hfz20_0, hfz20_1, hfz20_2⟩ := bb32 BK268))
   go_ret
   exact ⟨by first | rfl | (simp [errW_none, errW_some] <;> rfl) | (simp [*, errW_none, errW_some] <;> rfl), be HB⟩
 ·rw [if_neg c3] at H
  have c3b0 : decide (0 ≤ a1_0) = false := decide_eq_false c3
  clear c3
  obtain rfl := Option.some.inj H
  go_enter Try.func46, Try.ntmps46
  go_wp2_with (first | ((with_reducible refine gate_dst (N := 2) rfl ?_); refine bxe (N := 2) (cs := (csBay a0_0 a0_1 a0_2)) (t := 32) ?_; intro gb268 hg w21 hbox hb; have BK268 := am (hbox); have GW268 := am (gN hg (below_size (be HB))); have GE268 := am (gN hg (below_size (be HB))); replace HB := am (below_step (be HB) hb); clear hb hbox hg) | ((with_reducible refine gate_dst (N := 3) rfl ?_); refine bxe (N := 3) (cs := #[.int .i8 a1_0, .int .i8 a1_1]) (t := 46) ?_; intro gb269 hg w22 hbox hb; have BK269 := am (hbox); have GW269 := am (gN hg (below_size (be HB))); have GE269 := am (gN hg (below_size (be HB))); have NB268_269 := nL BK268 hg; have NB269_268 := nR BK268 hg; replace BK268 := bB BK268 hb; replace HB := am (below_step (be HB) hb); clear hb hbox hg; have hnb23 := NB269_268.out; have hnc23 := NB268_269.out; obtain ⟨hcz24_0, hcz24_1, hfz24_0, hfz24_1⟩ := bx2 BK269))
  go_ret
  exact ⟨by first | rfl | (simp [errW_none, errW_some] <;> rfl) | (simp [*, errW_none, errW_some] <;> rfl), be HB⟩

/-! ### impl_depth: function 47 -/
def impl_depth.f (a0_0 : Int) (a0_1 : Int) (a0_2 : (Nat → Int)) (a1_0 : Int) (a1_1 : Int) : Option (Int) := if 0 ≤ a1_1 then (if a1_1 < 16 then (if 0 ≤ a1_0 then (if a1_0 < 16 then (some (wrap64 (a0_2 (16 * (a1_1 : Int).toNat + (a1_0 : Int).toNat)))) else (none)) else (none)) else (none)) else (none)
set_option maxHeartbeats 8000000 in
set_option maxRecDepth 100000 in
theorem impl_depth.calls (a0_0 : Int) (a0_1 : Int) (a0_2 : (Nat → Int)) (a1_0 : Int) (a1_1 : Int) (r : Int) (w : World) (h : impl_depth.f a0_0 a0_1 a0_2 a1_0 a1_1 = some r) :
  Calls Try.prog 47 #[.agg (csBay a0_0 a0_1 a0_2), .agg #[.int .i8 a1_0, .int .i8 a1_1]] w fun e w' => e = .returned (.int .i64 r) ∧ Below w.heap.size w w' := by
 have hu32 := Try.underlying32
 have hu46 := Try.underlying46
 have HB := am (Below.refl w.heap.size w)
 have H : (if 0 ≤ a1_1 then (if a1_1 < 16 then (if 0 ≤ a1_0 then (if a1_0 < 16 then (some (wrap64 (a0_2 (16 * (a1_1 : Int).toNat + (a1_0 : Int).toNat)))) else (none)) else (none)) else (none)) else (none)) = some r := h
 clear h
 by_cases c3 : 0 ≤ a1_1
 ·rw [if_pos c3] at H
  have c3b0 : decide (0 ≤ a1_1) = true := decide_eq_true c3
  have c3b1 : 0 ≤ a1_1 := c3
  clear c3
  by_cases c4 : a1_1 < 16
  ·rw [if_pos c4] at H
   have c4b0 : decide (a1_1 < 16) = true := decide_eq_true c4
   have c4b1 : a1_1 < 16 := c4
   clear c4
   by_cases c5 : 0 ≤ a1_0
   ·rw [if_pos c5] at H
    have c5b0 : decide (0 ≤ a1_0) = true := decide_eq_true c5
    have c5b1 : 0 ≤ a1_0 := c5
    clear c5
    by_cases c6 : a1_0 < 16
    ·rw [if_pos c6] at H
     have c6b0 : decide (a1_0 < 16) = true := decide_eq_true c6
     have c6b1 : a1_0 < 16 := c6
     clear c6
     obtain rfl := Option.some.inj H
     go_enter Try.func47, Try.ntmps47
     go_wp2_with (first | ((with_reducible refine gate_dst (N := 2) rfl ?_); refine bxe (N := 2) (cs := (csBay a0_0 a0_1 a0_2)) (t := 32) ?_; intro gb270 hg w7 hbox hb; have BK270 := am (hbox); have GW270 := am (gN hg (below_size (be HB))); have GE270 := am (gN hg (below_size (be HB))); replace HB := am (below_step (be HB) hb); clear hb hbox hg) | ((with_reducible refine gate_dst (N := 3) rfl ?_); refine bxe (N := 3) (cs := #[.int .i8 a1_0, .int .i8 a1_1]) (t := 46) ?_; intro gb271 hg w8 hbox hb; have BK271 := am (hbox); have GW271 := am (gN hg (below_size (be HB))); have GE271 := am (gN hg (below_size (be HB))); have NB270_271 := nL BK270 hg; have NB271_270 := nR BK270 hg; replace BK270 := bB BK270 hb; replace HB := am (below_step (be HB) hb); clear hb hbox hg; have hnb9 := NB271_270.out; have hnc9 := NB270_271.out; obtain ⟨hcz10_0, hcz10_1, hfz10_0, hfz10_1⟩ := bx2 BK271; obtain ⟨hcz11_0, hcz11_1, hwz11, haz11, hyz11, hvz11, hfz11_0, hfz11_1, hfz11_2⟩ := bb32 BK270))
     repeat (go_quiet (first | ((with_reducible refine gate_dst (N := 2) rfl ?_); refine bxe (N := 2) (cs := (csBay a0_0 a0_1 a0_2)) (t := 32) ?_; intro gb270 hg w7 hbox hb; have BK270 := am (hbox); have GW270 := am (gN hg (below_size (be HB))); have GE270 := am (gN hg (below_size (be HB))); replace HB := am (below_step (be HB) hb); clear hb hbox hg) | ((with_reducible refine gate_dst (N := 3) rfl ?_); refine bxe (N := 3) (cs := #[.int .i8 a1_0, .int .i8 a1_1]) (t := 46) ?_; intro gb271 hg w8 hbox hb; have BK271 := am (hbox); have GW271 := am (gN hg (below_size (be HB))); have GE271 := am (gN hg (below_size (be HB))); have NB270_271 := nL BK270 hg; have NB271_270 := nR BK270 hg; replace BK270 := bB BK270 hb; replace HB := am (below_step (be HB) hb); clear hb hbox hg; have hnb9 := NB271_270.out; have hnc9 := NB270_271.out; obtain ⟨hcz10_0, hcz10_1, hfz10_0, hfz10_1⟩ := bx2 BK271; obtain ⟨hcz11_0, hcz11_1, hwz11, haz11, hyz11, hvz11, hfz11_0, hfz11_1, hfz11_2⟩ := bb32 BK270)); try go_wp2_with (first | ((with_reducible refine gate_dst (N := 2) rfl ?_); refine bxe (N := 2) (cs := (csBay a0_0 a0_1 a0_2)) (t := 32) ?_; intro gb270 hg w7 hbox hb; have BK270 := am (hbox); have GW270 := am (gN hg (below_size (be HB))); have GE270 := am (gN hg (below_size (be HB))); replace HB := am (below_step (be HB) hb); clear hb hbox hg) | ((with_reducible refine gate_dst (N := 3) rfl ?_); refine bxe (N := 3) (cs := #[.int .i8 a1_0, .int .i8 a1_1]) (t := 46) ?_; intro gb271 hg w8 hbox hb; have BK271 := am (hbox); have GW271 := am (gN hg (below_size (be HB))); have GE271 := am (gN hg (below_size (be HB))); have NB270_271 := nL BK270 hg; have NB271_270 := nR BK270 hg; replace BK270 := bB BK270 hb; replace HB := am (below_step (be HB) hb); clear hb hbox hg; have hnb9 := NB271_270.out; have hnc9 := NB270_271.out; obtain ⟨hcz10_0, hcz10_1, hfz10_0, hfz10_1⟩ := bx2 BK271; obtain ⟨hcz11_0, hcz11_1, hwz11, haz11, hyz11, hvz11, hfz11_0, hfz11_1, hfz11_2⟩ := bb32 BK270)))
     go_ret
     exact ⟨by first | rfl | (simp [errW_none, errW_some] <;> rfl) | (simp [*, errW_none, errW_some] <;> rfl), be HB⟩
    ·rw [if_neg c6] at H
     exact absurd H (by simp)
   ·rw [if_neg c5] at H
    exact absurd H (by simp)
  ·rw [if_neg c4] at H
   exact absurd H (by simp)
 ·rw [if_neg c3] at H
  exact absurd H (by simp)

/-! ### impl_isWater: function 38 -/
def impl_isWater.f (a0_0 : Int) (a0_1 : Int) (a0_2 : (Nat → Int)) (a1_0 : Int) (a1_1 : Int) : Option (Bool) := (impl_isPlace.f a0_0 a0_1 a0_2 a1_0 a1_1).bind fun t274 => (if t274 = true then ((impl_depth.f a0_0 a0_1 a0_2 a1_0 a1_1).bind fun t275 => (some (decide (t275 > 0)))) else (some false))
set_option maxHeartbeats 8000000 in
set_option maxRecDepth 100000 in
theorem impl_isWater.calls (a0_0 : Int) (a0_1 : Int) (a0_2 : (Nat → Int)) (a1_0 : Int) (a1_1 : Int) (r : Bool) (w : World) (h : impl_isWater.f a0_0 a0_1 a0_2 a1_0 a1_1 = some r) :
  Calls Try.prog 38 #[.agg (csBay a0_0 a0_1 a0_2), .agg #[.int .i8 a1_0, .int .i8 a1_1]] w fun e w' => e = .returned (.bool r) ∧ Below w.heap.size w w' := by
 have hu32 := Try.underlying32
 have hu46 := Try.underlying46
 have HB := am (Below.refl w.heap.size w)
 have H : ((impl_isPlace.f a0_0 a0_1 a0_2 a1_0 a1_1).bind fun t274 => (if t274 = true then ((impl_depth.f a0_0 a0_1 a0_2 a1_0 a1_1).bind fun t275 => (some (decide (t275 > 0)))) else (some false))) = some r := h
 clear h
 replace H := Option.bind_eq_some_iff.mp H
 obtain ⟨t274, A30, H⟩ := H
 try dsimp only at H
 have A3 := am A30
 clear A30
 by_cases c4 : t274 = true
 ·subst c4
  rw [if_pos rfl] at H
  replace H := Option.bind_eq_some_iff.mp H
  obtain ⟨t275, A50, H⟩ := H
  try dsimp only at H
  have A5 := am A50
  clear A50
  obtain rfl := Option.some.inj H
  go_enter Try.func38, Try.ntmps38
  go_wp2_with (first | ((with_reducible refine gate_dst (N := 2) rfl ?_); refine bxe (N := 2) (cs := (csBay a0_0 a0_1 a0_2)) (t := 32) ?_; intro gb272 hg w6 hbox hb; have BK272 := am (hbox); have GW272 := am (gN hg (below_size (be HB))); have GE272 := am (gN hg (below_size (be HB))); replace HB := am (below_step (be HB) hb); clear hb hbox hg) | ((with_reducible refine gate_dst (N := 3) rfl ?_); refine bxe (N := 3) (cs := #[.int .i8 a1_0, .int .i8 a1_1]) (t := 46) ?_; intro gb273 hg w7 hbox hb; have BK273 := am (hbox); have GW273 := am (gN hg (below_size (be HB))); have GE273 := am (gN hg (below_size (be HB))); have NB272_273 := nL BK272 hg; have NB273_272 := nR BK272 hg; replace BK272 := bB BK272 hb; replace HB := am (below_step (be HB) hb); clear hb hbox hg; have hnb8 := NB272_273.out; have hnc8 := NB273_272.out; obtain ⟨hcz9_0, hcz9_1, hwz9, haz9, hyz9, hvz9, hfz9_0, hfz9_1, hfz9_2⟩ := bb32 BK272; obtain ⟨hcz10_0, hcz10_1, hfz10_0, hfz10_1⟩ := bx2 BK273) | ((with_reducible refine gate_callee (f := 46) rfl ?_); refine gL (some 7) Try.func46 #[.agg (csBay a0_0 a0_1 a0_2), .agg #[.int .i8 a1_0, .int .i8 a1_1]] ?_; (with_reducible refine (impl_isPlace.calls a0_0 a0_1 a0_2 a1_0 a1_1 true _ A3.out).mono ?_); rintro e w11 ⟨rfl, hb⟩; refine ⟨_, rfl, ?_⟩; replace BK272 := bB BK272 hb; replace BK273 := bB BK273 hb; replace HB := am (below_step (be HB) hb); (try clear hb); (try clear hb2); (try clear hk); (try clear hi); obtain ⟨hcz12_0, hcz12_1, hwz12, haz12, hyz12, hvz12, hfz12_0, hfz12_1, hfz12_2⟩ := bb32 BK272; obtain ⟨hcz13_0, hcz13_1, hfz13_0, hfz13_1⟩ := bx2 BK273) | (go_at_call 47; (with_reducible refine (impl_depth.calls a0_0 a0_1 a0_2 a1_0 a1_1 t275 _ A5.out).mono ?_); rintro e w14 ⟨rfl, hb⟩; replace BK272 := bB BK272 hb; replace BK273 := bB BK273 hb; replace HB := am (below_step (be HB) hb); (try clear hb); (try clear hb2); (try clear hk); (try clear hi)))
  go_ret
  exact ⟨by first | rfl | (simp [errW_none, errW_some] <;> rfl) | (simp [*, errW_none, errW_some] <;> rfl), be HB⟩
 ·replace c4 := Bool.eq_false_iff.mpr c4
  subst c4
  have H1 : (some false) = some r := by rw [if_neg (show ¬ (false = true) by decide)] at H; exact H
  clear H
  have H := H1
  clear H1
  obtain rfl := Option.some.inj H
  go_enter Try.func38, Try.ntmps38
  go_wp2_with (first | ((with_reducible refine gate_dst (N := 2) rfl ?_); refine bxe (N := 2) (cs := (csBay a0_0 a0_1 a0_2)) (t := 32) ?_; intro gb272 hg w15 hbox hb; have BK272 := am (hbox); have GW272 := am (gN hg (below_size (be HB))); have GE272 := am (gN hg (below_size (be HB))); replace HB := am (below_step (be HB) hb); clear hb hbox hg) | ((with_reducible refine gate_dst (N := 3) rfl ?_); refine bxe (N := 3) (cs := #[.int .i8 a1_0, .int .i8 a1_1]) (t := 46) ?_; intro gb273 hg w16 hbox hb; have BK273 := am (hbox); have GW273 := am (gN hg (below_size (be HB))); have GE273 := am (gN hg (below_size (be HB))); have NB272_273 := nL BK272 hg; have NB273_272 := nR BK272 hg; replace BK272 := bB BK272 hb; replace HB := am (below_step (be HB) hb); clear hb hbox hg; have hnb17 := NB272_273.out; have hnc17 := NB273_272.out; obtain ⟨hcz18_0, hcz18_1, hwz18, haz18, hyz18, hvz18, hfz18_0, hfz18_1, hfz18_2⟩ := bb32 BK272; obtain ⟨hcz19_0, hcz19_1, hfz19_0, hfz19_1⟩ := bx2 BK273) | ((with_reducible refine gate_callee (f := 46) rfl ?_); refine gL (some 7) Try.func46 #[.agg (csBay a0_0 a0_1 a0_2), .agg #[.int .i8 a1_0, .int .i8 a1_1]] ?_; (with_reducible refine (impl_isPlace.calls a0_0 a0_1 a0_2 a1_0 a1_1 false _ A3.out).mono ?_); rintro e w20 ⟨rfl, hb⟩; refine ⟨_, rfl, ?_⟩; replace BK272 := bB BK272 hb; replace BK273 := bB BK273 hb; replace HB := am (below_step (be HB) hb); (try clear hb); (try clear hb2); (try clear hk); (try clear hi)))
  go_ret
  exact ⟨by first | rfl | (simp [errW_none, errW_some] <;> rfl) | (simp [*, errW_none, errW_some] <;> rfl), be HB⟩

/-! ### impl_isBoat: function 29 -/
def impl_isBoat.f (a0_0 : Int) (a0_1 : Int) (a0_2 : (Nat → Int)) (a1_0 : Int) (a1_1 : Int) (a1_2 : Int) (a1_3 : Int) (a1_4 : Int) (a1_5 : Int) : Option (Bool) := (impl_isWater.f a0_0 a0_1 a0_2 a1_0 a1_1).bind fun t278 => (if t278 = true then (if a1_2 ≥ 1 then (if a1_2 ≤ 60 then (if a1_3 ≥ 0 then (if a1_3 ≤ 5 then (if a1_4 ≥ 1 then (if a1_4 ≤ 30 then (if a1_5 ≥ 0 then (some (decide (a1_5 ≤ 9))) else (some false)) else (some false)) else (some false)) else (some false)) else (some false)) else (some false)) else (some false)) else (some false))
set_option maxHeartbeats 8000000 in
set_option maxRecDepth 100000 in
theorem impl_isBoat.calls (a0_0 : Int) (a0_1 : Int) (a0_2 : (Nat → Int)) (a1_0 : Int) (a1_1 : Int) (a1_2 : Int) (a1_3 : Int) (a1_4 : Int) (a1_5 : Int) (r : Bool) (w : World) (h : impl_isBoat.f a0_0 a0_1 a0_2 a1_0 a1_1 a1_2 a1_3 a1_4 a1_5 = some r) :
  Calls Try.prog 29 #[.agg (csBay a0_0 a0_1 a0_2), .agg #[.int .i8 a1_0, .int .i8 a1_1, .int .i8 a1_2, .int .i8 a1_3, .int .i8 a1_4, .int .i8 a1_5]] w fun e w' => e = .returned (.bool r) ∧ Below w.heap.size w w' := by
 have hu32 := Try.underlying32
 have hu48 := Try.underlying48
 have hu46 := Try.underlying46
 have HB := am (Below.refl w.heap.size w)
 have H : ((impl_isWater.f a0_0 a0_1 a0_2 a1_0 a1_1).bind fun t278 => (if t278 = true then (if a1_2 ≥ 1 then (if a1_2 ≤ 60 then (if a1_3 ≥ 0 then (if a1_3 ≤ 5 then (if a1_4 ≥ 1 then (if a1_4 ≤ 30 then (if a1_5 ≥ 0 then (some (decide (a1_5 ≤ 9))) else (some false)) else (some false)) else (some false)) else (some false)) else (some false)) else (some false)) else (some false)) else (some false))) = some r := h
 clear h
 replace H := Option.bind_eq_some_iff.mp H
 obtain ⟨t278, A30, H⟩ := H
 try dsimp only at H
 have A3 := am A30
 clear A30
 by_cases c4 : t278 = true
 ·subst c4
  rw [if_pos rfl] at H
  by_cases c5 : a1_2 ≥ 1
  ·rw [if_pos c5] at H
   have c5b0 : decide (1 ≤ a1_2) = true := decide_eq_true c5
   clear c5
   by_cases c6 : a1_2 ≤ 60
   ·rw [if_pos c6] at H
    have c6b0 : decide (a1_2 ≤ 60) = true := decide_eq_true c6
    clear c6
    by_cases c7 : a1_3 ≥ 0
    ·rw [if_pos c7] at H
     have c7b0 : decide (0 ≤ a1_3) = true := decide_eq_true c7
     have c7b1 : 0 ≤ a1_3 := c7
     clear c7
     by_cases c8 : a1_3 ≤ 5
     ·rw [if_pos c8] at H
      have c8b0 : decide (a1_3 ≤ 5) = true := decide_eq_true c8
      clear c8
      by_cases c9 : a1_4 ≥ 1
      ·rw [if_pos c9] at H
       have c9b0 : decide (1 ≤ a1_4) = true := decide_eq_true c9
       clear c9
       by_cases c10 : a1_4 ≤ 30
       ·rw [if_pos c10] at H
        have c10b0 : decide (a1_4 ≤ 30) = true := decide_eq_true c10
        clear c10
        by_cases c11 : a1_5 ≥ 0
        ·rw [if_pos c11] at H
         have c11b0 : decide (0 ≤ a1_5) = true := decide_eq_true c11
         have c11b1 : 0 ≤ a1_5 := c11
         clear c11
         obtain rfl := Option.some.inj H
         go_enter Try.func29, Try.ntmps29
         go_wp2_with (first | ((with_reducible refine gate_dst (N := 2) rfl ?_); refine bxe (N := 2) (cs := (csBay a0_0 a0_1 a0_2)) (t := 32) ?_; intro gb276 hg w12 hbox hb; have BK276 := am (hbox); have GW276 := am (gN hg (below_size (be HB))); have GE276 := am (gN hg (below_size (be HB))); replace HB := am (below_step (be HB) hb); clear hb hbox hg) | ((with_reducible refine gate_dst (N := 3) rfl ?_); refine bxe (N := 3) (cs := #[.int .i8 a1_0, .int .i8 a1_1, .int .i8 a1_2, .int .i8 a1_3, .int .i8 a1_4, .int .i8 a1_5]) (t := 48) ?_; intro gb277 hg w13 hbox hb; have BK277 := am (hbox); have GW277 := am (gN hg (below_size (be HB))); have GE277 := am (gN hg (below_size (be HB))); have NB276_277 := nL BK276 hg; have NB277_276 := nR BK276 hg; replace BK276 := bB BK276 hb; replace HB := am (below_step (be HB) hb); clear hb hbox hg; have hnb14 := NB276_277.out; have hnc14 := NB277_276.out; obtain ⟨hcz15_0, hcz15_1, hwz15, haz15, hyz15, hvz15, hfz15_0, hfz15_1, hfz15_2⟩ := bb32 BK276; obtain ⟨hcz16_0, hcz16_1, hcz16_2, hcz16_3, hcz16_4, hcz16_5, hfz16_0, hfz16_1, hfz16_2, hfz16_3, hfz16_4, hfz16_5⟩ := bx6 BK277) | ((with_reducible refine gate_callee (f := 38) rfl ?_); refine gL (some 8) Try.func38 #[.agg (csBay a0_0 a0_1 a0_2), .agg #[.int .i8 a1_0, .int .i8 a1_1]] ?_; (with_reducible refine (impl_isWater.calls a0_0 a0_1 a0_2 a1_0 a1_1 true _ A3.out).mono ?_); rintro e w17 ⟨rfl, hb⟩; refine ⟨_, rfl, ?_⟩; replace BK276 := bB BK276 hb; replace BK277 := bB BK277 hb; replace HB := am (below_step (be HB) hb); (try clear hb); (try clear hb2); (try clear hk); (try clear hi); obtain ⟨hcz18_0, hcz18_1, hcz18_2, hcz18_3, hcz18_4, hcz18_5, hfz18_0, hfz18_1, hfz18_2, hfz18_3, hfz18_4, hfz18_5⟩ := bx6 BK277))
         go_ret
         exact ⟨by first | rfl | (simp [errW_none, errW_some] <;> rfl) | (simp [*, errW_none, errW_some] <;> rfl), be HB⟩
        ·rw [if_neg c11] at H
         have c11b0 : decide (0 ≤ a1_5) = false := decide_eq_false c11
         clear c11
         obtain rfl := Option.some.inj H
         go_enter Try.func29, Try.ntmps29
         go_wp2_with (first | ((with_reducible refine gate_dst (N := 2) rfl ?_); refine bxe (N := 2) (cs := (csBay a0_0 a0_1 a0_2)) (t := 32) ?_; intro gb276 hg w19 hbox hb; have BK276 := am (hbox); have GW276 := am (gN hg (below_size (be HB))); have GE276 := am (gN hg (below_size (be HB))); replace HB := am (below_step (be HB) hb); clear hb hbox hg) | ((with_reducible refine gate_dst (N := 3) rfl ?_); refine bxe (N := 3) (cs := #[.int .i8 a1_0, .int .i8 a1_1, .int .i8 a1_2, .int .i8 a1_3, .int .i8 a1_4, .int .i8 a1_5]) (t := 48) ?_; intro gb277 hg w20 hbox hb; have BK277 := am (hbox); have GW277 := am (gN hg (below_size (be HB))); have GE277 := am (gN hg (below_size (be HB))); have NB276_277 := nL BK276 hg; have NB277_276 := nR BK276 hg; replace BK276 := bB BK276 hb; replace HB := am (below_step (be HB) hb); clear hb hbox hg; have hnb21 := NB276_277.out; have hnc21 := NB277_276.out; obtain ⟨hcz22_0, hcz22_1, hwz22, haz22, hyz22, hvz22, hfz22_0, hfz22_1, hfz22_2⟩ := bb32 BK276; obtain ⟨hcz23_0, hcz23_1, hcz23_2, hcz23_3, hcz23_4, hcz23_5, hfz23_0, hfz23_1, hfz23_2, hfz23_3, hfz23_4, hfz23_5⟩ := bx6 BK277) | ((with_reducible refine gate_callee (f := 38) rfl ?_); refine gL (some 8) Try.func38 #[.agg (csBay a0_0 a0_1 a0_2), .agg #[.int .i8 a1_0, .int .i8 a1_1]] ?_; (with_reducible refine (impl_isWater.calls a0_0 a0_1 a0_2 a1_0 a1_1 true _ A3.out).mono ?_); rintro e w24 ⟨rfl, hb⟩; refine ⟨_, rfl, ?_⟩; replace BK276 := bB BK276 hb; replace BK277 := bB BK277 hb; replace HB := am (below_step (be HB) hb); (try clear hb); (try clear hb2); (try clear hk); (try clear hi); obtain ⟨hcz25_0, hcz25_1, hcz25_2, hcz25_3, hcz25_4, hcz25_5, hfz25_0, hfz25_1, hfz25_2, hfz25_3, hfz25_4, hfz25_5⟩ := bx6 BK277))
         go_ret
         exact ⟨by first | rfl | (simp [errW_none, errW_some] <;> rfl) | (simp [*, errW_none, errW_some] <;> rfl), be HB⟩
       ·rw [if_neg c10] at H
        have c10b0 : decide (a1_4 ≤ 30) = false := decide_eq_false c10
        clear c10
        obtain rfl := Option.some.inj H
        go_enter Try.func29, Try.ntmps29
        go_wp2_with (first | ((with_reducible refine gate_dst (N := 2) rfl ?_); refine bxe (N := 2) (cs := (csBay a0_0 a0_1 a0_2)) (t := 32) ?_; intro gb276 hg w26 hbox hb; have BK276 := am (hbox); have GW276 := am (gN hg (below_size (be HB))); have GE276 := am (gN hg (below_size (be HB))); replace HB := am (below_step (be HB) hb); clear hb hbox hg) | ((with_reducible refine gate_dst (N := 3) rfl ?_); refine bxe (N := 3) (cs := #[.int .i8 a1_0, .int .i8 a1_1, .int .i8 a1_2, .int .i8 a1_3, .int .i8 a1_4, .int .i8 a1_5]) (t := 48) ?_; intro gb277 hg w27 hbox hb; have BK277 := am (hbox); have GW277 := am (gN hg (below_size (be HB))); have GE277 := am (gN hg (below_size (be HB))); have NB276_277 := nL BK276 hg; have NB277_276 := nR BK276 hg; replace BK276 := bB BK276 hb; replace HB := am (below_step (be HB) hb); clear hb hbox hg; have hnb28 := NB276_277.out; have hnc28 := NB277_276.out; obtain ⟨hcz29_0, hcz29_1, hwz29, haz29, hyz29, hvz29, hfz29_0, hfz29_1, hfz29_2⟩ := bb32 BK276; obtain ⟨hcz30_0, hcz30_1, hcz30_2, hcz30_3, hcz30_4, hcz30_5, hfz30_0, hfz30_1, hfz30_2, hfz30_3, hfz30_4, hfz30_5⟩ := bx6 BK277) | ((with_reducible refine gate_callee (f := 38) rfl ?_); refine gL (some 8) Try.func38 #[.agg (csBay a0_0 a0_1 a0_2), .agg #[.int .i8 a1_0, .int .i8 a1_1]] ?_; (with_reducible refine (impl_isWater.calls a0_0 a0_1 a0_2 a1_0 a1_1 true _ A3.out).mono ?_); rintro e w31 ⟨rfl, hb⟩; refine ⟨_, rfl, ?_⟩; replace BK276 := bB BK276 hb; replace BK277 := bB BK277 hb; replace HB := am (below_step (be HB) hb); (try clear hb); (try clear hb2); (try clear hk); (try clear hi); obtain ⟨hcz32_0, hcz32_1, hcz32_2, hcz32_3, hcz32_4, hcz32_5, hfz32_0, hfz32_1, hfz32_2, hfz32_3, hfz32_4, hfz32_5⟩ := bx6 BK277))
        go_ret
        exact ⟨by first | rfl | (simp [errW_none, errW_some] <;> rfl) | (simp [*, errW_none, errW_some] <;> rfl), be HB⟩
      ·rw [if_neg c9] at H
       have c9b0 : decide (1 ≤ a1_4) = false := decide_eq_false c9
       clear c9
       obtain rfl := Option.some.inj H
       go_enter Try.func29, Try.ntmps29
       go_wp2_with (first | ((with_reducible refine gate_dst (N := 2) rfl ?_); refine bxe (N := 2) (cs := (csBay a0_0 a0_1 a0_2)) (t := 32) ?_; intro gb276 hg w33 hbox hb; have BK276 := am (hbox); have GW276 := am (gN hg (below_size (be HB))); have GE276 := am (gN hg (below_size (be HB))); replace HB := am (below_step (be HB) hb); clear hb hbox hg) | ((with_reducible refine gate_dst (N := 3) rfl ?_); refine bxe (N := 3) (cs := #[.int .i8 a1_0, .int .i8 a1_1, .int .i8 a1_2, .int .i8 a1_3, .int .i8 a1_4, .int .i8 a1_5]) (t := 48) ?_; intro gb277 hg w34 hbox hb; have BK277 := am (hbox); have GW277 := am (gN hg (below_size (be HB))); have GE277 := am (gN hg (below_size (be HB))); have NB276_277 := nL BK276 hg; have NB277_276 := nR BK276 hg; replace BK276 := bB BK276 hb; replace HB := am (below_step (be HB) hb); clear hb hbox hg; have hnb35 := NB276_277.out; have hnc35 := NB277_276.out; obtain ⟨hcz36_0, hcz36_1, hwz36, haz36, hyz36, hvz36, hfz36_0, hfz36_1, hfz36_2⟩ := bb32 BK276; obtain ⟨hcz37_0, hcz37_1, hcz37_2, hcz37_3, hcz37_4, hcz37_5, hfz37_0, hfz37_1, hfz37_2, hfz37_3, hfz37_4, hfz37_5⟩ := bx6 BK277) | ((with_reducible refine gate_callee (f := 38) rfl ?_); refine gL (some 8) Try.func38 #[.agg (csBay a0_0 a0_1 a0_2), .agg #[.int .i8 a1_0, .int .i8 a1_1]] ?_; (with_reducible refine (impl_isWater.calls a0_0 a0_1 a0_2 a1_0 a1_1 true _ A3.out).mono ?_); rintro e w38 ⟨rfl, hb⟩; refine ⟨_, rfl, ?_⟩; replace BK276 := bB BK276 hb; replace BK277 := bB BK277 hb; replace HB := am (below_step (be HB) hb); (try clear hb); (try clear hb2); (try clear hk); (try clear hi); obtain ⟨hcz39_0, hcz39_1, hcz39_2, hcz39_3, hcz39_4, hcz39_5, hfz39_0, hfz39_1, hfz39_2, hfz39_3, hfz39_4, hfz39_5⟩ := bx6 BK277))
       go_ret
       exact ⟨by first | rfl | (simp [errW_none, errW_some] <;> rfl) | (simp [*, errW_none, errW_some] <;> rfl), be HB⟩
     ·rw [if_neg c8] at H
      have c8b0 : decide (a1_3 ≤ 5) = false := decide_eq_false c8
      clear c8
      obtain rfl := Option.some.inj H
      go_enter Try.func29, Try.ntmps29
      go_wp2_with (first | ((with_reducible refine gate_dst (N := 2) rfl ?_); refine bxe (N := 2) (cs := (csBay a0_0 a0_1 a0_2)) (t := 32) ?_; intro gb276 hg w40 hbox hb; have BK276 := am (hbox); have GW276 := am (gN hg (below_size (be HB))); have GE276 := am (gN hg (below_size (be HB))); replace HB := am (below_step (be HB) hb); clear hb hbox hg) | ((with_reducible refine gate_dst (N := 3) rfl ?_); refine bxe (N := 3) (cs := #[.int .i8 a1_0, .int .i8 a1_1, .int .i8 a1_2, .int .i8 a1_3, .int .i8 a1_4, .int .i8 a1_5]) (t := 48) ?_; intro gb277 hg w41 hbox hb; have BK277 := am (hbox); have GW277 := am (gN hg (below_size (be HB))); have GE277 := am (gN hg (below_size (be HB))); have NB276_277 := nL BK276 hg; have NB277_276 := nR BK276 hg; replace BK276 := bB BK276 hb; replace HB := am (below_step (be HB) hb); clear hb hbox hg; have hnb42 := NB276_277.out; have hnc42 := NB277_276.out; obtain ⟨hcz43_0, hcz43_1, hwz43, haz43, hyz43, hvz43, hfz43_0, hfz43_1, hfz43_2⟩ := bb32 BK276; obtain ⟨hcz44_0, hcz44_1, hcz44_2, hcz44_3, hcz44_4, hcz44_5, hfz44_0, hfz44_1, hfz44_2, hfz44_3, hfz44_4, hfz44_5⟩ := bx6 BK277) | ((with_reducible refine gate_callee (f := 38) rfl ?_); refine gL (some 8) Try.func38 #[.agg (csBay a0_0 a0_1 a0_2), .agg #[.int .i8 a1_0, .int .i8 a1_1]] ?_; (with_reducible refine (impl_isWater.calls a0_0 a0_1 a0_2 a1_0 a1_1 true _ A3.out).mono ?_); rintro e w45 ⟨rfl, hb⟩; refine ⟨_, rfl, ?_⟩; replace BK276 := bB BK276 hb; replace BK277 := bB BK277 hb; replace HB := am (below_step (be HB) hb); (try clear hb); (try clear hb2); (try clear hk); (try clear hi); obtain ⟨hcz46_0, hcz46_1, hcz46_2, hcz46_3, hcz46_4, hcz46_5, hfz46_0, hfz46_1, hfz46_2, hfz46_3, hfz46_4, hfz46_5⟩ := bx6 BK277))
      go_ret
      exact ⟨by first | rfl | (simp [errW_none, errW_some] <;> rfl) | (simp [*, errW_none, errW_some] <;> rfl), be HB⟩
    ·rw [if_neg c7] at H
     have c7b0 : decide (0 ≤ a1_3) = false := decide_eq_false c7
     clear c7
     obtain rfl := Option.some.inj H
     go_enter Try.func29, Try.ntmps29
     go_wp2_with (first | ((with_reducible refine gate_dst (N := 2) rfl ?_); refine bxe (N := 2) (cs := (csBay a0_0 a0_1 a0_2)) (t := 32) ?_; intro gb276 hg w47 hbox hb; have BK276 := am (hbox); have GW276 := am (gN hg (below_size (be HB))); have GE276 := am (gN hg (below_size (be HB))); replace HB := am (below_step (be HB) hb); clear hb hbox hg) | ((with_reducible refine gate_dst (N := 3) rfl ?_); refine bxe (N := 3) (cs := #[.int .i8 a1_0, .int .i8 a1_1, .int .i8 a1_2, .int .i8 a1_3, .int .i8 a1_4, .int .i8 a1_5]) (t := 48) ?_; intro gb277 hg w48 hbox hb; have BK277 := am (hbox); have GW277 := am (gN hg (below_size (be HB))); have GE277 := am (gN hg (below_size (be HB))); have NB276_277 := nL BK276 hg; have NB277_276 := nR BK276 hg; replace BK276 := bB BK276 hb; replace HB := am (below_step (be HB) hb); clear hb hbox hg; have hnb49 := NB276_277.out; have hnc49 := NB277_276.out; obtain ⟨hcz50_0, hcz50_1, hwz50, haz50, hyz50, hvz50, hfz50_0, hfz50_1, hfz50_2⟩ := bb32 BK276; obtain ⟨hcz51_0, hcz51_1, hcz51_2, hcz51_3, hcz51_4, hcz51_5, hfz51_0, hfz51_1, hfz51_2, hfz51_3, hfz51_4, hfz51_5⟩ := bx6 BK277) | ((with_reducible refine gate_callee (f := 38) rfl ?_); refine gL (some 8) Try.func38 #[.agg (csBay a0_0 a0_1 a0_2), .agg #[.int .i8 a1_0, .int .i8 a1_1]] ?_; (with_reducible refine (impl_isWater.calls a0_0 a0_1 a0_2 a1_0 a1_1 true _ A3.out).mono ?_); rintro e w52 ⟨rfl, hb⟩; refine ⟨_, rfl, ?_⟩; replace BK276 := bB BK276 hb; replace BK277 := bB BK277 hb; replace HB := am (below_step (be HB) hb); (try clear hb); (try clear hb2); (try clear hk); (try clear hi); obtain ⟨hcz53_0, hcz53_1, hcz53_2, hcz53_3, hcz53_4, hcz53_5, hfz53_0, hfz53_1, hfz53_2, hfz53_3, hfz53_4, hfz53_5⟩ := bx6 BK277))
     go_ret
     exact ⟨by first | rfl | (simp [errW_none, errW_some] <;> rfl) | (simp [*, errW_none, errW_some] <;> rfl), be HB⟩
   ·rw [if_neg c6] at H
    have c6b0 : decide (a1_2 ≤ 60) = false := decide_eq_false c6
    clear c6
    obtain rfl := Option.some.inj H
    go_enter Try.func29, Try.ntmps29
    go_wp2_with (first | ((with_reducible refine gate_dst (N := 2) rfl ?_); refine bxe (N := 2) (cs := (csBay a0_0 a0_1 a0_2)) (t := 32) ?_; intro gb276 hg w54 hbox hb; have BK276 := am (hbox); have GW276 := am (gN hg (below_size (be HB))); have GE276 := am (gN hg (below_size (be HB))); replace HB := am (below_step (be HB) hb); clear hb hbox hg) | ((with_reducible refine gate_dst (N := 3) rfl ?_); refine bxe (N := 3) (cs := #[.int .i8 a1_0, .int .i8 a1_1, .int .i8 a1_2, .int .i8 a1_3, .int .i8 a1_4, .int .i8 a1_5]) (t := 48) ?_; intro gb277 hg w55 hbox hb; have BK277 := am (hbox); have GW277 := am (gN hg (below_size (be HB))); have GE277 := am (gN hg (below_size (be HB))); have NB276_277 := nL BK276 hg; have NB277_276 := nR BK276 hg; replace BK276 := bB BK276 hb; replace HB := am (below_step (be HB) hb); clear hb hbox hg; have hnb56 := NB276_277.out; have hnc56 := NB277_276.out; obtain ⟨hcz57_0, hcz57_1, hwz57, haz57, hyz57, hvz57, hfz57_0, hfz57_1, hfz57_2⟩ := bb32 BK276; obtain ⟨hcz58_0, hcz58_1, hcz58_2, hcz58_3, hcz58_4, hcz58_5, hfz58_0, hfz58_1, hfz58_2, hfz58_3, hfz58_4, hfz58_5⟩ := bx6 BK277) | ((with_reducible refine gate_callee (f := 38) rfl ?_); refine gL (some 8) Try.func38 #[.agg (csBay a0_0 a0_1 a0_2), .agg #[.int .i8 a1_0, .int .i8 a1_1]] ?_; (with_reducible refine (impl_isWater.calls a0_0 a0_1 a0_2 a1_0 a1_1 true _ A3.out).mono ?_); rintro e w59 ⟨rfl, hb⟩; refine ⟨_, rfl, ?_⟩; replace BK276 := bB BK276 hb; replace BK277 := bB BK277 hb; replace HB := am (below_step (be HB) hb); (try clear hb); (try clear hb2); (try clear hk); (try clear hi); obtain ⟨hcz60_0, hcz60_1, hcz60_2, hcz60_3, hcz60_4, hcz60_5, hfz60_0, hfz60_1, hfz60_2, hfz60_3, hfz60_4, hfz60_5⟩ := bx6 BK277))
    go_ret
    exact ⟨by first | rfl | (simp [errW_none, errW_some] <;> rfl) | (simp [*, errW_none, errW_some] <;> rfl), be HB⟩
  ·rw [if_neg c5] at H
   have c5b0 : decide (1 ≤ a1_2) = false := decide_eq_false c5
   clear c5
   obtain rfl := Option.some.inj H
   go_enter Try.func29, Try.ntmps29
   go_wp2_with (first | ((with_reducible refine gate_dst (N := 2) rfl ?_); refine bxe (N := 2) (cs := (csBay a0_0 a0_1 a0_2)) (t := 32) ?_; intro gb276 hg w61 hbox hb; have BK276 := am (hbox); have GW276 := am (gN hg (below_size (be HB))); have GE276 := am (gN hg (below_size (be HB))); replace HB := am (below_step (be HB) hb); clear hb hbox hg) | ((with_reducible refine gate_dst (N := 3) rfl ?_); refine bxe (N := 3) (cs := #[.int .i8 a1_0, .int .i8 a1_1, .int .i8 a1_2, .int .i8 a1_3, .int .i8 a1_4, .int .i8 a1_5]) (t := 48) ?_; intro gb277 hg w62 hbox hb; have BK277 := am (hbox); have GW277 := am (gN hg (below_size (be HB))); have GE277 := am (gN hg (below_size (be HB))); have NB276_277 := nL BK276 hg; have NB277_276 := nR BK276 hg; replace BK276 := bB BK276 hb; replace HB := am (below_step (be HB) hb); clear hb hbox hg; have hnb63 := NB276_277.out; have hnc63 := NB277_276.out; obtain ⟨hcz64_0, hcz64_1, hwz64, haz64, hyz64, hvz64, hfz64_0, hfz64_1, hfz64_2⟩ := bb32 BK276; obtain ⟨hcz65_0, hcz65_1, hcz65_2, hcz65_3, hcz65_4, hcz65_5, hfz65_0, hfz65_1, hfz65_2, hfz65_3, hfz65_4, hfz65_5⟩ := bx6 BK277) | ((with_reducible refine gate_callee (f := 38) rfl ?_); refine gL (some 8) Try.func38 #[.agg (csBay a0_0 a0_1 a0_2), .agg #[.int .i8 a1_0, .int .i8 a1_1]] ?_; (with_reducible refine (impl_isWater.calls a0_0 a0_1 a0_2 a1_0 a1_1 true _ A3.out).mono ?_); rintro e w66 ⟨rfl, hb⟩; refine ⟨_, rfl, ?_⟩; replace BK276 := bB BK276 hb; replace BK277 := bB BK277 hb; replace HB := am (below_step (be HB) hb); (try clear hb); (try clear hb2); (try clear hk); (try clear hi); obtain ⟨hcz67_0, hcz67_1, hcz67_2, hcz67_3, hcz67_4, hcz67_5, hfz67_0, hfz67_1, hfz67_2, hfz67_3, hfz67_4, hfz67_5⟩ := bx6 BK277))
   go_ret
   exact ⟨by first | rfl | (simp [errW_none, errW_some] <;> rfl) | (simp [*, errW_none, errW_some] <;> rfl), be HB⟩
 ·replace c4 := Bool.eq_false_iff.mpr c4
  subst c4
  have H1 : (some false) = some r := by rw [if_neg (show ¬ (false = true) by decide)] at H; exact H
  clear H
  have H := H1
  clear H1
  obtain rfl := Option.some.inj H
  go_enter Try.func29, Try.ntmps29
  go_wp2_with (first | ((with_reducible refine gate_dst (N := 2) rfl ?_); refine bxe (N := 2) (cs := (csBay a0_0 a0_1 a0_2)) (t := 32) ?_; intro gb276 hg w68 hbox hb; have BK276 := am (hbox); have GW276 := am (gN hg (below_size (be HB))); have GE276 := am (gN hg (below_size (be HB))); replace HB := am (below_step (be HB) hb); clear hb hbox hg) | ((with_reducible refine gate_dst (N := 3) rfl ?_); refine bxe (N := 3) (cs := #[.int .i8 a1_0, .int .i8 a1_1, .int .i8 a1_2, .int .i8 a1_3, .int .i8 a1_4, .int .i8 a1_5]) (t := 48) ?_; intro gb277 hg w69 hbox hb; have BK277 := am (hbox); have GW277 := am (gN hg (below_size (be HB))); have GE277 := am (gN hg (below_size (be HB))); have NB276_277 := nL BK276 hg; have NB277_276 := nR BK276 hg; replace BK276 := bB BK276 hb; replace HB := am (below_step (be HB) hb); clear hb hbox hg; have hnb70 := NB276_277.out; have hnc70 := NB277_276.out; obtain ⟨hcz71_0, hcz71_1, hwz71, haz71, hyz71, hvz71, hfz71_0, hfz71_1, hfz71_2⟩ := bb32 BK276; obtain ⟨hcz72_0, hcz72_1, hcz72_2, hcz72_3, hcz72_4, hcz72_5, hfz72_0, hfz72_1, hfz72_2, hfz72_3, hfz72_4, hfz72_5⟩ := bx6 BK277) | ((with_reducible refine gate_callee (f := 38) rfl ?_); refine gL (some 8) Try.func38 #[.agg (csBay a0_0 a0_1 a0_2), .agg #[.int .i8 a1_0, .int .i8 a1_1]] ?_; (with_reducible refine (impl_isWater.calls a0_0 a0_1 a0_2 a1_0 a1_1 false _ A3.out).mono ?_); rintro e w73 ⟨rfl, hb⟩; refine ⟨_, rfl, ?_⟩; replace BK276 := bB BK276 hb; replace BK277 := bB BK277 hb; replace HB := am (below_step (be HB) hb); (try clear hb); (try clear hb2); (try clear hk); (try clear hi)))
  go_ret
  exact ⟨by first | rfl | (simp [errW_none, errW_some] <;> rfl) | (simp [*, errW_none, errW_some] <;> rfl), be HB⟩

/-! ### impl_boatsCode: function 18 -/
def impl_boatsCode.l0 : Nat → List (S48) → List (S48) → Int → Int → Int → Int → (Nat → Int) → Option (Int)
 | 0, _, _, _, _, _, _, _ => none
 | k + 1, x1, x10, x11, x12, x280000, x280001, x280002 => if x12 < x11 then (if 0 ≤ x12 then (if x12 < (x10.length : Int) then ((impl_isBoat.f x280000 x280001 x280002 ((rd_T48 x10 x12).f0.f0) ((rd_T48 x10 x12).f0.f1) ((rd_T48 x10 x12).f1) ((rd_T48 x10 x12).f2) ((rd_T48 x10 x12).f3) ((rd_T48 x10 x12).f4)).bind fun t283 => (if t283 = true then (impl_boatsCode.l0 k x1 x10 x11 (wrap64 (x12 + 1)) x280000 x280001 x280002) else (some 1))) else (none)) else (none)) else (if (x1.length : Int) > 10 then (some 3) else (some 0))
def impl_boatsCode.f (k : Nat) (a0_0 : Int) (a0_1 : Int) (a0_2 : (Nat → Int)) (l1 : List (S48)) : Option (Int) := (impl_ValidBay.f a0_0 a0_1 a0_2).bind fun t280 => (if t280 = true then (impl_boatsCode.l0 k l1 l1 (l1.length : Int) 0 a0_0 a0_1 a0_2) else (some 1))
set_option maxHeartbeats 8000000 in
set_option maxRecDepth 100000 in
theorem impl_boatsCode.calls (k : Nat) (a0_0 : Int) (a0_1 : Int) (a0_2 : (Nat → Int)) (A1 : Option Addr) (c1 : Nat) (l1 : List (S48)) (r : Int) (w : World) (hr1 : Kd.C k48 w A1 l1.length l1) (hc1 : l1.length ≤ c1) (h : impl_boatsCode.f k a0_0 a0_1 a0_2 l1 = some r) :
  Calls Try.prog 18 #[.agg (csBay a0_0 a0_1 a0_2), .slice A1 l1.length c1] w fun e w' => e = .returned (.int .i64 r) ∧ Below w.heap.size w w' := by
 have hu32 := Try.underlying32
 have hu48 := Try.underlying48
 have HR1 := am hr1
 have HC1 := am hc1
 clear hr1 hc1
 have HB := am (Below.refl w.heap.size w)
 have H : ((impl_ValidBay.f a0_0 a0_1 a0_2).bind fun t280 => (if t280 = true then (impl_boatsCode.l0 k l1 l1 (l1.length : Int) 0 a0_0 a0_1 a0_2) else (some 1))) = some r := h
 clear h
 replace H := Option.bind_eq_some_iff.mp H
 obtain ⟨t280, A30, H⟩ := H
 try dsimp only at H
 have A3 := am A30
 clear A30
 by_cases c4 : t280 = true
 ·subst c4
  rw [if_pos rfl] at H
  have H' := am H
  clear H
  go_enter Try.func18, Try.ntmps18
  go_wp2_with (first | ((with_reducible refine gate_dst (N := 2) rfl ?_); refine bxe (N := 2) (cs := (csBay a0_0 a0_1 a0_2)) (t := 32) ?_; intro gb279 hg w5 hbox hb; have BK279 := am (hbox); have GW279 := am (gN hg (below_size (be HB))); have GE279 := am (gN hg (below_size (be HB))); replace HB := am (below_step (be HB) hb); clear hb hbox hg; obtain ⟨hcz6_0, hcz6_1, hwz6, haz6, hyz6, hvz6, hfz6_0, hfz6_1, hfz6_2⟩ := bb32 BK279) | ((with_reducible refine gate_callee (f := 28) rfl ?_); refine gL (some 8) Try.func28 #[.agg (csBay a0_0 a0_1 a0_2)] ?_; (with_reducible refine (impl_ValidBay.calls a0_0 a0_1 a0_2 true _ A3.out).mono ?_); rintro e w7 ⟨rfl, hb⟩; refine ⟨_, rfl, ?_⟩; replace BK279 := bB BK279 hb; replace HB := am (below_step (be HB) hb); (try clear hb); (try clear hb2); (try clear hk); (try clear hi)))
  go_loopg [12] k (fun kq v12 w' => ∃ (x12_1 : Int), v12 = .int .i64 x12_1 ∧ Aside0 (impl_boatsCode.l0 kq l1 l1 (l1.length : Int) x12_1 a0_0 a0_1 a0_2 = some r) ∧ Aside0 (kq ≤ k) ∧ Aside0 (w'.heap[gb279]? = some (.cells (csBay a0_0 a0_1 a0_2) 32 (0, 0))) ∧ Aside0 (Below w.heap.size w w'))
  case atStart => exact ⟨(0), vv, H', ⟨Nat.le_refl _⟩, ⟨kb BK279⟩, ⟨be HB⟩⟩
  case round =>
   clear H'
   try clear c1
   try clear c2
   try clear p2
   try clear c4
   try clear hcz6_0
   try clear hcz6_1
   try clear hfz6_0
   try clear hfz6_1
   try clear hfz6_2
   obtain ⟨x12_1, rfl, HA, HK1, BK279, HB⟩ := hrel
   cases gk with
   | zero => exact absurd HA.out (by simp [impl_boatsCode.l0])
   | succ k1 =>
    have H := HA.out
    clear HA
    simp only [impl_boatsCode.l0] at H
    by_cases c8 : x12_1 < (l1.length : Int)
    ·rw [if_pos c8] at H
     have c8b0 : decide (x12_1 < (l1.length : Int)) = true := decide_eq_true c8
     clear c8
     by_cases c9 : 0 ≤ x12_1
     ·rw [if_pos c9] at H
      have c9b0 : decide (0 ≤ x12_1) = true := decide_eq_true c9
      have c9b1 : 0 ≤ x12_1 := c9
      clear c9
      by_cases c10 : x12_1 < (l1.length : Int)
      ·rw [if_pos c10] at H
       have c10b0 : decide (x12_1 < (l1.length : Int)) = true := decide_eq_true c10
       clear c10
       replace H := Option.bind_eq_some_iff.mp H
       obtain ⟨t283, A110, H⟩ := H
       try dsimp only at H
       have A11 := am A110
       clear A110
       by_cases c12 : t283 = true
       ·subst c12
        rw [if_pos rfl] at H
        have H' := am H
        clear H
        have p281 : 0 ≤ (x12_1 : Int) := of_decide_eq_true (by first | (with_reducible assumption) | assumption)
        have q281 : x12_1 < (l1.length : Int) := of_decide_eq_true (by first | (with_reducible assumption) | assumption)
        obtain ⟨ad281, e281, hx281_0, hx281_1, hx281_2, hx281_3, hx281_4, hx281_5⟩ := at_T48 HR1.out x12_1 p281 q281
        cases e281
        replace hx281_0 := (HB.out.cell (World.block_lt_of_cell? w _ hx281_0)).trans hx281_0
        replace hx281_1 := (HB.out.cell (World.block_lt_of_cell? w _ hx281_1)).trans hx281_1
        replace hx281_2 := (HB.out.cell (World.block_lt_of_cell? w _ hx281_2)).trans hx281_2
        replace hx281_3 := (HB.out.cell (World.block_lt_of_cell? w _ hx281_3)).trans hx281_3
        replace hx281_4 := (HB.out.cell (World.block_lt_of_cell? w _ hx281_4)).trans hx281_4
        replace hx281_5 := (HB.out.cell (World.block_lt_of_cell? w _ hx281_5)).trans hx281_5
        replace p281 := eq_true p281
        replace q281 := eq_true q281
        go_wp2_with (first | ((with_reducible refine gate_dst (N := 6) rfl ?_); refine bxe (N := 6) (cs := #[.int .i8 0, .int .i8 0, .int .i8 0, .int .i8 0, .int .i8 0, .int .i8 0]) (t := 48) ?_; intro gb282 hg w13 hbox hb; have BK282 := am (hbox); have GW282 := am (gN hg (below_size (be HB))); have GE282 := am (gN hg (below_size (be HB))); have NB279_282 := nL BK279 hg; have NB282_279 := nR BK279 hg; replace BK279 := bB BK279 hb; replace HB := am (below_step (be HB) hb); clear hb hbox hg; have hnb14 := NB282_279.out; have hnc14 := NB279_282.out; obtain ⟨hcz15_0, hcz15_1, hcz15_2, hcz15_3, hcz15_4, hcz15_5, hfz15_0, hfz15_1, hfz15_2, hfz15_3, hfz15_4, hfz15_5⟩ := bx6 BK282; obtain ⟨hcz16_0, hcz16_1, hwz16, haz16, hyz16, hvz16, hfz16_0, hfz16_1, hfz16_2⟩ := bb32 BK279) | ((with_reducible refine gate_callee (f := 29) rfl ?_); refine gL (some 18) Try.func29 #[.agg (csBay a0_0 a0_1 a0_2), .agg #[.int .i8 ((rd_T48 l1 x12_1).f0.f0), .int .i8 ((rd_T48 l1 x12_1).f0.f1), .int .i8 ((rd_T48 l1 x12_1).f1), .int .i8 ((rd_T48 l1 x12_1).f2), .int .i8 ((rd_T48 l1 x12_1).f3), .int .i8 ((rd_T48 l1 x12_1).f4)]] ?_; (with_reducible refine (impl_isBoat.calls a0_0 a0_1 a0_2 ((rd_T48 l1 x12_1).f0.f0) ((rd_T48 l1 x12_1).f0.f1) ((rd_T48 l1 x12_1).f1) ((rd_T48 l1 x12_1).f2) ((rd_T48 l1 x12_1).f3) ((rd_T48 l1 x12_1).f4) true _ A11.out).mono ?_); rintro e w17 ⟨rfl, hb⟩; refine ⟨_, rfl, ?_⟩; replace BK279 := am (blk_below (g := gb279) (o := .cells (csBay a0_0 a0_1 a0_2) 32 (0, 0)) (by (with_reducible repeat (first | refine blk_drewN ?_ _ | refine blk_drew ?_ | refine blk_alloc ?_ _)); refine blk_far ?_ NB279_282.out _; (with_reducible repeat (first | refine blk_drewN ?_ _ | refine blk_drew ?_ | refine blk_alloc ?_ _)); refine blk_far ?_ NB279_282.out _; (with_reducible repeat (first | refine blk_drewN ?_ _ | refine blk_drew ?_ | refine blk_alloc ?_ _)); refine blk_far ?_ NB279_282.out _; (with_reducible repeat (first | refine blk_drewN ?_ _ | refine blk_drew ?_ | refine blk_alloc ?_ _)); refine blk_far ?_ NB279_282.out _; (with_reducible repeat (first | refine blk_drewN ?_ _ | refine blk_drew ?_ | refine blk_alloc ?_ _)); refine blk_far ?_ NB279_282.out _; (with_reducible repeat (first | refine blk_drewN ?_ _ | refine blk_drew ?_ | refine blk_alloc ?_ _)); refine blk_far ?_ NB279_282.out _; exact kb BK279) hb); replace BK282 := am (blk_below (g := gb282) (o := .cells #[.int .i8 ((rd_T48 l1 x12_1).f0.f0), .int .i8 ((rd_T48 l1 x12_1).f0.f1), .int .i8 ((rd_T48 l1 x12_1).f1), .int .i8 ((rd_T48 l1 x12_1).f2), .int .i8 ((rd_T48 l1 x12_1).f3), .int .i8 ((rd_T48 l1 x12_1).f4)] 48 (0, 0)) (by (with_reducible repeat (first | refine blk_drewN ?_ _ | refine blk_drew ?_ | refine blk_alloc ?_ _)); refine blk_put (cs := #[.int .i8 ((rd_T48 l1 x12_1).f0.f0), .int .i8 ((rd_T48 l1 x12_1).f0.f1), .int .i8 ((rd_T48 l1 x12_1).f1), .int .i8 ((rd_T48 l1 x12_1).f2), .int .i8 ((rd_T48 l1 x12_1).f3), .int .i8 0]) ?_ 5 _ rfl; (with_reducible repeat (first | refine blk_drewN ?_ _ | refine blk_drew ?_ | refine blk_alloc ?_ _)); refine blk_put (cs := #[.int .i8 ((rd_T48 l1 x12_1).f0.f0), .int .i8 ((rd_T48 l1 x12_1).f0.f1), .int .i8 ((rd_T48 l1 x12_1).f1), .int .i8 ((rd_T48 l1 x12_1).f2), .int .i8 0, .int .i8 0]) ?_ 4 _ rfl; (with_reducible repeat (first | refine blk_drewN ?_ _ | refine blk_drew ?_ | refine blk_alloc ?_ _)); refine blk_put (cs := #[.int .i8 ((rd_T48 l1 x12_1).f0.f0), .int .i8 ((rd_T48 l1 x12_1).f0.f1), .int .i8 ((rd_T48 l1 x12_1).f1), .int .i8 0, .int .i8 0, .int .i8 0]) ?_ 3 _ rfl; (with_reducible repeat (first | refine blk_drewN ?_ _ | refine blk_drew ?_ | refine blk_alloc ?_ _)); refine blk_put (cs := #[.int .i8 ((rd_T48 l1 x12_1).f0.f0), .int .i8 ((rd_T48 l1 x12_1).f0.f1), .int .i8 0, .int .i8 0, .int .i8 0, .int .i8 0]) ?_ 2 _ rfl; (with_reducible repeat (first | refine blk_drewN ?_ _ | refine blk_drew ?_ | refine blk_alloc ?_ _)); refine blk_put (cs := #[.int .i8 ((rd_T48 l1 x12_1).f0.f0), .int .i8 0, .int .i8 0, .int .i8 0, .int .i8 0, .int .i8 0]) ?_ 1 _ rfl; (with_reducible repeat (first | refine blk_drewN ?_ _ | refine blk_drew ?_ | refine blk_alloc ?_ _)); refine blk_put (cs := #[.int .i8 0, .int .i8 0, .int .i8 0, .int .i8 0, .int .i8 0, .int .i8 0]) ?_ 0 _ rfl; exact kb BK282) hb); replace HB := am (below_step (be HB) hb); (try clear hb); (try clear hb2); (try clear hk); (try clear hi)))
        go_roundg k1
        case measure => have := HK1.out; omega
        case rel => exact ⟨(wrap64 (x12_1 + 1)), vv, H', ⟨by have := HK1.out; omega⟩, ⟨kb BK279⟩, ⟨be HB⟩⟩
       ·replace c12 := Bool.eq_false_iff.mpr c12
        subst c12
        have H1 : (some 1) = some r := by rw [if_neg (show ¬ (false = true) by decide)] at H; exact H
        clear H
        have H := H1
        clear H1
        obtain rfl := Option.some.inj H
        have p281 : 0 ≤ (x12_1 : Int) := of_decide_eq_true (by first | (with_reducible assumption) | assumption)
        have q281 : x12_1 < (l1.length : Int) := of_decide_eq_true (by first | (with_reducible assumption) | assumption)
        obtain ⟨ad281, e281, hx281_0, hx281_1, hx281_2, hx281_3, hx281_4, hx281_5⟩ := at_T48 HR1.out x12_1 p281 q281
        cases e281
        replace hx281_0 := (HB.out.cell (World.block_lt_of_cell? w _ hx281_0)).trans hx281_0
        replace hx281_1 := (HB.out.cell (World.block_lt_of_cell? w _ hx281_1)).trans hx281_1
        replace hx281_2 := (HB.out.cell (World.block_lt_of_cell? w _ hx281_2)).trans hx281_2
        replace hx281_3 := (HB.out.cell (World.block_lt_of_cell? w _ hx281_3)).trans hx281_3
        replace hx281_4 := (HB.out.cell (World.block_lt_of_cell? w _ hx281_4)).trans hx281_4
        replace hx281_5 := (HB.out.cell (World.block_lt_of_cell? w _ hx281_5)).trans hx281_5
        replace p281 := eq_true p281
        replace q281 := eq_true q281
        go_wp2_with (first | ((with_reducible refine gate_dst (N := 6) rfl ?_); refine bxe (N := 6) (cs := #[.int .i8 0, .int .i8 0, .int .i8 0, .int .i8 0, .int .i8 0, .int .i8 0]) (t := 48) ?_; intro gb282 hg w18 hbox hb; have BK282 := am (hbox); have GW282 := am (gN hg (below_size (be HB))); have GE282 := am (gN hg (below_size (be HB))); have NB279_282 := nL BK279 hg; have NB282_279 := nR BK279 hg; replace BK279 := bB BK279 hb; replace HB := am (below_step (be HB) hb); clear hb hbox hg; have hnb19 := NB282_279.out; have hnc19 := NB279_282.out; obtain ⟨hcz20_0, hcz20_1, hcz20_2, hcz20_3, hcz20_4, hcz20_5, hfz20_0, hfz20_1, hfz20_2, hfz20_3, hfz20_4, hfz20_5⟩ := bx6 BK282; obtain ⟨hcz21_0, hcz21_1, hwz21, haz21, hyz21, hvz21, hfz21_0, hfz21_1, hfz21_2⟩ := bb32 BK279) | ((with_reducible refine gate_callee (f := 29) rfl ?_); refine gL (some 18) Try.func29 #[.agg (csBay a0_0 a0_1 a0_2), .agg #[.int .i8 ((rd_T48 l1 x12_1).f0.f0), .int .i8 ((rd_T48 l1 x12_1).f0.f1), .int .i8 ((rd_T48 l1 x12_1).f1), .int .i8 ((rd_T48 l1 x12_1).f2), .int .i8 ((rd_T48 l1 x12_1).f3), .int .i8 ((rd_T48 l1 x12_1).f4)]] ?_; (with_reducible refine (impl_isBoat.calls a0_0 a0_1 a0_2 ((rd_T48 l1 x12_1).f0.f0) ((rd_T48 l1 x12_1).f0.f1) ((rd_T48 l1 x12_1).f1) ((rd_T48 l1 x12_1).f2) ((rd_T48 l1 x12_1).f3) ((rd_T48 l1 x12_1).f4) false _ A11.out).mono ?_); rintro e w22 ⟨rfl, hb⟩; refine ⟨_, rfl, ?_⟩; replace BK279 := am (blk_below (g := gb279) (o := .cells (csBay a0_0 a0_1 a0_2) 32 (0, 0)) (by (with_reducible repeat (first | refine blk_drewN ?_ _ | refine blk_drew ?_ | refine blk_alloc ?_ _)); refine blk_far ?_ NB279_282.out _; (with_reducible repeat (first | refine blk_drewN ?_ _ | refine blk_drew ?_ | refine blk_alloc ?_ _)); refine blk_far ?_ NB279_282.out _; (with_reducible repeat (first | refine blk_drewN ?_ _ | refine blk_drew ?_ | refine blk_alloc ?_ _)); refine blk_far ?_ NB279_282.out _; (with_reducible repeat (first | refine blk_drewN ?_ _ | refine blk_drew ?_ | refine blk_alloc ?_ _)); refine blk_far ?_ NB279_282.out _; (with_reducible repeat (first | refine blk_drewN ?_ _ | refine blk_drew ?_ | refine blk_alloc ?_ _)); refine blk_far ?_ NB279_282.out _; (with_reducible repeat (first | refine blk_drewN ?_ _ | refine blk_drew ?_ | refine blk_alloc ?_ _)); refine blk_far ?_ NB279_282.out _; exact kb BK279) hb); replace BK282 := am (blk_below (g := gb282) (o := .cells #[.int .i8 ((rd_T48 l1 x12_1).f0.f0), .int .i8 ((rd_T48 l1 x12_1).f0.f1), .int .i8 ((rd_T48 l1 x12_1).f1), .int .i8 ((rd_T48 l1 x12_1).f2), .int .i8 ((rd_T48 l1 x12_1).f3), .int .i8 ((rd_T48 l1 x12_1).f4)] 48 (0, 0)) (by (with_reducible repeat (first | refine blk_drewN ?_ _ | refine blk_drew ?_ | refine blk_alloc ?_ _)); refine blk_put (cs := #[.int .i8 ((rd_T48 l1 x12_1).f0.f0), .int .i8 ((rd_T48 l1 x12_1).f0.f1), .int .i8 ((rd_T48 l1 x12_1).f1), .int .i8 ((rd_T48 l1 x12_1).f2), .int .i8 ((rd_T48 l1 x12_1).f3), .int .i8 0]) ?_ 5 _ rfl; (with_reducible repeat (first | refine blk_drewN ?_ _ | refine blk_drew ?_ | refine blk_alloc ?_ _)); refine blk_put (cs := #[.int .i8 ((rd_T48 l1 x12_1).f0.f0), .int .i8 ((rd_T48 l1 x12_1).f0.f1), .int .i8 ((rd_T48 l1 x12_1).f1), .int .i8 ((rd_T48 l1 x12_1).f2), .int .i8 0, .int .i8 0]) ?_ 4 _ rfl; (with_reducible repeat (first | refine blk_drewN ?_ _ | refine blk_drew ?_ | refine blk_alloc ?_ _)); refine blk_put (cs := #[.int .i8 ((rd_T48 l1 x12_1).f0.f0), .int .i8 ((rd_T48 l1 x12_1).f0.f1), .int .i8 ((rd_T48 l1 x12_1).f1), .int .i8 0, .int .i8 0, .int .i8 0]) ?_ 3 _ rfl; (with_reducible repeat (first | refine blk_drewN ?_ _ | refine blk_drew ?_ | refine blk_alloc ?_ _)); refine blk_put (cs := #[.int .i8 ((rd_T48 l1 x12_1).f0.f0), .int .i8 ((rd_T48 l1 x12_1).f0.f1), .int .i8 0, .int .i8 0, .int .i8 0, .int .i8 0]) ?_ 2 _ rfl; (with_reducible repeat (first | refine blk_drewN ?_ _ | refine blk_drew ?_ | refine blk_alloc ?_ _)); refine blk_put (cs := #[.int .i8 ((rd_T48 l1 x12_1).f0.f0), .int .i8 0, .int .i8 0, .int .i8 0, .int .i8 0, .int .i8 0]) ?_ 1 _ rfl; (with_reducible repeat (first | refine blk_drewN ?_ _ | refine blk_drew ?_ | refine blk_alloc ?_ _)); refine blk_put (cs := #[.int .i8 0, .int .i8 0, .int .i8 0, .int .i8 0, .int .i8 0, .int .i8 0]) ?_ 0 _ rfl; exact kb BK282) hb); replace HB := am (below_step (be HB) hb); (try clear hb); (try clear hb2); (try clear hk); (try clear hi)))
        go_ret
        exact ⟨by first | rfl | (simp [errW_none, errW_some] <;> rfl) | (simp [*, errW_none, errW_some] <;> rfl), be HB⟩
      ·rw [if_neg c10] at H
       exact absurd H (by simp)
     ·rw [if_neg c9] at H
      exact absurd H (by simp)
    ·rw [if_neg c8] at H
     have c8b0 : decide (x12_1 < (l1.length : Int)) = false := decide_eq_false c8
     clear c8
     by_cases c23 : (l1.length : Int) > 10
     ·rw [if_pos c23] at H
      have c23b0 : decide (10 < (l1.length : Int)) = true := decide_eq_true c23
      have c23b1 : decide (10 < l1.length) = true := decide_eq_true (by omega)
      clear c23
      obtain rfl := Option.some.inj H
      go_wp2
      go_ret
      exact ⟨by first | rfl | (simp [errW_none, errW_some] <;> rfl) | (simp [*, errW_none, errW_some] <;> rfl), be HB⟩
     ·rw [if_neg c23] at H
      have c23b0 : decide (10 < (l1.length : Int)) = false := decide_eq_false c23
      have c23b1 : decide (10 < l1.length) = false := decide_eq_false (by omega)
      clear c23
      obtain rfl := Option.some.inj H
      go_wp2
      go_ret
      exact ⟨by first | rfl | (simp [errW_none, errW_some] <;> rfl) | (simp [*, errW_none, errW_some] <;> rfl), be HB⟩
 ·replace c4 := Bool.eq_false_iff.mpr c4
  subst c4
  have H1 : (some 1) = some r := by rw [if_neg (show ¬ (false = true) by decide)] at H; exact H
  clear H
  have H := H1
  clear H1
  obtain rfl := Option.some.inj H
  go_enter Try.func18, Try.ntmps18
  go_wp2_with (first | ((with_reducible refine gate_dst (N := 2) rfl ?_); refine bxe (N := 2) (cs := (csBay a0_0 a0_1 a0_2)) (t := 32) ?_; intro gb279 hg w24 hbox hb; have BK279 := am (hbox); have GW279 := am (gN hg (below_size (be HB))); have GE279 := am (gN hg (below_size (be HB))); replace HB := am (below_step (be HB) hb); clear hb hbox hg; obtain ⟨hcz25_0, hcz25_1, hwz25, haz25, hyz25, hvz25, hfz25_0, hfz25_1, hfz25_2⟩ := bb32 BK279) | ((with_reducible refine gate_callee (f := 28) rfl ?_); refine gL (some 8) Try.func28 #[.agg (csBay a0_0 a0_1 a0_2)] ?_; (with_reducible refine (impl_ValidBay.calls a0_0 a0_1 a0_2 false _ A3.out).mono ?_); rintro e w26 ⟨rfl, hb⟩; refine ⟨_, rfl, ?_⟩; replace BK279 := bB BK279 hb; replace HB := am (below_step (be HB) hb); (try clear hb); (try clear hb2); (try clear hk); (try clear hi)))
  go_ret
  exact ⟨by first | rfl | (simp [errW_none, errW_some] <;> rfl) | (simp [*, errW_none, errW_some] <;> rfl), be HB⟩

end Go.Proofs.Ytigafbmdedjgdaa.PFnExactMostBoats
