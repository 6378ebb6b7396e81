-- Written by a program out of this seat's translation (functions, and that the code comes to them).
import Derived.Test.YtcollbifdfhfoaaPFnExactAllAfloatx0
import Derived.Test.YtcollbifdfhfoaaPFnExactAllAfloatx4
namespace Go.Proofs.Ytcollbifdfhfoaa.PFnExactAllAfloat
open Go.RowKit Go.Proofs.YtcollbifdfhfoaaW.PrintWords Go.Proofs.YtcollbifdfhfoaaW.PrintLast Go.Proofs.YtcollbifdfhfoaaW.PrintMore
attribute [local go_sem] max2_int min2_int max_two min_two max_three min_three max_four min_four   -- for this text's walks alone
open Go.Proofs.Ytcollbifdfhfoaa.Bay Go.Proofs.Ytcollbifdfhfoaa.Short
attribute [local go_sem ↓] lv26_eq lv28_eq
attribute [local go_sem] lvv_set lvv_drewN lvv_drew lv26_run BayAt26_set BayAt26_drewN BayAt26_drew lv28_run BayAt28_set BayAt28_drewN BayAt28_drew
set_option linter.unusedVariables false
set_option linter.unusedSimpArgs false

/-! ### spec_l01Bay: function 103 -/
mutual
def spec_l01Bay.j0 : Nat → Bool → Int → Int → (Nat → Int) → Option (Bool × Int × Int × (Nat → Int))
 | 0, _, _, _, _ => none
 | k + 1, x21, x1000, x1001, x1002 => if x21 = true then (some (false, x1000, x1001, x1002)) else (spec_l01Bay.l0 k 0 x1000 x1001 x1002)
def spec_l01Bay.l0 : Nat → Int → Int → Int → (Nat → Int) → Option (Bool × Int × Int × (Nat → Int))
 | 0, _, _, _, _ => none
 | k + 1, x3, x1000, x1001, x1002 => if x3 < 16 then (spec_l01Bay.l1 k x3 0 x1000 x1001 x1002) else (some (true, x1000, x1001, x1002))
def spec_l01Bay.l1 : Nat → Int → Int → Int → Int → (Nat → Int) → Option (Bool × Int × Int × (Nat → Int))
 | 0, _, _, _, _, _ => none
 | k + 1, x3, x4, x1000, x1001, x1002 => if x4 < 16 then (if 0 ≤ x3 then (if x3 < 16 then (if 0 ≤ x4 then ((spec_l00In.f (wrap64 (x1002 (16 * (x3 : Int).toNat + (x4 : Int).toNat))) 0 30).bind fun t165 => (if t165 = true then (if (x1002 (16 * (x3 : Int).toNat + (x4 : Int).toNat)) = 0 then (spec_l01Bay.l1 k x3 (IntKind.i8.wrap (x4 + 1)) x1000 x1001 x1002) else ((spec_l01Is.f x1000 x1001 x1002 x4 x3).bind fun bt166 => (if bt166.1 = true then (spec_l01Bay.l1 k x3 (IntKind.i8.wrap (x4 + 1)) bt166.2.1 bt166.2.2.1 bt166.2.2.2) else (some (false, bt166.2.1, bt166.2.2.1, bt166.2.2.2))))) else (some (false, x1000, x1001, x1002)))) else (none)) else (none)) else (none)) else (spec_l01Bay.l0 k (IntKind.i8.wrap (x3 + 1)) x1000 x1001 x1002)
end
def spec_l01Bay.f (k : Nat) (s0_0 : Int) (s0_1 : Int) (s0_2 : (Nat → Int)) : Option (Bool × Int × Int × (Nat → Int)) := (spec_l00In.f (wrap64 (s0_0)) 1 16).bind fun t163 => (if t163 = true then ((spec_l00In.f (wrap64 (s0_1)) 1 16).bind fun t164 => (spec_l01Bay.j0 k (!t164) s0_0 s0_1 s0_2)) else (spec_l01Bay.j0 k true s0_0 s0_1 s0_2))
set_option maxHeartbeats 8000000 in
set_option maxRecDepth 100000 in
theorem spec_l01Bay.calls (k : Nat) (g : Nat) (s0_0 : Int) (s0_1 : Int) (s0_2 : (Nat → Int)) (r1 : Bool) (r2 : Int) (r3 : Int) (r4 : (Nat → Int)) (w0 w : World) (hI : IsS28 w0 w g s0_0 s0_1 s0_2) (hB : Below w0.heap.size w0 w) (h : spec_l01Bay.f k s0_0 s0_1 s0_2 = some (r1, r2, r3, r4)) :
  Calls Try.prog 103 #[.pointer (some ⟨g, 0, none⟩)] w fun e w' => e = .returned (.bool r1) ∧ IsS28 w0 w' g r2 r3 r4 ∧ Below w0.heap.size w0 w' ∧ KeepBut w w' g none := by
 have hu36 := Try.underlying36
 have HI0 := am hI
 have HK := am (KeepBut.refl w g none)
 have HL := am hB.size
 clear hI
 have HW0 := am hB.size
 have HB := am hB
 clear hB
 have H : ((spec_l00In.f (wrap64 (s0_0)) 1 16).bind fun t163 => (if t163 = true then ((spec_l00In.f (wrap64 (s0_1)) 1 16).bind fun t164 => (spec_l01Bay.j0 k (!t164) s0_0 s0_1 s0_2)) else (spec_l01Bay.j0 k true s0_0 s0_1 s0_2))) = some (r1, r2, r3, r4) := h
 clear h
 have HC2 := am H
 clear H
 go_enter Try.func103, Try.ntmps103
 go_upto_region 1 with (fail)
 go_cut [21] (fun v21 wc => ∃ (kq : Nat) (x21_1 : Bool), v21 = .bool x21_1 ∧ Aside0 (spec_l01Bay.j0 kq x21_1 s0_0 s0_1 s0_2 = some (r1, r2, r3, r4)) ∧ Aside0 (kq ≤ k) ∧ Aside0 (IsS28 w0 wc g s0_0 s0_1 s0_2) ∧ Aside0 (KeepBut w wc g none) ∧ Aside0 (Below w0.heap.size w0 wc))
 case first =>
  have H := HC2.out
  clear HC2
  replace H := Option.bind_eq_some_iff.mp H
  obtain ⟨t163, A30, H⟩ := H
  try dsimp only at H
  have A3 := am A30
  clear A30
  by_cases c4 : t163 = true
  ·subst c4
   rw [if_pos rfl] at H
   replace H := Option.bind_eq_some_iff.mp H
   obtain ⟨t164, A50, H⟩ := H
   try dsimp only at H
   have A5 := am A50
   clear A50
   have H' := am H
   clear H
   obtain ⟨HGz6, hgz6⟩ := HI0.out
   have hcz6_0 := cellS28_0 HGz6
   have hcz6_1 := cellS28_1 HGz6
   have hwz6 := lv28_at HGz6; have haz6 := at_cells HGz6; have hyz6 := BayAt28_of HGz6; have hvz6 := lvv_of HGz6
   have hfz6_0 := blk_frozen HGz6 0
   have hfz6_1 := blk_frozen HGz6 1
   have hfz6_2 := blk_frozen HGz6 2
   clear HGz6 hgz6
   go_wp2_with (first | ((with_reducible refine gate_callee (f := 164) rfl ?_); refine gL (some 11) Try.func164 #[.int .i64 (wrap64 (s0_0)), .int .i64 1, .int .i64 16] ?_; (with_reducible refine (spec_l00In.calls (wrap64 (s0_0)) 1 16 true _ A3.out).mono ?_); rintro e w' ⟨rfl, ⟨nd, rfl⟩⟩; refine ⟨_, rfl, ?_⟩) | (go_at_call 164; (with_reducible refine (spec_l00In.calls (wrap64 (s0_1)) 1 16 t164 _ A5.out).mono ?_); rintro e w' ⟨rfl, ⟨nd, rfl⟩⟩))
   go_meet
   case rel => exact ⟨_, (!t164), vx, H', ⟨by first | omega | exact Nat.le_refl _⟩, ⟨si28 HI0⟩, ⟨ke HK⟩, ⟨be HB⟩⟩
  ·replace c4 := Bool.eq_false_iff.mpr c4
   subst c4
   have H1 : (spec_l01Bay.j0 k true s0_0 s0_1 s0_2) = some (r1, r2, r3, r4) := by rw [if_neg (show ¬ (false = true) by decide)] at H; exact H
   clear H
   have H := H1
   clear H1
   have H' := am H
   clear H
   obtain ⟨HGz7, hgz7⟩ := HI0.out
   have hcz7_0 := cellS28_0 HGz7
   have hcz7_1 := cellS28_1 HGz7
   have hwz7 := lv28_at HGz7; have haz7 := at_cells HGz7; have hyz7 := BayAt28_of HGz7; have hvz7 := lvv_of HGz7
   have hfz7_0 := blk_frozen HGz7 0
   have hfz7_1 := blk_frozen HGz7 1
   have hfz7_2 := blk_frozen HGz7 2
   clear HGz7 hgz7
   go_wp2_with (first | ((with_reducible refine gate_callee (f := 164) rfl ?_); refine gL (some 11) Try.func164 #[.int .i64 (wrap64 (s0_0)), .int .i64 1, .int .i64 16] ?_; (with_reducible refine (spec_l00In.calls (wrap64 (s0_0)) 1 16 false _ A3.out).mono ?_); rintro e w' ⟨rfl, ⟨nd, rfl⟩⟩; refine ⟨_, rfl, ?_⟩))
   go_meet
   case rel => exact ⟨_, (true), vx, H', ⟨by first | omega | exact Nat.le_refl _⟩, ⟨si28 HI0⟩, ⟨ke HK⟩, ⟨be HB⟩⟩
 case rest =>
  clear HC2
  try clear c1
  try clear p2
  try clear c4
  try clear p6
  try clear hcz6_0
  try clear hcz6_1
  try clear hcz7_0
  try clear hcz7_1
  try clear hfz6_0
  try clear hfz6_1
  try clear hfz6_2
  try clear hfz7_0
  try clear hfz7_1
  try clear hfz7_2
  obtain ⟨kq, x21_1, rfl, HA, HJ1, HI0, HK, HB⟩ := hcut
  cases kq with
  | zero => exact absurd HA.out (by simp [spec_l01Bay.j0])
  | succ kj1 =>
   have H := HA.out
   clear HA
   simp only [spec_l01Bay.j0] at H
   by_cases c8 : x21_1 = true
   ·subst c8
    rw [if_pos rfl] at H
    simp only [Option.some.injEq, Prod.mk.injEq] at H
    obtain ⟨rfl, rfl, rfl, rfl⟩ := H
    go_wp2
    go_ret
    exact ⟨by first | rfl | (simp [errW_none, errW_some] <;> rfl) | (simp [*, errW_none, errW_some] <;> rfl), si28 HI0, be HB, ke HK⟩
   ·replace c8 := Bool.eq_false_iff.mpr c8
    subst c8
    have H1 : (spec_l01Bay.l0 kj1 0 s0_0 s0_1 s0_2) = some (r1, r2, r3, r4) := by rw [if_neg (show ¬ (false = true) by decide)] at H; exact H
    clear H
    have H := H1
    clear H1
    have H' := am H
    clear H
    go_wp2
    go_loopg [3] kj1 (fun kq v3 w' => ∃ (x3_2 : Int) (x1000_2 : Int) (x1001_2 : Int) (x1002_2 : (Nat → Int)), v3 = .int .i8 x3_2 ∧ Aside0 (spec_l01Bay.l0 kq x3_2 x1000_2 x1001_2 x1002_2 = some (r1, r2, r3, r4)) ∧ Aside0 (kq ≤ kj1) ∧ Aside0 (IsS28 w0 w' g x1000_2 x1001_2 x1002_2) ∧ Aside0 (KeepBut w w' g none) ∧ Aside0 (Below w0.heap.size w0 w'))
    case atStart => exact ⟨(0), (s0_0), (s0_1), (s0_2), vx, H', ⟨Nat.le_refl _⟩, ⟨si28 HI0⟩, ⟨ke HK⟩, ⟨be HB⟩⟩
    case round =>
     clear H'
     try clear c1
     try clear p2
     try clear c4
     try clear p6
     try clear c8
     try clear hcz6_0
     try clear hcz6_1
     try clear hcz7_0
     try clear hcz7_1
     try clear hfz6_0
     try clear hfz6_1
     try clear hfz6_2
     try clear hfz7_0
     try clear hfz7_1
     try clear hfz7_2
     try clear p2
     try clear p6
     obtain ⟨x3_2, x1000_2, x1001_2, x1002_2, rfl, HA, HK2, HI0, HK, HB⟩ := hrel
     cases gk with
     | zero => exact absurd HA.out (by simp [spec_l01Bay.l0])
     | succ k2 =>
      have H := HA.out
      clear HA
      simp only [spec_l01Bay.l0] at H
      by_cases c9 : x3_2 < 16
      ·rw [if_pos c9] at H
       have c9b0 : decide (x3_2 < 16) = true := decide_eq_true c9
       have c9b1 : x3_2 < 16 := c9
       clear c9
       have H' := am H
       clear H
       go_wp2
       go_loopg [4] k2 (fun kq v4 w' => ∃ (x4_3 : Int) (x1000_3 : Int) (x1001_3 : Int) (x1002_3 : (Nat → Int)), v4 = .int .i8 x4_3 ∧ Aside0 (spec_l01Bay.l1 kq x3_2 x4_3 x1000_3 x1001_3 x1002_3 = some (r1, r2, r3, r4)) ∧ Aside0 (kq ≤ k2) ∧ Aside0 (IsS28 w0 w' g x1000_3 x1001_3 x1002_3) ∧ Aside0 (KeepBut w w' g none) ∧ Aside0 (Below w0.heap.size w0 w'))
       case atStart => exact ⟨(0), (x1000_2), (x1001_2), (x1002_2), vx, H', ⟨Nat.le_refl _⟩, ⟨si28 HI0⟩, ⟨ke HK⟩, ⟨be HB⟩⟩
       case round =>
        clear H'
        try clear c1
        try clear p2
        try clear c4
        try clear p6
        try clear c8
        try clear c9
        try clear c9b0
        try clear c9b1
        try clear hcz6_0
        try clear hcz6_1
        try clear hcz7_0
        try clear hcz7_1
        try clear hfz6_0
        try clear hfz6_1
        try clear hfz6_2
        try clear hfz7_0
        try clear hfz7_1
        try clear hfz7_2
        try clear p2
        try clear p6
        obtain ⟨x4_3, x1000_3, x1001_3, x1002_3, rfl, HA, HK3, HI0, HK, HB⟩ := hrel
        cases gk with
        | zero => exact absurd HA.out (by simp [spec_l01Bay.l1])
        | succ k3 =>
         have H := HA.out
         clear HA
         simp only [spec_l01Bay.l1] at H
         by_cases c10 : x4_3 < 16
         ·rw [if_pos c10] at H
          have c10b0 : decide (x4_3 < 16) = true := decide_eq_true c10
          have c10b1 : x4_3 < 16 := c10
          clear c10
          by_cases c11 : 0 ≤ x3_2
          ·rw [if_pos c11] at H
           have c11b0 : decide (0 ≤ x3_2) = true := decide_eq_true c11
           have c11b1 : 0 ≤ x3_2 := c11
           clear c11
           by_cases c12 : x3_2 < 16
           ·rw [if_pos c12] at H
            have c12b0 : decide (x3_2 < 16) = true := decide_eq_true c12
            have c12b1 : x3_2 < 16 := c12
            clear c12
            by_cases c13 : 0 ≤ x4_3
            ·rw [if_pos c13] at H
             have c13b0 : decide (0 ≤ x4_3) = true := decide_eq_true c13
             have c13b1 : 0 ≤ x4_3 := c13
             clear c13
             replace H := Option.bind_eq_some_iff.mp H
             obtain ⟨t165, A140, H⟩ := H
             try dsimp only at H
             have A14 := am A140
             clear A140
             by_cases c15 : t165 = true
             ·subst c15
              rw [if_pos rfl] at H
              by_cases c16 : (x1002_3 (16 * (x3_2 : Int).toNat + (x4_3 : Int).toNat)) = 0
              ·rw [if_pos c16] at H
               have c16b0 : ((x1002_3 (16 * (x3_2 : Int).toNat + (x4_3 : Int).toNat)) == 0) = true := beq_iff_eq.mpr c16
               have c16b1 : ((x1002_3 (16 * (x3_2 : Int).toNat + (x4_3 : Int).toNat)) != 0) = false := bne_eq_false_iff_eq.mpr c16
               clear c16
               have H' := am H
               clear H
               obtain ⟨HGz17, hgz17⟩ := HI0.out
               have hcz17_0 := cellS28_0 HGz17
               have hcz17_1 := cellS28_1 HGz17
               have hwz17 := lv28_at HGz17; have haz17 := at_cells HGz17; have hyz17 := BayAt28_of HGz17; have hvz17 := lvv_of HGz17
               have hfz17_0 := blk_frozen HGz17 0
               have hfz17_1 := blk_frozen HGz17 1
               have hfz17_2 := blk_frozen HGz17 2
               clear HGz17 hgz17
               go_wp2_with (first | ((with_reducible refine gate_callee (f := 164) rfl ?_); refine gL (some 40) Try.func164 #[.int .i64 (wrap64 (x1002_3 (16 * (x3_2 : Int).toNat + (x4_3 : Int).toNat))), .int .i64 0, .int .i64 30] ?_; (with_reducible refine (spec_l00In.calls (wrap64 (x1002_3 (16 * (x3_2 : Int).toNat + (x4_3 : Int).toNat))) 0 30 true _ A14.out).mono ?_); rintro e w' ⟨rfl, ⟨nd, rfl⟩⟩; refine ⟨_, rfl, ?_⟩))
               go_roundg k3
               case measure => have := HJ1.out; have := HK2.out; have := HK3.out; omega
               case rel => exact ⟨(IntKind.i8.wrap (x4_3 + 1)), (x1000_3), (x1001_3), (x1002_3), vx, H', ⟨by have := HJ1.out; have := HK2.out; have := HK3.out; omega⟩, ⟨si28 HI0⟩, ⟨ke HK⟩, ⟨be HB⟩⟩
              ·rw [if_neg c16] at H
               have c16b0 : ((x1002_3 (16 * (x3_2 : Int).toNat + (x4_3 : Int).toNat)) == 0) = false := beq_eq_false_iff_ne.mpr c16
               have c16b1 : ((x1002_3 (16 * (x3_2 : Int).toNat + (x4_3 : Int).toNat)) != 0) = true := bne_iff_ne.mpr c16
               replace H := Option.bind_eq_some_iff.mp H
               obtain ⟨⟨t166, t167, t168, t169⟩, A180, H⟩ := H
               try dsimp only at H
               have A18 := am A180
               clear A180
               by_cases c19 : t166 = true
               ·subst c19
                rw [if_pos rfl] at H
                have H' := am H
                clear H
                obtain ⟨HGz20, hgz20⟩ := HI0.out
                have hcz20_0 := cellS28_0 HGz20
                have hcz20_1 := cellS28_1 HGz20
                have hwz20 := lv28_at HGz20; have haz20 := at_cells HGz20; have hyz20 := BayAt28_of HGz20; have hvz20 := lvv_of HGz20
                have hfz20_0 := blk_frozen HGz20 0
                have hfz20_1 := blk_frozen HGz20 1
                have hfz20_2 := blk_frozen HGz20 2
                clear HGz20 hgz20
                go_wp2_with (first | ((with_reducible refine gate_callee (f := 164) rfl ?_); refine gL (some 40) Try.func164 #[.int .i64 (wrap64 (x1002_3 (16 * (x3_2 : Int).toNat + (x4_3 : Int).toNat))), .int .i64 0, .int .i64 30] ?_; (with_reducible refine (spec_l00In.calls (wrap64 (x1002_3 (16 * (x3_2 : Int).toNat + (x4_3 : Int).toNat))) 0 30 true _ A14.out).mono ?_); rintro e w' ⟨rfl, ⟨nd, rfl⟩⟩; refine ⟨_, rfl, ?_⟩) | (go_at_call 165; (with_reducible refine (spec_l01Is.calls g x1000_3 x1001_3 x1002_3 x4_3 x3_2 true t167 t168 t169 w0 _ ?side1 ?side2 A18.out).mono ?_); (case side1 => exact si28 HI0); (case side2 => exact be HB); rintro e w21 ⟨rfl, hi, hb, hk⟩; replace HK := am (KeepBut.trans (ke HK) hk (.inl rfl)); replace HB := am (hb); replace HI0 := am (hi); (try clear hb); (try clear hb2); (try clear hk); (try clear hi)))
                go_roundg k3
                case measure => have := HJ1.out; have := HK2.out; have := HK3.out; omega
                case rel => exact ⟨(IntKind.i8.wrap (x4_3 + 1)), (t167), (t168), (t169), vx, H', ⟨by have := HJ1.out; have := HK2.out; have := HK3.out; omega⟩, ⟨si28 HI0⟩, ⟨ke HK⟩, ⟨be HB⟩⟩
               ·replace c19 := Bool.eq_false_iff.mpr c19
                subst c19
                have H1 : (some (false, t167, t168, t169)) = some (r1, r2, r3, r4) := by rw [if_neg (show ¬ (false = true) by decide)] at H; exact H
                clear H
                have H := H1
                clear H1
                simp only [Option.some.injEq, Prod.mk.injEq] at H
                obtain ⟨rfl, rfl, rfl, rfl⟩ := H
                obtain ⟨HGz22, hgz22⟩ := HI0.out
                have hcz22_0 := cellS28_0 HGz22
                have hcz22_1 := cellS28_1 HGz22
                have hwz22 := lv28_at HGz22; have haz22 := at_cells HGz22; have hyz22 := BayAt28_of HGz22; have hvz22 := lvv_of HGz22
                have hfz22_0 := blk_frozen HGz22 0
                have hfz22_1 := blk_frozen HGz22 1
                have hfz22_2 := blk_frozen HGz22 2
                clear HGz22 hgz22
                go_wp2_with (first | ((with_reducible refine gate_callee (f := 164) rfl ?_); refine gL (some 40) Try.func164 #[.int .i64 (wrap64 (x1002_3 (16 * (x3_2 : Int).toNat + (x4_3 : Int).toNat))), .int .i64 0, .int .i64 30] ?_; (with_reducible refine (spec_l00In.calls (wrap64 (x1002_3 (16 * (x3_2 : Int).toNat + (x4_3 : Int).toNat))) 0 30 true _ A14.out).mono ?_); rintro e w' ⟨rfl, ⟨nd, rfl⟩⟩; refine ⟨_, rfl, ?_⟩) | (go_at_call 165; (with_reducible refine (spec_l01Is.calls g x1000_3 x1001_3 x1002_3 x4_3 x3_2 false t167 t168 t169 w0 _ ?side1 ?side2 A18.out).mono ?_); (case side1 => exact si28 HI0); (case side2 => exact be HB); rintro e w23 ⟨rfl, hi, hb, hk⟩; replace HK := am (KeepBut.trans (ke HK) hk (.inl rfl)); replace HB := am (hb); replace HI0 := am (hi); (try clear hb); (try clear hb2); (try clear hk); (try clear hi)))
                go_ret
                exact ⟨by first | rfl | (simp [errW_none, errW_some] <;> rfl) | (simp [*, errW_none, errW_some] <;> rfl), si28 HI0, be HB, ke HK⟩
             ·replace c15 := Bool.eq_false_iff.mpr c15
              subst c15
              have H1 : (some (false, x1000_3, x1001_3, x1002_3)) = some (r1, r2, r3, r4) := by rw [if_neg (show ¬ (false = true) by decide)] at H; exact H
              clear H
              have H := H1
              clear H1
              simp only [Option.some.injEq, Prod.mk.injEq] at H
              obtain ⟨rfl, rfl, rfl, rfl⟩ := H
              obtain ⟨HGz24, hgz24⟩ := HI0.out
              have hcz24_0 := cellS28_0 HGz24
              have hcz24_1 := cellS28_1 HGz24
              have hwz24 := lv28_at HGz24; have haz24 := at_cells HGz24; have hyz24 := BayAt28_of HGz24; have hvz24 := lvv_of HGz24
              have hfz24_0 := blk_frozen HGz24 0
              have hfz24_1 := blk_frozen HGz24 1
              have hfz24_2 := blk_frozen HGz24 2
              clear HGz24 hgz24
              go_wp2_with (first | ((with_reducible refine gate_callee (f := 164) rfl ?_); refine gL (some 40) Try.func164 #[.int .i64 (wrap64 (x1002_3 (16 * (x3_2 : Int).toNat + (x4_3 : Int).toNat))), .int .i64 0, .int .i64 30] ?_; (with_reducible refine (spec_l00In.calls (wrap64 (x1002_3 (16 * (x3_2 : Int).toNat + (x4_3 : Int).toNat))) 0 30 false _ A14.out).mono ?_); rintro e w' ⟨rfl, ⟨nd, rfl⟩⟩; refine ⟨_, rfl, ?_⟩))
              go_ret
              exact ⟨by first | rfl | (simp [errW_none, errW_some] <;> rfl) | (simp [*, errW_none, errW_some] <;> rfl), si28 HI0, be HB, ke HK⟩
            ·rw [if_neg c13] at H
             exact absurd H (by simp)
           ·rw [if_neg c12] at H
            exact absurd H (by simp)
          ·rw [if_neg c11] at H
           exact absurd H (by simp)
         ·rw [if_neg c10] at H
          have c10b0 : decide (x4_3 < 16) = false := decide_eq_false c10
          clear c10
          have H' := am H
          clear H
          go_wp2
          go_roundg k3
          case measure => have := HJ1.out; have := HK2.out; have := HK3.out; omega
          case rel => exact ⟨(IntKind.i8.wrap (x3_2 + 1)), (x1000_3), (x1001_3), (x1002_3), vx, H', ⟨by have := HJ1.out; have := HK2.out; have := HK3.out; omega⟩, ⟨si28 HI0⟩, ⟨ke HK⟩, ⟨be HB⟩⟩
      ·rw [if_neg c9] at H
       have c9b0 : decide (x3_2 < 16) = false := decide_eq_false c9
       clear c9
       simp only [Option.some.injEq, Prod.mk.injEq] at H
       obtain ⟨rfl, rfl, rfl, rfl⟩ := H
       go_wp2
       go_ret
       exact ⟨by first | rfl | (simp [errW_none, errW_some] <;> rfl) | (simp [*, errW_none, errW_some] <;> rfl), si28 HI0, be HB, ke HK⟩

/-! ### spec_l01Boat: function 105 -/
def spec_l01Boat.f (s0_0 : Int) (s0_1 : Int) (s0_2 : (Nat → Int)) (a1_0 : Int) (a1_1 : Int) (a1_2 : Int) (a1_3 : Int) (a1_4 : Int) (a1_5 : Int) : Option (Bool × Int × Int × (Nat → Int)) := (spec_l01Is.f s0_0 s0_1 s0_2 a1_0 a1_1).bind fun bt171 => (if bt171.1 = true then ((spec_l01Depth.f bt171.2.1 bt171.2.2.1 bt171.2.2.2 a1_0 a1_1).bind fun bt175 => (if bt175.1 > 0 then ((spec_l00In.f (wrap64 (a1_2)) 1 60).bind fun t179 => (if t179 = true then ((spec_l00In.f (wrap64 (a1_3)) 0 5).bind fun t180 => (if t180 = true then ((spec_l00In.f (wrap64 (a1_4)) 1 30).bind fun t181 => (if t181 = true then ((spec_l00In.f (wrap64 (a1_5)) 0 9).bind fun t182 => (some (t182, bt175.2.1, bt175.2.2.1, bt175.2.2.2))) else (some (false, bt175.2.1, bt175.2.2.1, bt175.2.2.2)))) else (some (false, bt175.2.1, bt175.2.2.1, bt175.2.2.2)))) else (some (false, bt175.2.1, bt175.2.2.1, bt175.2.2.2)))) else (some (false, bt175.2.1, bt175.2.2.1, bt175.2.2.2)))) else (some (false, bt171.2.1, bt171.2.2.1, bt171.2.2.2)))
set_option maxHeartbeats 8000000 in
set_option maxRecDepth 100000 in
theorem spec_l01Boat.calls (g : Nat) (s0_0 : Int) (s0_1 : Int) (s0_2 : (Nat → Int)) (a1_0 : Int) (a1_1 : Int) (a1_2 : Int) (a1_3 : Int) (a1_4 : Int) (a1_5 : Int) (r1 : Bool) (r2 : Int) (r3 : Int) (r4 : (Nat → Int)) (w0 w : World) (hI : IsS28 w0 w g s0_0 s0_1 s0_2) (hB : Below w0.heap.size w0 w) (h : spec_l01Boat.f s0_0 s0_1 s0_2 a1_0 a1_1 a1_2 a1_3 a1_4 a1_5 = some (r1, r2, r3, r4)) :
  Calls Try.prog 105 #[.pointer (some ⟨g, 0, none⟩), .agg #[.int .i8 a1_0, .int .i8 a1_1, .int .i8 a1_2, .int .i8 a1_3, .int .i8 a1_4, .int .i8 a1_5]] w fun e w' => e = .returned (.bool r1) ∧ IsS28 w0 w' g r2 r3 r4 ∧ Below w0.heap.size w0 w' ∧ KeepBut w w' g none := by
 have hu38 := Try.underlying38
 have hu36 := Try.underlying36
 have HI0 := am hI
 have HK := am (KeepBut.refl w g none)
 have HL := am hB.size
 clear hI
 have HW0 := am hB.size
 have HB := am hB
 clear hB
 have H : ((spec_l01Is.f s0_0 s0_1 s0_2 a1_0 a1_1).bind fun bt171 => (if bt171.1 = true then ((spec_l01Depth.f bt171.2.1 bt171.2.2.1 bt171.2.2.2 a1_0 a1_1).bind fun bt175 => (if bt175.1 > 0 then ((spec_l00In.f (wrap64 (a1_2)) 1 60).bind fun t179 => (if t179 = true then ((spec_l00In.f (wrap64 (a1_3)) 0 5).bind fun t180 => (if t180 = true then ((spec_l00In.f (wrap64 (a1_4)) 1 30).bind fun t181 => (if t181 = true then ((spec_l00In.f (wrap64 (a1_5)) 0 9).bind fun t182 => (some (t182, bt175.2.1, bt175.2.2.1, bt175.2.2.2))) else (some (false, bt175.2.1, bt175.2.2.1, bt175.2.2.2)))) else (some (false, bt175.2.1, bt175.2.2.1, bt175.2.2.2)))) else (some (false, bt175.2.1, bt175.2.2.1, bt175.2.2.2)))) else (some (false, bt175.2.1, bt175.2.2.1, bt175.2.2.2)))) else (some (false, bt171.2.1, bt171.2.2.1, bt171.2.2.2)))) = some (r1, r2, r3, r4) := h
 clear h
 replace H := Option.bind_eq_some_iff.mp H
 obtain ⟨⟨t171, t172, t173, t174⟩, A30, H⟩ := H
 try dsimp only at H
 have A3 := am A30
 clear A30
 by_cases c4 : t171 = true
 ·subst c4
  rw [if_pos rfl] at H
  replace H := Option.bind_eq_some_iff.mp H
  obtain ⟨⟨t175, t176, t177, t178⟩, A50, H⟩ := H
  try dsimp only at H
  have A5 := am A50
  clear A50
  by_cases c6 : t175 > 0
  ·rw [if_pos c6] at H
   have c6b0 : decide (0 < t175) = true := decide_eq_true c6
   clear c6
   replace H := Option.bind_eq_some_iff.mp H
   obtain ⟨t179, A70, H⟩ := H
   try dsimp only at H
   have A7 := am A70
   clear A70
   by_cases c8 : t179 = true
   ·subst c8
    rw [if_pos rfl] at H
    replace H := Option.bind_eq_some_iff.mp H
    obtain ⟨t180, A90, H⟩ := H
    try dsimp only at H
    have A9 := am A90
    clear A90
    by_cases c10 : t180 = true
    ·subst c10
     rw [if_pos rfl] at H
     replace H := Option.bind_eq_some_iff.mp H
     obtain ⟨t181, A110, H⟩ := H
     try dsimp only at H
     have A11 := am A110
     clear A110
     by_cases c12 : t181 = true
     ·subst c12
      rw [if_pos rfl] at H
      replace H := Option.bind_eq_some_iff.mp H
      obtain ⟨t182, A130, H⟩ := H
      try dsimp only at H
      have A13 := am A130
      clear A130
      simp only [Option.some.injEq, Prod.mk.injEq] at H
      obtain ⟨rfl, rfl, rfl, rfl⟩ := H
      go_enter Try.func105, Try.ntmps105
      go_wp2_with (first | ((with_reducible refine gate_dst (N := 3) rfl ?_); refine bxe (N := 3) (cs := #[.int .i8 a1_0, .int .i8 a1_1, .int .i8 a1_2, .int .i8 a1_3, .int .i8 a1_4, .int .i8 a1_5]) (t := 38) ?_; intro gb170 hg w14 hbox hb; have BK170 := am (hbox); have GW170 := am (gN hg (keep_size (w := w) (g := g) (row := none) (ke HK))); have GE170 := am (Nat.le_trans HW0.out (gN hg (keep_size (w := w) (g := g) (row := none) (ke HK)))); have NB0_170 := am (nLi hg (IsS28.lt (show IsS28 w0 _ g s0_0 s0_1 s0_2 from si28 HI0))); have NB170_0 := am (nRi hg (IsS28.lt (show IsS28 w0 _ g s0_0 s0_1 s0_2 from si28 HI0))); replace HI0 := am (IsS28.below (si28 HI0) hb); replace HK := am (KeepBut.trans (ke HK) (KeepBut.of_below hb g none) (.inl rfl)); replace HB := am (below_step (be HB) hb); clear hb hbox hg; have hnb15 := NB170_0.out; have hnc15 := NB0_170.out; obtain ⟨hcz16_0, hcz16_1, hcz16_2, hcz16_3, hcz16_4, hcz16_5, hfz16_0, hfz16_1, hfz16_2, hfz16_3, hfz16_4, hfz16_5⟩ := bx6 BK170) | ((with_reducible refine gate_callee (f := 165) rfl ?_); refine gL (some 8) Try.func165 #[.pointer (some ⟨g, 0, none⟩), .agg #[.int .i8 a1_0, .int .i8 a1_1]] ?_; (with_reducible refine (spec_l01Is.calls g s0_0 s0_1 s0_2 a1_0 a1_1 true t172 t173 t174 w0 _ ?side1 ?side2 A3.out).mono ?_); (case side1 => exact si28 HI0); (case side2 => exact be HB); rintro e w17 ⟨rfl, hi, hb, hk⟩; refine ⟨_, rfl, ?_⟩; replace BK170 := am (KeepBut.blk hk (g' := gb170) (o := .cells #[.int .i8 a1_0, .int .i8 a1_1, .int .i8 a1_2, .int .i8 a1_3, .int .i8 a1_4, .int .i8 a1_5] 38 (0, 0)) (kb BK170) NB170_0.out (by simp)); replace HK := am (KeepBut.trans (ke HK) hk (.inl rfl)); replace HB := am (hb); replace HI0 := am (hi); (try clear hb); (try clear hb2); (try clear hk); (try clear hi); obtain ⟨hcz18_0, hcz18_1, hcz18_2, hcz18_3, hcz18_4, hcz18_5, hfz18_0, hfz18_1, hfz18_2, hfz18_3, hfz18_4, hfz18_5⟩ := bx6 BK170) | (go_at_call 110; (with_reducible refine (spec_l01Depth.calls g t172 t173 t174 a1_0 a1_1 t175 t176 t177 t178 w0 _ ?side1 ?side2 A5.out).mono ?_); (case side1 => exact si28 HI0); (case side2 => exact be HB); rintro e w19 ⟨rfl, hi, hb, hk⟩; replace BK170 := am (KeepBut.blk hk (g' := gb170) (o := .cells #[.int .i8 a1_0, .int .i8 a1_1, .int .i8 a1_2, .int .i8 a1_3, .int .i8 a1_4, .int .i8 a1_5] 38 (0, 0)) (kb BK170) NB170_0.out (by simp)); replace HK := am (KeepBut.trans (ke HK) hk (.inl rfl)); replace HB := am (hb); replace HI0 := am (hi); (try clear hb); (try clear hb2); (try clear hk); (try clear hi); obtain ⟨hcz20_0, hcz20_1, hcz20_2, hcz20_3, hcz20_4, hcz20_5, hfz20_0, hfz20_1, hfz20_2, hfz20_3, hfz20_4, hfz20_5⟩ := bx6 BK170) | (go_at_call 164; (with_reducible refine (spec_l00In.calls (wrap64 (a1_2)) 1 60 true _ A7.out).mono ?_); rintro e w' ⟨rfl, ⟨nd, rfl⟩⟩) | (go_at_call 164; (with_reducible refine (spec_l00In.calls (wrap64 (a1_3)) 0 5 true _ A9.out).mono ?_); rintro e w' ⟨rfl, ⟨nd, rfl⟩⟩) | (go_at_call 164; (with_reducible refine (spec_l00In.calls (wrap64 (a1_4)) 1 30 true _ A11.out).mono ?_); rintro e w' ⟨rfl, ⟨nd, rfl⟩⟩) | (go_at_call 164; (with_reducible refine (spec_l00In.calls (wrap64 (a1_5)) 0 9 t182 _ A13.out).mono ?_); rintro e w' ⟨rfl, ⟨nd, rfl⟩⟩))
      go_ret
      exact ⟨by first | rfl | (simp [errW_none, errW_some] <;> rfl) | (simp [*, errW_none, errW_some] <;> rfl), si28 HI0, be HB, ke HK⟩
     ·replace c12 := Bool.eq_false_iff.mpr c12
      subst c12
      have H1 : (some (false, t176, t177, t178)) = some (r1, r2, r3, r4) := by rw [if_neg (show ¬ (false = true) by decide)] at H; exact H
      clear H
      have H := H1
      clear H1
      simp only [Option.some.injEq, Prod.mk.injEq] at H
      obtain ⟨rfl, rfl, rfl, rfl⟩ := H
      go_enter Try.func105, Try.ntmps105
      go_wp2_with (first | ((with_reducible refine gate_dst (N := 3) rfl ?_); refine bxe (N := 3) (cs := #[.int .i8 a1_0, .int .i8 a1_1, .int .i8 a1_2, .int .i8 a1_3, .int .i8 a1_4, .int .i8 a1_5]) (t := 38) ?_; intro gb170 hg w21 hbox hb; have BK170 := am (hbox); have GW170 := am (gN hg (keep_size (w := w) (g := g) (row := none) (ke HK))); have GE170 := am (Nat.le_trans HW0.out (gN hg (keep_size (w := w) (g := g) (row := none) (ke HK)))); have NB0_170 := am (nLi hg (IsS28.lt (show IsS28 w0 _ g s0_0 s0_1 s0_2 from si28 HI0))); have NB170_0 := am (nRi hg (IsS28.lt (show IsS28 w0 _ g s0_0 s0_1 s0_2 from si28 HI0))); replace HI0 := am (IsS28.below (si28 HI0) hb); replace HK := am (KeepBut.trans (ke HK) (KeepBut.of_below hb g none) (.inl rfl)); replace HB := am (below_step (be HB) hb); clear hb hbox hg; have hnb22 := NB170_0.out; have hnc22 := NB0_170.out; obtain ⟨hcz23_0, hcz23_1, hcz23_2, hcz23_3, hcz23_4, hcz23_5, hfz23_0, hfz23_1, hfz23_2, hfz23_3, hfz23_4, hfz23_5⟩ := bx6 BK170) | ((with_reducible refine gate_callee (f := 165) rfl ?_); refine gL (some 8) Try.func165 #[.pointer (some ⟨g, 0, none⟩), .agg #[.int .i8 a1_0, .int .i8 a1_1]] ?_; (with_reducible refine (spec_l01Is.calls g s0_0 s0_1 s0_2 a1_0 a1_1 true t172 t173 t174 w0 _ ?side1 ?side2 A3.out).mono ?_); (case side1 => exact si28 HI0); (case side2 => exact be HB); rintro e w24 ⟨rfl, hi, hb, hk⟩; refine ⟨_, rfl, ?_⟩; replace BK170 := am (KeepBut.blk hk (g' := gb170) (o := .cells #[.int .i8 a1_0, .int .i8 a1_1, .int .i8 a1_2, .int .i8 a1_3, .int .i8 a1_4, .int .i8 a1_5] 38 (0, 0)) (kb BK170) NB170_0.out (by simp)); replace HK := am (KeepBut.trans (ke HK) hk (.inl rfl)); replace HB := am (hb); replace HI0 := am (hi); (try clear hb); (try clear hb2); (try clear hk); (try clear hi); obtain ⟨hcz25_0, hcz25_1, hcz25_2, hcz25_3, hcz25_4, hcz25_5, hfz25_0, hfz25_1, hfz25_2, hfz25_3, hfz25_4, hfz25_5⟩ := bx6 BK170) | (go_at_call 110; (with_reducible refine (spec_l01Depth.calls g t172 t173 t174 a1_0 a1_1 t175 t176 t177 t178 w0 _ ?side1 ?side2 A5.out).mono ?_); (case side1 => exact si28 HI0); (case side2 => exact be HB); rintro e w26 ⟨rfl, hi, hb, hk⟩; replace BK170 := am (KeepBut.blk hk (g' := gb170) (o := .cells #[.int .i8 a1_0, .int .i8 a1_1, .int .i8 a1_2, .int .i8 a1_3, .int .i8 a1_4, .int .i8 a1_5] 38 (0, 0)) (kb BK170) NB170_0.out (by simp)); replace HK := am (KeepBut.trans (ke HK) hk (.inl rfl)); replace HB := am (hb); replace HI0 := am (hi); (try clear hb); (try clear hb2); (try clear hk); (try clear hi); obtain ⟨hcz27_0, hcz27_1, hcz27_2, hcz27_3, hcz27_4, hcz27_5, hfz27_0, hfz27_1, hfz27_2, hfz27_3, hfz27_4, hfz27_5⟩ := bx6 BK170) | (go_at_call 164; (with_reducible refine (spec_l00In.calls (wrap64 (a1_2)) 1 60 true _ A7.out).mono ?_); rintro e w' ⟨rfl, ⟨nd, rfl⟩⟩) | (go_at_call 164; (with_reducible refine (spec_l00In.calls (wrap64 (a1_3)) 0 5 true _ A9.out).mono ?_); rintro e w' ⟨rfl, ⟨nd, rfl⟩⟩) | (go_at_call 164; (with_reducible refine (spec_l00In.calls (wrap64 (a1_4)) 1 30 false _ A11.out).mono ?_); rintro e w' ⟨rfl, ⟨nd, rfl⟩⟩))
      go_ret
      exact ⟨by first | rfl | (simp [errW_none, errW_some] <;> rfl) | (simp [*, errW_none, errW_some] <;> rfl), si28 HI0, be HB, ke HK⟩
    ·replace c10 := Bool.eq_false_iff.mpr c10
     subst c10
     have H1 : (some (false, t176, t177, t178)) = some (r1, r2, r3, r4) := by rw [if_neg (show ¬ (false = true) by decide)] at H; exact H
     clear H
     have H := H1
     clear H1
     simp only [Option.some.injEq, Prod.mk.injEq] at H
     obtain ⟨rfl, rfl, rfl, rfl⟩ := H
     go_enter Try.func105, Try.ntmps105
     go_wp2_with (first | ((with_reducible refine gate_dst (N := 3) rfl ?_); refine bxe (N := 3) (cs := #[.int .i8 a1_0, .int .i8 a1_1, .int .i8 a1_2, .int .i8 a1_3, .int .i8 a1_4, .int .i8 a1_5]) (t := 38) ?_; intro gb170 hg w28 hbox hb; have BK170 := am (hbox); have GW170 := am (gN hg (keep_size (w := w) (g := g) (row := none) (ke HK))); have GE170 := am (Nat.le_trans HW0.out (gN hg (keep_size (w := w) (g := g) (row := none) (ke HK)))); have NB0_170 := am (nLi hg (IsS28.lt (show IsS28 w0 _ g s0_0 s0_1 s0_2 from si28 HI0))); have NB170_0 := am (nRi hg (IsS28.lt (show IsS28 w0 _ g s0_0 s0_1 s0_2 from si28 HI0))); replace HI0 := am (IsS28.below (si28 HI0) hb); replace HK := am (KeepBut.trans (ke HK) (KeepBut.of_below hb g none) (.inl rfl)); replace HB := am (below_step (be HB) hb); clear hb hbox hg; have hnb29 := NB170_0.out; have hnc29 := NB0_170.out; obtain ⟨hcz30_0, hcz30_1, hcz30_2, hcz30_3, hcz30_4, hcz30_5, hfz30_0, hfz30_1, hfz30_2, hfz30_3, hfz30_4, hfz30_5⟩ := bx6 BK170) | ((with_reducible refine gate_callee (f := 165) rfl ?_); refine gL (some 8) Try.func165 #[.pointer (some ⟨g, 0, none⟩), .agg #[.int .i8 a1_0, .int .i8 a1_1]] ?_; (with_reducible refine (spec_l01Is.calls g s0_0 s0_1 s0_2 a1_0 a1_1 true t172 t173 t174 w0 _ ?side1 ?side2 A3.out).mono ?_); (case side1 => exact si28 HI0); (case side2 => exact be HB); rintro e w31 ⟨rfl, hi, hb, hk⟩; refine ⟨_, rfl, ?_⟩; replace BK170 := am (KeepBut.blk hk (g' := gb170) (o := .cells #[.int .i8 a1_0, .int .i8 a1_1, .int .i8 a1_2, .int .i8 a1_3, .int .i8 a1_4, .int .i8 a1_5] 38 (0, 0)) (kb BK170) NB170_0.out (by simp)); replace HK := am (KeepBut.trans (ke HK) hk (.inl rfl)); replace HB := am (hb); replace HI0 := am (hi); (try clear hb); (try clear hb2); (try clear hk); (try clear hi); obtain ⟨hcz32_0, hcz32_1, hcz32_2, hcz32_3, hcz32_4, hcz32_5, hfz32_0, hfz32_1, hfz32_2, hfz32_3, hfz32_4, hfz32_5⟩ := bx6 BK170) | (go_at_call 110; (with_reducible refine (spec_l01Depth.calls g t172 t173 t174 a1_0 a1_1 t175 t176 t177 t178 w0 _ ?side1 ?side2 A5.out).mono ?_); (case side1 => exact si28 HI0); (case side2 => exact be HB); rintro e w33 ⟨rfl, hi, hb, hk⟩; replace BK170 := am (KeepBut.blk hk (g' := gb170) (o := .cells #[.int .i8 a1_0, .int .i8 a1_1, .int .i8 a1_2, .int .i8 a1_3, .int .i8 a1_4, .int .i8 a1_5] 38 (0, 0)) (kb BK170) NB170_0.out (by simp)); replace HK := am (KeepBut.trans (ke HK) hk (.inl rfl)); replace HB := am (hb); replace HI0 := am (hi); (try clear hb); (try clear hb2); (try clear hk); (try clear hi); obtain ⟨hcz34_0, hcz34_1, hcz34_2, hcz34_3, hcz34_4, hcz34_5, hfz34_0, hfz34_1, hfz34_2, hfz34_3, hfz34_4, hfz34_5⟩ := bx6 BK170) | (go_at_call 164; (with_reducible refine (spec_l00In.calls (wrap64 (a1_2)) 1 60 true _ A7.out).mono ?_); rintro e w' ⟨rfl, ⟨nd, rfl⟩⟩) | (go_at_call 164; (with_reducible refine (spec_l00In.calls (wrap64 (a1_3)) 0 5 false _ A9.out).mono ?_); rintro e w' ⟨rfl, ⟨nd, rfl⟩⟩))
     go_ret
     exact ⟨by first | rfl | (simp [errW_none, errW_some] <;> rfl) | (simp [*, errW_none, errW_some] <;> rfl), si28 HI0, be HB, ke HK⟩
   ·replace c8 := Bool.eq_false_iff.mpr c8
    subst c8
    have H1 : (some (false, t176, t177, t178)) = some (r1, r2, r3, r4) := by rw [if_neg (show ¬ (false = true) by decide)] at H; exact H
    clear H
    have H := H1
    clear H1
    simp only [Option.some.injEq, Prod.mk.injEq] at H
    obtain ⟨rfl, rfl, rfl, rfl⟩ := H
    go_enter Try.func105, Try.ntmps105
    go_wp2_with (first | ((with_reducible refine gate_dst (N := 3) rfl ?_); refine bxe (N := 3) (cs := #[.int .i8 a1_0, .int .i8 a1_1, .int .i8 a1_2, .int .i8 a1_3, .int .i8 a1_4, .int .i8 a1_5]) (t := 38) ?_; intro gb170 hg w35 hbox hb; have BK170 := am (hbox); have GW170 := am (gN hg (keep_size (w := w) (g := g) (row := none) (ke HK))); have GE170 := am (Nat.le_trans HW0.out (gN hg (keep_size (w := w) (g := g) (row := none) (ke HK)))); have NB0_170 := am (nLi hg (IsS28.lt (show IsS28 w0 _ g s0_0 s0_1 s0_2 from si28 HI0))); have NB170_0 := am (nRi hg (IsS28.lt (show IsS28 w0 _ g s0_0 s0_1 s0_2 from si28 HI0))); replace HI0 := am (IsS28.below (si28 HI0) hb); replace HK := am (KeepBut.trans (ke HK) (KeepBut.of_below hb g none) (.inl rfl)); replace HB := am (below_step (be HB) hb); clear hb hbox hg; have hnb36 := NB170_0.out; have hnc36 := NB0_170.out; obtain ⟨hcz37_0, hcz37_1, hcz37_2, hcz37_3, hcz37_4, hcz37_5, hfz37_0, hfz37_1, hfz37_2, hfz37_3, hfz37_4, hfz37_5⟩ := bx6 BK170) | ((with_reducible refine gate_callee (f := 165) rfl ?_); refine gL (some 8) Try.func165 #[.pointer (some ⟨g, 0, none⟩), .agg #[.int .i8 a1_0, .int .i8 a1_1]] ?_; (with_reducible refine (spec_l01Is.calls g s0_0 s0_1 s0_2 a1_0 a1_1 true t172 t173 t174 w0 _ ?side1 ?side2 A3.out).mono ?_); (case side1 => exact si28 HI0); (case side2 => exact be HB); rintro e w38 ⟨rfl, hi, hb, hk⟩; refine ⟨_, rfl, ?_⟩; replace BK170 := am (KeepBut.blk hk (g' := gb170) (o := .cells #[.int .i8 a1_0, .int .i8 a1_1, .int .i8 a1_2, .int .i8 a1_3, .int .i8 a1_4, .int .i8 a1_5] 38 (0, 0)) (kb BK170) NB170_0.out (by simp)); replace HK := am (KeepBut.trans (ke HK) hk (.inl rfl)); replace HB := am (hb); replace HI0 := am (hi); (try clear hb); (try clear hb2); (try clear hk); (try clear hi); obtain ⟨hcz39_0, hcz39_1, hcz39_2, hcz39_3, hcz39_4, hcz39_5, hfz39_0, hfz39_1, hfz39_2, hfz39_3, hfz39_4, hfz39_5⟩ := bx6 BK170) | (go_at_call 110; (with_reducible refine (spec_l01Depth.calls g t172 t173 t174 a1_0 a1_1 t175 t176 t177 t178 w0 _ ?side1 ?side2 A5.out).mono ?_); (case side1 => exact si28 HI0); (case side2 => exact be HB); rintro e w40 ⟨rfl, hi, hb, hk⟩; replace BK170 := am (KeepBut.blk hk (g' := gb170) (o := .cells #[.int .i8 a1_0, .int .i8 a1_1, .int .i8 a1_2, .int .i8 a1_3, .int .i8 a1_4, .int .i8 a1_5] 38 (0, 0)) (kb BK170) NB170_0.out (by simp)); replace HK := am (KeepBut.trans (ke HK) hk (.inl rfl)); replace HB := am (hb); replace HI0 := am (hi); (try clear hb); (try clear hb2); (try clear hk); (try clear hi); obtain ⟨hcz41_0, hcz41_1, hcz41_2, hcz41_3, hcz41_4, hcz41_5, hfz41_0, hfz41_1, hfz41_2, hfz41_3, hfz41_4, hfz41_5⟩ := bx6 BK170) | (go_at_call 164; (with_reducible refine (spec_l00In.calls (wrap64 (a1_2)) 1 60 false _ A7.out).mono ?_); rintro e w' ⟨rfl, ⟨nd, rfl⟩⟩))
    go_ret
    exact ⟨by first | rfl | (simp [errW_none, errW_some] <;> rfl) | (simp [*, errW_none, errW_some] <;> rfl), si28 HI0, be HB, ke HK⟩
  ·rw [if_neg c6] at H
   have c6b0 : decide (0 < t175) = false := decide_eq_false c6
   clear c6
   simp only [Option.some.injEq, Prod.mk.injEq] at H
   obtain ⟨rfl, rfl, rfl, rfl⟩ := H
   go_enter Try.func105, Try.ntmps105
   go_wp2_with (first | ((with_reducible refine gate_dst (N := 3) rfl ?_); refine bxe (N := 3) (cs := #[.int .i8 a1_0, .int .i8 a1_1, .int .i8 a1_2, .int .i8 a1_3, .int .i8 a1_4, .int .i8 a1_5]) (t := 38) ?_; intro gb170 hg w42 hbox hb; have BK170 := am (hbox); have GW170 := am (gN hg (keep_size (w := w) (g := g) (row := none) (ke HK))); have GE170 := am (Nat.le_trans HW0.out (gN hg (keep_size (w := w) (g := g) (row := none) (ke HK)))); have NB0_170 := am (nLi hg (IsS28.lt (show IsS28 w0 _ g s0_0 s0_1 s0_2 from si28 HI0))); have NB170_0 := am (nRi hg (IsS28.lt (show IsS28 w0 _ g s0_0 s0_1 s0_2 from si28 HI0))); replace HI0 := am (IsS28.below (si28 HI0) hb); replace HK := am (KeepBut.trans (ke HK) (KeepBut.of_below hb g none) (.inl rfl)); replace HB := am (below_step (be HB) hb); clear hb hbox hg; have hnb43 := NB170_0.out; have hnc43 := NB0_170.out; obtain ⟨hcz44_0, hcz44_1, hcz44_2, hcz44_3, hcz44_4, hcz44_5, hfz44_0, hfz44_1, hfz44_2, hfz44_3, hfz44_4, hfz44_5⟩ := bx6 BK170) | ((with_reducible refine gate_callee (f := 165) rfl ?_); refine gL (some 8) Try.func165 #[.pointer (some ⟨g, 0, none⟩), .agg #[.int .i8 a1_0, .int .i8 a1_1]] ?_; (with_reducible refine (spec_l01Is.calls g s0_0 s0_1 s0_2 a1_0 a1_1 true t172 t173 t174 w0 _ ?side1 ?side2 A3.out).mono ?_); (case side1 => exact si28 HI0); (case side2 => exact be HB); rintro e w45 ⟨rfl, hi, hb, hk⟩; refine ⟨_, rfl, ?_⟩; replace BK170 := am (KeepBut.blk hk (g' := gb170) (o := .cells #[.int .i8 a1_0, .int .i8 a1_1, .int .i8 a1_2, .int .i8 a1_3, .int .i8 a1_4, .int .i8 a1_5] 38 (0, 0)) (kb BK170) NB170_0.out (by simp)); replace HK := am (KeepBut.trans (ke HK) hk (.inl rfl)); replace HB := am (hb); replace HI0 := am (hi); (try clear hb); (try clear hb2); (try clear hk); (try clear hi); obtain ⟨hcz46_0, hcz46_1, hcz46_2, hcz46_3, hcz46_4, hcz46_5, hfz46_0, hfz46_1, hfz46_2, hfz46_3, hfz46_4, hfz46_5⟩ := bx6 BK170) | (go_at_call 110; (with_reducible refine (spec_l01Depth.calls g t172 t173 t174 a1_0 a1_1 t175 t176 t177 t178 w0 _ ?side1 ?side2 A5.out).mono ?_); (case side1 => exact si28 HI0); (case side2 => exact be HB); rintro e w47 ⟨rfl, hi, hb, hk⟩; replace BK170 := am (KeepBut.blk hk (g' := gb170) (o := .cells #[.int .i8 a1_0, .int .i8 a1_1, .int .i8 a1_2, .int .i8 a1_3, .int .i8 a1_4, .int .i8 a1_5] 38 (0, 0)) (kb BK170) NB170_0.out (by simp)); replace HK := am (KeepBut.trans (ke HK) hk (.inl rfl)); replace HB := am (hb); replace HI0 := am (hi); (try clear hb); (try clear hb2); (try clear hk); (try clear hi)))
   go_ret
   exact ⟨by first | rfl | (simp [errW_none, errW_some] <;> rfl) | (simp [*, errW_none, errW_some] <;> rfl), si28 HI0, be HB, ke HK⟩
 ·replace c4 := Bool.eq_false_iff.mpr c4
  subst c4
  have H1 : (some (false, t172, t173, t174)) = some (r1, r2, r3, r4) := by rw [if_neg (show ¬ (false = true) by decide)] at H; exact H
  clear H
  have H := H1
  clear H1
  simp only [Option.some.injEq, Prod.mk.injEq] at H
  obtain ⟨rfl, rfl, rfl, rfl⟩ := H
  go_enter Try.func105, Try.ntmps105
  go_wp2_with (first | ((with_reducible refine gate_dst (N := 3) rfl ?_); refine bxe (N := 3) (cs := #[.int .i8 a1_0, .int .i8 a1_1, .int .i8 a1_2, .int .i8 a1_3, .int .i8 a1_4, .int .i8 a1_5]) (t := 38) ?_; intro gb170 hg w48 hbox hb; have BK170 := am (hbox); have GW170 := am (gN hg (keep_size (w := w) (g := g) (row := none) (ke HK))); have GE170 := am (Nat.le_trans HW0.out (gN hg (keep_size (w := w) (g := g) (row := none) (ke HK)))); have NB0_170 := am (nLi hg (IsS28.lt (show IsS28 w0 _ g s0_0 s0_1 s0_2 from si28 HI0))); have NB170_0 := am (nRi hg (IsS28.lt (show IsS28 w0 _ g s0_0 s0_1 s0_2 from si28 HI0))); replace HI0 := am (IsS28.below (si28 HI0) hb); replace HK := am (KeepBut.trans (ke HK) (KeepBut.of_below hb g none) (.inl rfl)); replace HB := am (below_step (be HB) hb); clear hb hbox hg; have hnb49 := NB170_0.out; have hnc49 := NB0_170.out; obtain ⟨hcz50_0, hcz50_1, hcz50_2, hcz50_3, hcz50_4, hcz50_5, hfz50_0, hfz50_1, hfz50_2, hfz50_3, hfz50_4, hfz50_5⟩ := bx6 BK170) | ((with_reducible refine gate_callee (f := 165) rfl ?_); refine gL (some 8) Try.func165 #[.pointer (some ⟨g, 0, none⟩), .agg #[.int .i8 a1_0, .int .i8 a1_1]] ?_; (with_reducible refine (spec_l01Is.calls g s0_0 s0_1 s0_2 a1_0 a1_1 false t172 t173 t174 w0 _ ?side1 ?side2 A3.out).mono ?_); (case side1 => exact si28 HI0); (case side2 => exact be HB); rintro e w51 ⟨rfl, hi, hb, hk⟩; refine ⟨_, rfl, ?_⟩; replace BK170 := am (KeepBut.blk hk (g' := gb170) (o := .cells #[.int .i8 a1_0, .int .i8 a1_1, .int .i8 a1_2, .int .i8 a1_3, .int .i8 a1_4, .int .i8 a1_5] 38 (0, 0)) (kb BK170) NB170_0.out (by simp)); replace HK := am (KeepBut.trans (ke HK) hk (.inl rfl)); replace HB := am (hb); replace HI0 := am (hi); (try clear hb); (try clear hb2); (try clear hk); (try clear hi)))
  go_ret
  exact ⟨by first | rfl | (simp [errW_none, errW_some] <;> rfl) | (simp [*, errW_none, errW_some] <;> rfl), si28 HI0, be HB, ke HK⟩

/-! ### spec_l01Asked: function 117 -/
def spec_l01Asked.l0 : Nat → List (S38) → Int → Int → Int → (Nat → Int) → Option (Int × Int × Int × (Nat → Int))
 | 0, _, _, _, _, _ => none
 | k + 1, x1, x5, x1000, x1001, x1002 => if x5 < (x1.length : Int) then (if 0 ≤ x5 then ((spec_l01Boat.f x1000 x1001 x1002 ((rd_T38 x1 x5).f0.f0) ((rd_T38 x1 x5).f0.f1) ((rd_T38 x1 x5).f1) ((rd_T38 x1 x5).f2) ((rd_T38 x1 x5).f3) ((rd_T38 x1 x5).f4)).bind fun bt188 => (if bt188.1 = true then (spec_l01Asked.l0 k x1 (wrap64 (x5 + 1)) bt188.2.1 bt188.2.2.1 bt188.2.2.2) else (some (1, bt188.2.1, bt188.2.2.1, bt188.2.2.2)))) else (none)) else (if (x1.length : Int) > 10 then (some (3, x1000, x1001, x1002)) else (some (0, x1000, x1001, x1002)))
def spec_l01Asked.f (k : Nat) (s0_0 : Int) (s0_1 : Int) (s0_2 : (Nat → Int)) (l1 : List (S38)) : Option (Int × Int × Int × (Nat → Int)) := (spec_l01Bay.f k s0_0 s0_1 s0_2).bind fun bt183 => (if bt183.1 = true then (spec_l01Asked.l0 k l1 0 bt183.2.1 bt183.2.2.1 bt183.2.2.2) else (some (1, bt183.2.1, bt183.2.2.1, bt183.2.2.2)))
set_option maxHeartbeats 8000000 in
set_option maxRecDepth 100000 in
theorem spec_l01Asked.calls (k : Nat) (g : Nat) (s0_0 : Int) (s0_1 : Int) (s0_2 : (Nat → Int)) (A1 : Option Addr) (c1 : Nat) (l1 : List (S38)) (r1 : Int) (r2 : Int) (r3 : Int) (r4 : (Nat → Int)) (w0 w : World) (hI : IsS28 w0 w g s0_0 s0_1 s0_2) (hB : Below w0.heap.size w0 w) (hr1 : ∀ W_, KeepBut w W_ g none → Kd.C k38 W_ A1 l1.length l1) (hc1 : l1.length ≤ c1) (h : spec_l01Asked.f k s0_0 s0_1 s0_2 l1 = some (r1, r2, r3, r4)) :
  Calls Try.prog 117 #[.pointer (some ⟨g, 0, none⟩), .slice A1 l1.length c1] w fun e w' => e = .returned (.int .i64 r1) ∧ IsS28 w0 w' g r2 r3 r4 ∧ Below w0.heap.size w0 w' ∧ KeepBut w w' g none := by
 have hu38 := Try.underlying38
 have HR1 := am hr1
 have HC1 := am hc1
 clear hr1 hc1
 have HI0 := am hI
 have HK := am (KeepBut.refl w g none)
 have HL := am hB.size
 clear hI
 have HW0 := am hB.size
 have HB := am hB
 clear hB
 have H : ((spec_l01Bay.f k s0_0 s0_1 s0_2).bind fun bt183 => (if bt183.1 = true then (spec_l01Asked.l0 k l1 0 bt183.2.1 bt183.2.2.1 bt183.2.2.2) else (some (1, bt183.2.1, bt183.2.2.1, bt183.2.2.2)))) = some (r1, r2, r3, r4) := h
 clear h
 replace H := Option.bind_eq_some_iff.mp H
 obtain ⟨⟨t183, t184, t185, t186⟩, A30, H⟩ := H
 try dsimp only at H
 have A3 := am A30
 clear A30
 by_cases c4 : t183 = true
 ·subst c4
  rw [if_pos rfl] at H
  have H' := am H
  clear H
  go_enter Try.func117, Try.ntmps117
  go_wp2_with (first | ((with_reducible refine gate_callee (f := 103) rfl ?_); refine gL (some 7) Try.func103 #[.pointer (some ⟨g, 0, none⟩)] ?_; (with_reducible refine (spec_l01Bay.calls k g s0_0 s0_1 s0_2 true t184 t185 t186 w0 _ ?side1 ?side2 A3.out).mono ?_); (case side1 => exact si28 HI0); (case side2 => exact be HB); rintro e w5 ⟨rfl, hi, hb, hk⟩; refine ⟨_, rfl, ?_⟩; replace HK := am (KeepBut.trans (ke HK) hk (.inl rfl)); replace HB := am (hb); replace HI0 := am (hi); (try clear hb); (try clear hb2); (try clear hk); (try clear hi)))
  go_loopg [5] k (fun kq v5 w' => ∃ (x5_1 : Int) (x1000_1 : Int) (x1001_1 : Int) (x1002_1 : (Nat → Int)), v5 = .int .i64 x5_1 ∧ Aside0 (spec_l01Asked.l0 kq l1 x5_1 x1000_1 x1001_1 x1002_1 = some (r1, r2, r3, r4)) ∧ Aside0 (kq ≤ k) ∧ Aside0 (IsS28 w0 w' g x1000_1 x1001_1 x1002_1) ∧ Aside0 (KeepBut w w' g none) ∧ Aside0 (Below w0.heap.size w0 w'))
  case atStart => exact ⟨(0), (t184), (t185), (t186), vx, H', ⟨Nat.le_refl _⟩, ⟨si28 HI0⟩, ⟨ke HK⟩, ⟨be HB⟩⟩
  case round =>
   clear H'
   try clear c1
   try clear p2
   try clear c4
   obtain ⟨x5_1, x1000_1, x1001_1, x1002_1, rfl, HA, HK1, HI0, HK, HB⟩ := hrel
   cases gk with
   | zero => exact absurd HA.out (by simp [spec_l01Asked.l0])
   | succ k1 =>
    have H := HA.out
    clear HA
    simp only [spec_l01Asked.l0] at H
    by_cases c6 : x5_1 < (l1.length : Int)
    ·rw [if_pos c6] at H
     have c6b0 : decide (x5_1 < (l1.length : Int)) = true := decide_eq_true c6
     clear c6
     by_cases c7 : 0 ≤ x5_1
     ·rw [if_pos c7] at H
      have c7b0 : decide (0 ≤ x5_1) = true := decide_eq_true c7
      have c7b1 : 0 ≤ x5_1 := c7
      clear c7
      replace H := Option.bind_eq_some_iff.mp H
      obtain ⟨⟨t188, t189, t190, t191⟩, A80, H⟩ := H
      try dsimp only at H
      have A8 := am A80
      clear A80
      by_cases c9 : t188 = true
      ·subst c9
       rw [if_pos rfl] at H
       have H' := am H
       clear H
       have p187 : 0 ≤ (x5_1 : Int) := of_decide_eq_true (by first | (with_reducible assumption) | assumption)
       have q187 : x5_1 < (l1.length : Int) := of_decide_eq_true (by first | (with_reducible assumption) | assumption)
       obtain ⟨ad187, e187, hx187_0, hx187_1, hx187_2, hx187_3, hx187_4, hx187_5⟩ := at_T38 (Kd.C_foot_now HR1.out HK.out) x5_1 p187 q187
       cases e187
       replace p187 := eq_true p187
       replace q187 := eq_true q187
       go_wp2_with (first | ((with_reducible refine gate_callee (f := 105) rfl ?_); refine gL (some 20) Try.func105 #[.pointer (some ⟨g, 0, none⟩), .agg #[.int .i8 ((rd_T38 l1 x5_1).f0.f0), .int .i8 ((rd_T38 l1 x5_1).f0.f1), .int .i8 ((rd_T38 l1 x5_1).f1), .int .i8 ((rd_T38 l1 x5_1).f2), .int .i8 ((rd_T38 l1 x5_1).f3), .int .i8 ((rd_T38 l1 x5_1).f4)]] ?_; (with_reducible refine (spec_l01Boat.calls g x1000_1 x1001_1 x1002_1 ((rd_T38 l1 x5_1).f0.f0) ((rd_T38 l1 x5_1).f0.f1) ((rd_T38 l1 x5_1).f1) ((rd_T38 l1 x5_1).f2) ((rd_T38 l1 x5_1).f3) ((rd_T38 l1 x5_1).f4) true t189 t190 t191 w0 _ ?side1 ?side2 A8.out).mono ?_); (case side1 => exact si28 HI0); (case side2 => exact be HB); rintro e w10 ⟨rfl, hi, hb, hk⟩; refine ⟨_, rfl, ?_⟩; replace HK := am (KeepBut.trans (ke HK) hk (.inl rfl)); replace HB := am (hb); replace HI0 := am (hi); (try clear hb); (try clear hb2); (try clear hk); (try clear hi)))
       go_roundg k1
       case measure => have := HK1.out; omega
       case rel => exact ⟨(wrap64 (x5_1 + 1)), (t189), (t190), (t191), vx, H', ⟨by have := HK1.out; omega⟩, ⟨si28 HI0⟩, ⟨ke HK⟩, ⟨be HB⟩⟩
      ·replace c9 := Bool.eq_false_iff.mpr c9
       subst c9
       have H1 : (some (1, t189, t190, t191)) = some (r1, r2, r3, r4) := by rw [if_neg (show ¬ (false = true) by decide)] at H; exact H
       clear H
       have H := H1
       clear H1
       simp only [Option.some.injEq, Prod.mk.injEq] at H
       obtain ⟨rfl, rfl, rfl, rfl⟩ := H
       have p187 : 0 ≤ (x5_1 : Int) := of_decide_eq_true (by first | (with_reducible assumption) | assumption)
       have q187 : x5_1 < (l1.length : Int) := of_decide_eq_true (by first | (with_reducible assumption) | assumption)
       obtain ⟨ad187, e187, hx187_0, hx187_1, hx187_2, hx187_3, hx187_4, hx187_5⟩ := at_T38 (Kd.C_foot_now HR1.out HK.out) x5_1 p187 q187
       cases e187
       replace p187 := eq_true p187
       replace q187 := eq_true q187
       go_wp2_with (first | ((with_reducible refine gate_callee (f := 105) rfl ?_); refine gL (some 20) Try.func105 #[.pointer (some ⟨g, 0, none⟩), .agg #[.int .i8 ((rd_T38 l1 x5_1).f0.f0), .int .i8 ((rd_T38 l1 x5_1).f0.f1), .int .i8 ((rd_T38 l1 x5_1).f1), .int .i8 ((rd_T38 l1 x5_1).f2), .int .i8 ((rd_T38 l1 x5_1).f3), .int .i8 ((rd_T38 l1 x5_1).f4)]] ?_; (with_reducible refine (spec_l01Boat.calls g x1000_1 x1001_1 x1002_1 ((rd_T38 l1 x5_1).f0.f0) ((rd_T38 l1 x5_1).f0.f1) ((rd_T38 l1 x5_1).f1) ((rd_T38 l1 x5_1).f2) ((rd_T38 l1 x5_1).f3) ((rd_T38 l1 x5_1).f4) false t189 t190 t191 w0 _ ?side1 ?side2 A8.out).mono ?_); (case side1 => exact si28 HI0); (case side2 => exact be HB); rintro e w11 ⟨rfl, hi, hb, hk⟩; refine ⟨_, rfl, ?_⟩; replace HK := am (KeepBut.trans (ke HK) hk (.inl rfl)); replace HB := am (hb); replace HI0 := am (hi); (try clear hb); (try clear hb2); (try clear hk); (try clear hi)))
       go_ret
       exact ⟨by first | rfl | (simp [errW_none, errW_some] <;> rfl) | (simp [*, errW_none, errW_some] <;> rfl), si28 HI0, be HB, ke HK⟩
     ·rw [if_neg c7] at H
      exact absurd H (by simp)
    ·rw [if_neg c6] at H
     have c6b0 : decide (x5_1 < (l1.length : Int)) = false := decide_eq_false c6
     clear c6
     by_cases c12 : (l1.length : Int) > 10
     ·rw [if_pos c12] at H
      have c12b0 : decide (10 < (l1.length : Int)) = true := decide_eq_true c12
      have c12b1 : decide (10 < l1.length) = true := decide_eq_true (by omega)
      clear c12
      simp only [Option.some.injEq, Prod.mk.injEq] at H
      obtain ⟨rfl, rfl, rfl, rfl⟩ := H
      go_wp2
      go_ret
      exact ⟨by first | rfl | (simp [errW_none, errW_some] <;> rfl) | (simp [*, errW_none, errW_some] <;> rfl), si28 HI0, be HB, ke HK⟩
     ·rw [if_neg c12] at H
      have c12b0 : decide (10 < (l1.length : Int)) = false := decide_eq_false c12
      have c12b1 : decide (10 < l1.length) = false := decide_eq_false (by omega)
      clear c12
      simp only [Option.some.injEq, Prod.mk.injEq] at H
      obtain ⟨rfl, rfl, rfl, rfl⟩ := H
      go_wp2
      go_ret
      exact ⟨by first | rfl | (simp [errW_none, errW_some] <;> rfl) | (simp [*, errW_none, errW_some] <;> rfl), si28 HI0, be HB, ke HK⟩
 ·replace c4 := Bool.eq_false_iff.mpr c4
  subst c4
  have H1 : (some (1, t184, t185, t186)) = some (r1, r2, r3, r4) := by rw [if_neg (show ¬ (false = true) by decide)] at H; exact H
  clear H
  have H := H1
  clear H1
  simp only [Option.some.injEq, Prod.mk.injEq] at H
  obtain ⟨rfl, rfl, rfl, rfl⟩ := H
  go_enter Try.func117, Try.ntmps117
  go_wp2_with (first | ((with_reducible refine gate_callee (f := 103) rfl ?_); refine gL (some 7) Try.func103 #[.pointer (some ⟨g, 0, none⟩)] ?_; (with_reducible refine (spec_l01Bay.calls k g s0_0 s0_1 s0_2 false t184 t185 t186 w0 _ ?side1 ?side2 A3.out).mono ?_); (case side1 => exact si28 HI0); (case side2 => exact be HB); rintro e w13 ⟨rfl, hi, hb, hk⟩; refine ⟨_, rfl, ?_⟩; replace HK := am (KeepBut.trans (ke HK) hk (.inl rfl)); replace HB := am (hb); replace HI0 := am (hi); (try clear hb); (try clear hb2); (try clear hk); (try clear hi)))
  go_ret
  exact ⟨by first | rfl | (simp [errW_none, errW_some] <;> rfl) | (simp [*, errW_none, errW_some] <;> rfl), si28 HI0, be HB, ke HK⟩

end Go.Proofs.Ytcollbifdfhfoaa.PFnExactAllAfloat
