-- Written by a program out of this seat's translation (functions, and that the code comes to them).
import Derived.Test.YtcollbifdfhfoaaPFnExactTouchPairsx0
import Derived.Test.YtcollbifdfhfoaaPFnExactTouchPairsx2
import Derived.Test.YtcollbifdfhfoaaPFnExactTouchPairsx3
import Derived.Test.YtcollbifdfhfoaaPFnExactTouchPairsx4
namespace Go.Proofs.Ytcollbifdfhfoaa.PFnExactTouchPairs
open Go.RowKit Go.Proofs.YtcollbifdfhfoaaW.PrintWords Go.Proofs.YtcollbifdfhfoaaW.PrintLast Go.Proofs.YtcollbifdfhfoaaW.PrintMore
attribute [local go_sem] max2_int min2_int max_two min_two max_three min_three max_four min_four   -- for this text's walks alone
open Go.Proofs.Ytcollbifdfhfoaa.Bay Go.Proofs.Ytcollbifdfhfoaa.Short
attribute [local go_sem ↓] lv26_eq lv28_eq
attribute [local go_sem] lvv_set lvv_drewN lvv_drew lv26_run BayAt26_set BayAt26_drewN BayAt26_drew lv28_run BayAt28_set BayAt28_drewN BayAt28_drew
set_option linter.unusedVariables false
set_option linter.unusedSimpArgs false

/-! ### spec_TouchPairs: function 54 -/
mutual
def spec_TouchPairs.l0 : Nat → List (S38) → List (S82) → Int → Int → Int → (Nat → Int) → Option ((List (S82)) × Int)
 | 0, _, _, _, _, _, _ => none
 | k + 1, x1, x6, x8, x181000, x181001, x181002 => if x8 < (x1.length : Int) then (spec_TouchPairs.l1 k x1 x6 x8 (wrap64 (x8 + 1)) x181000 x181001 x181002) else (some (x6, 0))
def spec_TouchPairs.l1 : Nat → List (S38) → List (S82) → Int → Int → Int → Int → (Nat → Int) → Option ((List (S82)) × Int)
 | 0, _, _, _, _, _, _, _ => none
 | k + 1, x1, x6, x8, x9, x181000, x181001, x181002 => if x9 < (x1.length : Int) then (if 0 ≤ x8 then (if x8 < (x1.length : Int) then (if 0 ≤ x9 then ((spec_l01Touch.f k x181000 x181001 x181002 ((rd_T38 x1 x8).f0.f0) ((rd_T38 x1 x8).f0.f1) ((rd_T38 x1 x8).f1) ((rd_T38 x1 x8).f2) ((rd_T38 x1 x8).f3) ((rd_T38 x1 x8).f4) ((rd_T38 x1 x9).f0.f0) ((rd_T38 x1 x9).f0.f1) ((rd_T38 x1 x9).f1) ((rd_T38 x1 x9).f2) ((rd_T38 x1 x9).f3) ((rd_T38 x1 x9).f4)).bind fun bt190 => (if bt190.1 = true then (if x6.length < 8796093022208 then (spec_TouchPairs.l1 k x1 (x6 ++ [(⟨x8, x9⟩ : S82)]) x8 (wrap64 (x9 + 1)) bt190.2.1 bt190.2.2.1 bt190.2.2.2) else (none)) else (spec_TouchPairs.l1 k x1 x6 x8 (wrap64 (x9 + 1)) bt190.2.1 bt190.2.2.1 bt190.2.2.2))) else (none)) else (none)) else (none)) else (spec_TouchPairs.l0 k x1 x6 (wrap64 (x8 + 1)) x181000 x181001 x181002)
end
def spec_TouchPairs.f (k : Nat) (a0_0 : Int) (a0_1 : Int) (a0_2 : (Nat → Int)) (l1 : List (S38)) : Option ((List (S82)) × Int) := (some (([] : List (S82)) : List (S82))).bind fun y181 => ((spec_l01Asked.f k a0_0 a0_1 a0_2 l1).bind fun bt184 => (if bt184.1 = 0 then (spec_TouchPairs.l0 k l1 y181 0 bt184.2.1 bt184.2.2.1 bt184.2.2.2) else (some (y181, bt184.1))))
def spec_TouchPairs.T11 : Bool × List (List Nat × List Nat) := (true, [([], []), ([], []), ([0, 1], [0, 1]), ([2], [2]), ([], []), ([], []), ([4, 5], [4, 5]), ([6], [6]), ([3, 7], [3, 7])])
def spec_TouchPairs.B11 : List Nat := [0, 0, 3, 7, 0, 0, 48, 112, 255]
theorem spec_TouchPairs.tab11 : rtab .any (opsOf Try.f54 11) = spec_TouchPairs.T11 := by kernel_rfl
theorem spec_TouchPairs.bits11 : waitsOk spec_TouchPairs.T11.2 spec_TouchPairs.B11 = true := by kernel_rfl
set_option maxHeartbeats 8000000 in
set_option maxRecDepth 100000 in
theorem spec_TouchPairs.calls (k : Nat) (a0_0 : Int) (a0_1 : Int) (a0_2 : (Nat → Int)) (A1 : Option Addr) (c1 : Nat) (l1 : List (S38)) (r1 : List (S82)) (r2 : Int) (w : World) (hr1 : Kd.C k38 w A1 l1.length l1) (hc1 : l1.length ≤ c1) (h : spec_TouchPairs.f k a0_0 a0_1 a0_2 l1 = some (r1, r2)) :
  Calls Try.prog 54 #[.agg (csBay a0_0 a0_1 a0_2), .slice A1 l1.length c1] w fun e w' => ∃ v0_ : Value, e = .returned (.tuple #[v0_, .int .i64 r2]) ∧ Kd.R k82 82 w' w.heap.size (fun _ => True) v0_ r1 ∧ Below w.heap.size w w' := by
 have hu28 := Try.underlying28
 have hu38 := Try.underlying38
 have hu82 := Try.underlying82
 have HR1 := am hr1
 have HC1 := am hc1
 clear hr1 hc1
 have HB := am (Below.refl w.heap.size w)
 have H : ((some (([] : List (S82)) : List (S82))).bind fun y181 => ((spec_l01Asked.f k a0_0 a0_1 a0_2 l1).bind fun bt184 => (if bt184.1 = 0 then (spec_TouchPairs.l0 k l1 y181 0 bt184.2.1 bt184.2.2.1 bt184.2.2.2) else (some (y181, bt184.1))))) = some (r1, r2) := h
 clear h
 obtain ⟨y181, hy181⟩ : ∃ y_ : List (S82), y_ = (([] : List (S82))) := ⟨_, rfl⟩
 replace H : ((spec_l01Asked.f k a0_0 a0_1 a0_2 l1).bind fun bt184 => (if bt184.1 = 0 then (spec_TouchPairs.l0 k l1 y181 0 bt184.2.1 bt184.2.2.1 bt184.2.2.2) else (some (y181, bt184.1)))) = some (r1, r2) := by first | (rw [hy181]; with_reducible exact H) | (have H2_ := (Option.bind_some _ _).symm.trans H; rw [hy181]; with_reducible exact H2_) | (have H2_ := (Option.bind_some _ _).symm.trans H; with_reducible exact H2_) | with_reducible exact H | (rw [hy181]; exact H) | exact H
 have Ny181 := am hy181
 clear hy181
 replace H := Option.bind_eq_some_iff.mp H
 obtain ⟨⟨t184, t185, t186, t187⟩, A30, H⟩ := H
 try dsimp only at H
 have A3 := am A30
 clear A30
 by_cases c4 : t184 = 0
 ·rw [if_pos c4] at H
  have c4b0 : (t184 == 0) = true := beq_iff_eq.mpr c4
  have c4b1 : (t184 != 0) = false := bne_eq_false_iff_eq.mpr c4
  clear c4
  have H' := am H
  clear H
  go_enter Try.func54, Try.ntmps54
  go_wp2_with (first | ((with_reducible refine gate_dst (N := 2) rfl ?_); refine bxe (N := 2) (cs := (csBay a0_0 a0_1 a0_2)) (t := 28) ?_; intro gb180 hg w5 hbox hb; have HI180 := am ((show IsS28 w w5 gb180 a0_0 a0_1 a0_2 from ⟨hbox, by rw [hg]; exact (below_size (be HB))⟩)); have GW180 := am (gN hg (below_size (be HB))); have GE180 := am (gN hg (below_size (be HB))); replace HB := am (below_step (be HB) hb); clear hb hbox hg) | ((with_reducible refine gate_dst (N := 10) rfl ?_); refine Kd.R_lit k82 _ 82 ?hg (N := 10) ?hd (xs := ([] : List (S82))) (inner := []) (ok := fun _ => True) (okp := fun _ => True) ?hr ?hp (fun _ hk => hk) trivial (Below.refl _ _) (Nat.le_refl _) (by simp) ?_; (case hd => rfl); (case hg => rfl); (case hr => first | (go_simp; done) | (go_simp; rfl)); (case hp => exact (Reps.none _ _)); intro v182 w6 ho7 hb hg_ hnew_; clear hg_ hnew_; (first | rw [← Ny181.out] at ho7 | (simp only [Int.reduceToNat] at ho7; rw [← Ny181.out] at ho7)); have HO183 := am (Kd.R_lower ho7 (below_size (be HB))); replace HI180 := am (IsS28.below (si28 HI180) hb); replace HB := am (below_step (be HB) hb); clear hb ho7) | ((with_reducible refine gate_callee (f := 117) rfl ?_); refine gL (some 12) Try.func117 #[.pointer (some ⟨gb180, 0, none⟩), .slice A1 l1.length c1] ?_; (with_reducible refine (spec_l01Asked.calls k gb180 a0_0 a0_1 a0_2 _ _ l1 t184 t185 t186 t187 w _ ?side1 ?side2 ?side3 ?side4 A3.out).mono ?_); (case side1 => exact si28 HI180); (case side2 => exact be HB); (case side3 => exact Kd.C_foot_came k38_heap HR1.out (be HB) (IsS28.ge HI180.out)); (case side4 => exact HC1.out); rintro e w8 ⟨rfl, hi, hb, hk⟩; refine ⟨_, rfl, ?_⟩; replace HO183 := am (Kd.R_mono (Kd.R_keep (IsS28.apart (show IsS28 w _ gb180 a0_0 a0_1 a0_2 from si28 HI180) (kr HO183) (by decide)) hk (fun _ h => h.2)) (fun _ h => h.1)); replace HB := am (hb); replace HI180 := am (hi); (try clear hb); (try clear hb2); (try clear hk); (try clear hi)))
  go_loopg [6, 8] k (fun kq v6 v8 w' => ∃ (x6_1 : List (S82)) (x8_1 : Int) (x181000_1 : Int) (x181001_1 : Int) (x181002_1 : (Nat → Int)), v8 = .int .i64 x8_1 ∧ Aside0 (spec_TouchPairs.l0 kq l1 x6_1 x8_1 x181000_1 x181001_1 x181002_1 = some (r1, r2)) ∧ Aside0 (kq ≤ k) ∧ Aside0 (Kd.R k82 82 w' w.heap.size (fun _ => True) v6 x6_1) ∧ Aside0 (IsS28 w w' gb180 x181000_1 x181001_1 x181002_1) ∧ Aside0 (Below w.heap.size w w'))
  case atStart => exact ⟨(y181), (0), (t185), (t186), (t187), vx, H', ⟨Nat.le_refl _⟩, ⟨kr HO183⟩, ⟨si28 HI180⟩, ⟨be HB⟩⟩
  case round =>
   clear H'
   try clear c1
   try clear p2
   try clear c4
   try clear c4b0
   try clear c4b1
   try clear c5
   obtain ⟨x6_1, x8_1, x181000_1, x181001_1, x181002_1, rfl, HA, HK1, HO_6, HI180, HB⟩ := hrel
   cases gk with
   | zero => exact absurd HA.out (by simp [spec_TouchPairs.l0])
   | succ k1 =>
    have H := HA.out
    clear HA
    simp only [spec_TouchPairs.l0] at H
    by_cases c9 : x8_1 < (l1.length : Int)
    ·rw [if_pos c9] at H
     have c9b0 : decide (x8_1 < (l1.length : Int)) = true := decide_eq_true c9
     clear c9
     have H' := am H
     clear H
     go_wp2
     go_loopg [6, 9] k1 (fun kq v6 v9 w' => ∃ (x6_2 : List (S82)) (x9_2 : Int) (x181000_2 : Int) (x181001_2 : Int) (x181002_2 : (Nat → Int)), v9 = .int .i64 x9_2 ∧ Aside0 (spec_TouchPairs.l1 kq l1 x6_2 x8_1 x9_2 x181000_2 x181001_2 x181002_2 = some (r1, r2)) ∧ Aside0 (kq ≤ k1) ∧ Aside0 (Kd.R k82 82 w' w.heap.size (fun _ => True) v6 x6_2) ∧ Aside0 (IsS28 w w' gb180 x181000_2 x181001_2 x181002_2) ∧ Aside0 (Below w.heap.size w w'))
     case atStart => exact ⟨(x6_1), (wrap64 (x8_1 + 1)), (x181000_1), (x181001_1), (x181002_1), vx, H', ⟨Nat.le_refl _⟩, ⟨kr HO_6⟩, ⟨si28 HI180⟩, ⟨be HB⟩⟩
     case round =>
      clear H'
      try clear c1
      try clear p2
      try clear c4
      try clear c4b0
      try clear c4b1
      try clear c5
      try clear p6
      try clear c9
      try clear c9b0
      try clear p2
      obtain ⟨x6_2, x9_2, x181000_2, x181001_2, x181002_2, rfl, HA, HK2, HO_6, HI180, HB⟩ := hrel
      cases gk with
      | zero => exact absurd HA.out (by simp [spec_TouchPairs.l1])
      | succ k2 =>
       have H := HA.out
       clear HA
       simp only [spec_TouchPairs.l1] at H
       by_cases c10 : x9_2 < (l1.length : Int)
       ·rw [if_pos c10] at H
        have c10b0 : decide (x9_2 < (l1.length : Int)) = true := decide_eq_true c10
        clear c10
        by_cases c11 : 0 ≤ x8_1
        ·rw [if_pos c11] at H
         have c11b0 : decide (0 ≤ x8_1) = true := decide_eq_true c11
         have c11b1 : 0 ≤ x8_1 := c11
         clear c11
         by_cases c12 : x8_1 < (l1.length : Int)
         ·rw [if_pos c12] at H
          have c12b0 : decide (x8_1 < (l1.length : Int)) = true := decide_eq_true c12
          clear c12
          by_cases c13 : 0 ≤ x9_2
          ·rw [if_pos c13] at H
           have c13b0 : decide (0 ≤ x9_2) = true := decide_eq_true c13
           have c13b1 : 0 ≤ x9_2 := c13
           clear c13
           replace H := Option.bind_eq_some_iff.mp H
           obtain ⟨⟨t190, t191, t192, t193⟩, A140, H⟩ := H
           try dsimp only at H
           have A14 := am A140
           clear A140
           by_cases c15 : t190 = true
           ·subst c15
            rw [if_pos rfl] at H
            by_cases c16 : x6_2.length < 8796093022208
            ·rw [if_pos c16] at H
             have LMc16 := am c16
             clear c16
             obtain ⟨y194, hy194⟩ : ∃ y_ : List (S82), y_ = (x6_2 ++ [(⟨x8_1, x9_2⟩ : S82)]) := ⟨_, rfl⟩
             replace H : (spec_TouchPairs.l1 k2 l1 y194 x8_1 (wrap64 (x9_2 + 1)) t191 t192 t193) = some (r1, r2) := by first | (rw [hy194]; with_reducible exact H) | (have H2_ := (Option.bind_some _ _).symm.trans H; rw [hy194]; with_reducible exact H2_) | (have H2_ := (Option.bind_some _ _).symm.trans H; with_reducible exact H2_) | with_reducible exact H | (rw [hy194]; exact H) | exact H
             have Ny194 := am hy194
             clear hy194
             have H' := am H
             clear H
             try go_wp2
             have n0_ := am (Kd.R_drew HO_6.out)
             have n1_ := am (IsS28.drew HI180.out)
             have n2_ := am (below_drew1 HB.out)
             clear HO_6
             clear HI180
             clear HB
             have HO_6 := n0_
             have HI180 := n1_
             have HB := n2_
             clear n0_ n1_ n2_
             have p188 : 0 ≤ (x8_1 : Int) := of_decide_eq_true (by first | (with_reducible assumption) | assumption)
             have q188 : x8_1 < (l1.length : Int) := of_decide_eq_true (by first | (with_reducible assumption) | assumption)
             obtain ⟨ad188, e188, hx188_0, hx188_1, hx188_2, hx188_3, hx188_4, hx188_5⟩ := at_T38 HR1.out x8_1 p188 q188
             have hw188_5 := hx188_5
             have hw188_4 := hx188_4
             have hw188_3 := hx188_3
             have hw188_2 := hx188_2
             have hw188_1 := hx188_1
             have hw188_0 := hx188_0
             cases e188
             replace hx188_0 := (HB.out.cell (World.block_lt_of_cell? w _ hx188_0)).trans hx188_0
             replace hx188_1 := (HB.out.cell (World.block_lt_of_cell? w _ hx188_1)).trans hx188_1
             replace hx188_2 := (HB.out.cell (World.block_lt_of_cell? w _ hx188_2)).trans hx188_2
             replace hx188_3 := (HB.out.cell (World.block_lt_of_cell? w _ hx188_3)).trans hx188_3
             replace hx188_4 := (HB.out.cell (World.block_lt_of_cell? w _ hx188_4)).trans hx188_4
             replace hx188_5 := (HB.out.cell (World.block_lt_of_cell? w _ hx188_5)).trans hx188_5
             replace p188 := eq_true p188
             replace q188 := eq_true q188
             have p189 : 0 ≤ (x9_2 : Int) := of_decide_eq_true (by first | (with_reducible assumption) | assumption)
             have q189 : x9_2 < (l1.length : Int) := of_decide_eq_true (by first | (with_reducible assumption) | assumption)
             obtain ⟨ad189, e189, hx189_0, hx189_1, hx189_2, hx189_3, hx189_4, hx189_5⟩ := at_T38 HR1.out x9_2 p189 q189
             have hw189_5 := hx189_5
             have hw189_4 := hx189_4
             have hw189_3 := hx189_3
             have hw189_2 := hx189_2
             have hw189_1 := hx189_1
             have hw189_0 := hx189_0
             obtain rfl : ad188 = ad189 := (by injection e189)
             replace hx189_0 := (HB.out.cell (World.block_lt_of_cell? w _ hx189_0)).trans hx189_0
             replace hx189_1 := (HB.out.cell (World.block_lt_of_cell? w _ hx189_1)).trans hx189_1
             replace hx189_2 := (HB.out.cell (World.block_lt_of_cell? w _ hx189_2)).trans hx189_2
             replace hx189_3 := (HB.out.cell (World.block_lt_of_cell? w _ hx189_3)).trans hx189_3
             replace hx189_4 := (HB.out.cell (World.block_lt_of_cell? w _ hx189_4)).trans hx189_4
             replace hx189_5 := (HB.out.cell (World.block_lt_of_cell? w _ hx189_5)).trans hx189_5
             replace p189 := eq_true p189
             replace q189 := eq_true q189
             refine start_ (n := 9) (S := fun w' => w'.cell? (ad188.add ((x8_1).toNat * 6)) = some (.int .i8 ((rd_T38 l1 x8_1).f0.f0)) ∧ w'.cell? ⟨(ad188.add ((x8_1).toNat * 6)).block, (ad188.add ((x8_1).toNat * 6)).off + 1, none⟩ = some (.int .i8 ((rd_T38 l1 x8_1).f0.f1)) ∧ w'.cell? ⟨(ad188.add ((x8_1).toNat * 6)).block, (ad188.add ((x8_1).toNat * 6)).off + 2, none⟩ = some (.int .i8 ((rd_T38 l1 x8_1).f1)) ∧ w'.cell? ⟨(ad188.add ((x8_1).toNat * 6)).block, (ad188.add ((x8_1).toNat * 6)).off + 3, none⟩ = some (.int .i8 ((rd_T38 l1 x8_1).f2)) ∧ w'.cell? ⟨(ad188.add ((x8_1).toNat * 6)).block, (ad188.add ((x8_1).toNat * 6)).off + 4, none⟩ = some (.int .i8 ((rd_T38 l1 x8_1).f3)) ∧ w'.cell? ⟨(ad188.add ((x8_1).toNat * 6)).block, (ad188.add ((x8_1).toNat * 6)).off + 5, none⟩ = some (.int .i8 ((rd_T38 l1 x8_1).f4)) ∧ w'.cell? (ad188.add ((x9_2).toNat * 6)) = some (.int .i8 ((rd_T38 l1 x9_2).f0.f0)) ∧ w'.cell? ⟨(ad188.add ((x9_2).toNat * 6)).block, (ad188.add ((x9_2).toNat * 6)).off + 1, none⟩ = some (.int .i8 ((rd_T38 l1 x9_2).f0.f1)) ∧ w'.cell? ⟨(ad188.add ((x9_2).toNat * 6)).block, (ad188.add ((x9_2).toNat * 6)).off + 2, none⟩ = some (.int .i8 ((rd_T38 l1 x9_2).f1)) ∧ w'.cell? ⟨(ad188.add ((x9_2).toNat * 6)).block, (ad188.add ((x9_2).toNat * 6)).off + 3, none⟩ = some (.int .i8 ((rd_T38 l1 x9_2).f2)) ∧ w'.cell? ⟨(ad188.add ((x9_2).toNat * 6)).block, (ad188.add ((x9_2).toNat * 6)).off + 4, none⟩ = some (.int .i8 ((rd_T38 l1 x9_2).f3)) ∧ w'.cell? ⟨(ad188.add ((x9_2).toNat * 6)).block, (ad188.add ((x9_2).toNat * 6)).off + 5, none⟩ = some (.int .i8 ((rd_T38 l1 x9_2).f4))) (ds := []) #[false, false, false, false, false, false, false, false, false] (by kernel_rfl) rfl rfl ⟨((HB.out.cell (World.block_lt_of_cell? w _ hw188_0)).trans hw188_0), ((HB.out.cell (World.block_lt_of_cell? w _ hw188_1)).trans hw188_1), ((HB.out.cell (World.block_lt_of_cell? w _ hw188_2)).trans hw188_2), ((HB.out.cell (World.block_lt_of_cell? w _ hw188_3)).trans hw188_3), ((HB.out.cell (World.block_lt_of_cell? w _ hw188_4)).trans hw188_4), ((HB.out.cell (World.block_lt_of_cell? w _ hw188_5)).trans hw188_5), ((HB.out.cell (World.block_lt_of_cell? w _ hw189_0)).trans hw189_0), ((HB.out.cell (World.block_lt_of_cell? w _ hw189_1)).trans hw189_1), ((HB.out.cell (World.block_lt_of_cell? w _ hw189_2)).trans hw189_2), ((HB.out.cell (World.block_lt_of_cell? w _ hw189_3)).trans hw189_3), ((HB.out.cell (World.block_lt_of_cell? w _ hw189_4)).trans hw189_4), ((HB.out.cell (World.block_lt_of_cell? w _ hw189_5)).trans hw189_5)⟩ (fun hHeld => ?_); refine with_tabW spec_TouchPairs.tab11 spec_TouchPairs.bits11 (fun HT_ HW_ => ?_)
             generalize wr.drew = w17 at HO_6 HI180 HB hx188_0 hx188_1 hx188_2 hx188_3 hx188_4 hx188_5 hx189_0 hx189_1 hx189_2 hx189_3 hx189_4 hx189_5 hHeld ⊢
             refine pS (i := 0) (some 31) #[true, false, false, false, false, false, false, false, false] (any_of HT_.out (by kernel_rfl)) ?_
             refine pS (i := 1) (some 32) #[true, true, false, false, false, false, false, false, false] (any_of HT_.out (by kernel_rfl)) ?_
             refine pS (i := 2) (some 33) #[true, true, true, false, false, false, false, false, false] (any_of HT_.out (by kernel_rfl)) ?_
             refine pS (i := 4) (some 35) #[true, true, true, false, true, false, false, false, false] (any_of HT_.out (by kernel_rfl)) ?_
             refine pS (i := 5) (some 36) #[true, true, true, false, true, true, false, false, false] (any_of HT_.out (by kernel_rfl)) ?_
             refine pS (i := 6) (some 37) #[true, true, true, false, true, true, true, false, false] (any_of HT_.out (by kernel_rfl)) ?_
             refine tS (i := 3) (some 34) #[true, true, true, true, true, true, true, false, false] (take_ofW HT_.out HW_.out (by kernel_rfl)) hHeld ?_
             refine tS (i := 7) (some 38) #[true, true, true, true, true, true, true, true, false] (take_ofW HT_.out HW_.out (by kernel_rfl)) hHeld ?_
             refine one_ (i := 8) (N := some 39) #[true, true, true, true, true, true, true, true, true] rfl rfl (one_of HT_.out (by kernel_rfl)) (by decide) (fun K hK => ?_)
             refine goes_ Try.func118 (by kernel_rfl) rfl #[.pointer (some ⟨gb180, 0, none⟩), .agg #[.int .i8 ((rd_T38 l1 x8_1).f0.f0), .int .i8 ((rd_T38 l1 x8_1).f0.f1), .int .i8 ((rd_T38 l1 x8_1).f1), .int .i8 ((rd_T38 l1 x8_1).f2), .int .i8 ((rd_T38 l1 x8_1).f3), .int .i8 ((rd_T38 l1 x8_1).f4)], .agg #[.int .i8 ((rd_T38 l1 x9_2).f0.f0), .int .i8 ((rd_T38 l1 x9_2).f0.f1), .int .i8 ((rd_T38 l1 x9_2).f1), .int .i8 ((rd_T38 l1 x9_2).f2), .int .i8 ((rd_T38 l1 x9_2).f3), .int .i8 ((rd_T38 l1 x9_2).f4)]] (by rfl) rfl rfl (by (try simp only [List.map_toArray, List.map_cons, List.map_nil]); first | done | rfl | (simp only [List.length_drop, List.length_take]; rfl)) ?_
             with_reducible refine (spec_l01Touch.calls k2 gb180 x181000_2 x181001_2 x181002_2 ((rd_T38 l1 x8_1).f0.f0) ((rd_T38 l1 x8_1).f0.f1) ((rd_T38 l1 x8_1).f1) ((rd_T38 l1 x8_1).f2) ((rd_T38 l1 x8_1).f3) ((rd_T38 l1 x8_1).f4) ((rd_T38 l1 x9_2).f0.f0) ((rd_T38 l1 x9_2).f0.f1) ((rd_T38 l1 x9_2).f1) ((rd_T38 l1 x9_2).f2) ((rd_T38 l1 x9_2).f3) ((rd_T38 l1 x9_2).f4) true t191 t192 t193 w _ ?side1 ?side2 A14.out).mono ?_
             (case side1 => exact si28 HI180)
             (case side2 => exact be HB)
             rintro e w18 ⟨rfl, hi, hb, hk⟩
             refine ⟨_, rfl, ?_⟩
             have n0_ := am (Kd.R_mono (Kd.R_keep (IsS28.apart (show IsS28 w _ gb180 x181000_2 x181001_2 x181002_2 from si28 HI180) (kr HO_6) (by decide)) hk (fun _ h => h.2)) (fun _ h => h.1))
             have n1_ := am (hb)
             have n2_ := am (hi)
             clear HO_6
             clear HB
             clear HI180
             have HO_6 := n0_
             have HB := n1_
             have HI180 := n2_
             clear n0_ n1_ n2_
             (try clear hb)
             (try clear hb2)
             (try clear hk)
             (try clear hi)
             refine hK.out _ _ ⟨((HB.out.cell (World.block_lt_of_cell? w _ hw188_0)).trans hw188_0), ((HB.out.cell (World.block_lt_of_cell? w _ hw188_1)).trans hw188_1), ((HB.out.cell (World.block_lt_of_cell? w _ hw188_2)).trans hw188_2), ((HB.out.cell (World.block_lt_of_cell? w _ hw188_3)).trans hw188_3), ((HB.out.cell (World.block_lt_of_cell? w _ hw188_4)).trans hw188_4), ((HB.out.cell (World.block_lt_of_cell? w _ hw188_5)).trans hw188_5), ((HB.out.cell (World.block_lt_of_cell? w _ hw189_0)).trans hw189_0), ((HB.out.cell (World.block_lt_of_cell? w _ hw189_1)).trans hw189_1), ((HB.out.cell (World.block_lt_of_cell? w _ hw189_2)).trans hw189_2), ((HB.out.cell (World.block_lt_of_cell? w _ hw189_3)).trans hw189_3), ((HB.out.cell (World.block_lt_of_cell? w _ hw189_4)).trans hw189_4), ((HB.out.cell (World.block_lt_of_cell? w _ hw189_5)).trans hw189_5)⟩ (fun hHeld => ?_)
             clear hK K
             refine norm_ (a' := ?_) ?_ ?_
             rotate_left
             ·show Act.put _ (some 39) _ = _
              simp only [Act.put, List.setIfInBounds_toArray, List.set_cons_zero, List.set_cons_succ, i64_w, i32_w]
              rfl
             refine done_ (done_of HT_.out (by kernel_rfl)) ?_
             try go_wp2_with (first | ((with_reducible refine gate_builtin (b := .append) (xs := #[.tmp 40, .tmp 44]) rfl ?_); at_builtin; refine Kd.R_append k82 (w0 := w) w.heap.size rfl (.tmp 40) (.tmp 44) 61 82 (.agg #[(.int .i64 0), (.int .i64 0)]) 16 rfl Try.underlying61 info82 rfl (by decide) (by omega) u6 x6_2 (⟨x8_1, x9_2⟩ : S82) [.int .i64 x8_1, .int .i64 x9_2] (fun _ => True) (fun _ => False) rfl rfl ?aP (fun _ hk => hk.elim) ?aF ?aO ?aB ?aS ?aL ?_; (case aP => exact k82_mkM _ _ _ (⟨x8_1, x9_2⟩ : S82)); (case aB => exact (be HB)); (case aF => exact (fun _ _ => trivial)); (case aO => exact (kr HO_6)); (case aS => exact (below_size (be HB))); (case aL => have := LMc16.out; omega); intro v195 w19 ho hb hg hat; rw [← Ny194.out] at ho; have HO196 := am (ho); replace HI180 := am (IsS28.grown (si28 HI180) hg (IsS28.own_ne HI180.out HO_6.out (by decide))); replace HB := am (hb); clear HO_6; clear ho hb hg hat))
             go_roundg k2
             case measure => have := HK1.out; have := HK2.out; omega
             case rel => exact ⟨(y194), (wrap64 (x9_2 + 1)), (t191), (t192), (t193), vx, H', ⟨by have := HK1.out; have := HK2.out; omega⟩, ⟨kr HO196⟩, ⟨si28 HI180⟩, ⟨be HB⟩⟩
            ·rw [if_neg c16] at H
             exact absurd H (by simp)
           ·replace c15 := Bool.eq_false_iff.mpr c15
            subst c15
            have H1 : (spec_TouchPairs.l1 k2 l1 x6_2 x8_1 (wrap64 (x9_2 + 1)) t191 t192 t193) = some (r1, r2) := by rw [if_neg (show ¬ (false = true) by decide)] at H; exact H
            clear H
            have H := H1
            clear H1
            have H' := am H
            clear H
            try go_wp2
            have n0_ := am (Kd.R_drew HO_6.out)
            have n1_ := am (IsS28.drew HI180.out)
            have n2_ := am (below_drew1 HB.out)
            clear HO_6
            clear HI180
            clear HB
            have HO_6 := n0_
            have HI180 := n1_
            have HB := n2_
            clear n0_ n1_ n2_
            have p188 : 0 ≤ (x8_1 : Int) := of_decide_eq_true (by first | (with_reducible assumption) | assumption)
            have q188 : x8_1 < (l1.length : Int) := of_decide_eq_true (by first | (with_reducible assumption) | assumption)
            obtain ⟨ad188, e188, hx188_0, hx188_1, hx188_2, hx188_3, hx188_4, hx188_5⟩ := at_T38 HR1.out x8_1 p188 q188
            have hw188_5 := hx188_5
            have hw188_4 := hx188_4
            have hw188_3 := hx188_3
            have hw188_2 := hx188_2
            have hw188_1 := hx188_1
            have hw188_0 := hx188_0
            cases e188
            replace hx188_0 := (HB.out.cell (World.block_lt_of_cell? w _ hx188_0)).trans hx188_0
            replace hx188_1 := (HB.out.cell (World.block_lt_of_cell? w _ hx188_1)).trans hx188_1
            replace hx188_2 := (HB.out.cell (World.block_lt_of_cell? w _ hx188_2)).trans hx188_2
            replace hx188_3 := (HB.out.cell (World.block_lt_of_cell? w _ hx188_3)).trans hx188_3
            replace hx188_4 := (HB.out.cell (World.block_lt_of_cell? w _ hx188_4)).trans hx188_4
            replace hx188_5 := (HB.out.cell (World.block_lt_of_cell? w _ hx188_5)).trans hx188_5
            replace p188 := eq_true p188
            replace q188 := eq_true q188
            have p189 : 0 ≤ (x9_2 : Int) := of_decide_eq_true (by first | (with_reducible assumption) | assumption)
            have q189 : x9_2 < (l1.length : Int) := of_decide_eq_true (by first | (with_reducible assumption) | assumption)
            obtain ⟨ad189, e189, hx189_0, hx189_1, hx189_2, hx189_3, hx189_4, hx189_5⟩ := at_T38 HR1.out x9_2 p189 q189
            have hw189_5 := hx189_5
            have hw189_4 := hx189_4
            have hw189_3 := hx189_3
            have hw189_2 := hx189_2
            have hw189_1 := hx189_1
            have hw189_0 := hx189_0
            obtain rfl : ad188 = ad189 := (by injection e189)
            replace hx189_0 := (HB.out.cell (World.block_lt_of_cell? w _ hx189_0)).trans hx189_0
            replace hx189_1 := (HB.out.cell (World.block_lt_of_cell? w _ hx189_1)).trans hx189_1
            replace hx189_2 := (HB.out.cell (World.block_lt_of_cell? w _ hx189_2)).trans hx189_2
            replace hx189_3 := (HB.out.cell (World.block_lt_of_cell? w _ hx189_3)).trans hx189_3
            replace hx189_4 := (HB.out.cell (World.block_lt_of_cell? w _ hx189_4)).trans hx189_4
            replace hx189_5 := (HB.out.cell (World.block_lt_of_cell? w _ hx189_5)).trans hx189_5
            replace p189 := eq_true p189
            replace q189 := eq_true q189
            refine start_ (n := 9) (S := fun w' => w'.cell? (ad188.add ((x8_1).toNat * 6)) = some (.int .i8 ((rd_T38 l1 x8_1).f0.f0)) ∧ w'.cell? ⟨(ad188.add ((x8_1).toNat * 6)).block, (ad188.add ((x8_1).toNat * 6)).off + 1, none⟩ = some (.int .i8 ((rd_T38 l1 x8_1).f0.f1)) ∧ w'.cell? ⟨(ad188.add ((x8_1).toNat * 6)).block, (ad188.add ((x8_1).toNat * 6)).off + 2, none⟩ = some (.int .i8 ((rd_T38 l1 x8_1).f1)) ∧ w'.cell? ⟨(ad188.add ((x8_1).toNat * 6)).block, (ad188.add ((x8_1).toNat * 6)).off + 3, none⟩ = some (.int .i8 ((rd_T38 l1 x8_1).f2)) ∧ w'.cell? ⟨(ad188.add ((x8_1).toNat * 6)).block, (ad188.add ((x8_1).toNat * 6)).off + 4, none⟩ = some (.int .i8 ((rd_T38 l1 x8_1).f3)) ∧ w'.cell? ⟨(ad188.add ((x8_1).toNat * 6)).block, (ad188.add ((x8_1).toNat * 6)).off + 5, none⟩ = some (.int .i8 ((rd_T38 l1 x8_1).f4)) ∧ w'.cell? (ad188.add ((x9_2).toNat * 6)) = some (.int .i8 ((rd_T38 l1 x9_2).f0.f0)) ∧ w'.cell? ⟨(ad188.add ((x9_2).toNat * 6)).block, (ad188.add ((x9_2).toNat * 6)).off + 1, none⟩ = some (.int .i8 ((rd_T38 l1 x9_2).f0.f1)) ∧ w'.cell? ⟨(ad188.add ((x9_2).toNat * 6)).block, (ad188.add ((x9_2).toNat * 6)).off + 2, none⟩ = some (.int .i8 ((rd_T38 l1 x9_2).f1)) ∧ w'.cell? ⟨(ad188.add ((x9_2).toNat * 6)).block, (ad188.add ((x9_2).toNat * 6)).off + 3, none⟩ = some (.int .i8 ((rd_T38 l1 x9_2).f2)) ∧ w'.cell? ⟨(ad188.add ((x9_2).toNat * 6)).block, (ad188.add ((x9_2).toNat * 6)).off + 4, none⟩ = some (.int .i8 ((rd_T38 l1 x9_2).f3)) ∧ w'.cell? ⟨(ad188.add ((x9_2).toNat * 6)).block, (ad188.add ((x9_2).toNat * 6)).off + 5, none⟩ = some (.int .i8 ((rd_T38 l1 x9_2).f4))) (ds := []) #[false, false, false, false, false, false, false, false, false] (by kernel_rfl) rfl rfl ⟨((HB.out.cell (World.block_lt_of_cell? w _ hw188_0)).trans hw188_0), ((HB.out.cell (World.block_lt_of_cell? w _ hw188_1)).trans hw188_1), ((HB.out.cell (World.block_lt_of_cell? w _ hw188_2)).trans hw188_2), ((HB.out.cell (World.block_lt_of_cell? w _ hw188_3)).trans hw188_3), ((HB.out.cell (World.block_lt_of_cell? w _ hw188_4)).trans hw188_4), ((HB.out.cell (World.block_lt_of_cell? w _ hw188_5)).trans hw188_5), ((HB.out.cell (World.block_lt_of_cell? w _ hw189_0)).trans hw189_0), ((HB.out.cell (World.block_lt_of_cell? w _ hw189_1)).trans hw189_1), ((HB.out.cell (World.block_lt_of_cell? w _ hw189_2)).trans hw189_2), ((HB.out.cell (World.block_lt_of_cell? w _ hw189_3)).trans hw189_3), ((HB.out.cell (World.block_lt_of_cell? w _ hw189_4)).trans hw189_4), ((HB.out.cell (World.block_lt_of_cell? w _ hw189_5)).trans hw189_5)⟩ (fun hHeld => ?_); refine with_tabW spec_TouchPairs.tab11 spec_TouchPairs.bits11 (fun HT_ HW_ => ?_)
            generalize wr.drew = w20 at HO_6 HI180 HB hx188_0 hx188_1 hx188_2 hx188_3 hx188_4 hx188_5 hx189_0 hx189_1 hx189_2 hx189_3 hx189_4 hx189_5 hHeld ⊢
            refine pS (i := 0) (some 31) #[true, false, false, false, false, false, false, false, false] (any_of HT_.out (by kernel_rfl)) ?_
            refine pS (i := 1) (some 32) #[true, true, false, false, false, false, false, false, false] (any_of HT_.out (by kernel_rfl)) ?_
            refine pS (i := 2) (some 33) #[true, true, true, false, false, false, false, false, false] (any_of HT_.out (by kernel_rfl)) ?_
            refine pS (i := 4) (some 35) #[true, true, true, false, true, false, false, false, false] (any_of HT_.out (by kernel_rfl)) ?_
            refine pS (i := 5) (some 36) #[true, true, true, false, true, true, false, false, false] (any_of HT_.out (by kernel_rfl)) ?_
            refine pS (i := 6) (some 37) #[true, true, true, false, true, true, true, false, false] (any_of HT_.out (by kernel_rfl)) ?_
            refine tS (i := 3) (some 34) #[true, true, true, true, true, true, true, false, false] (take_ofW HT_.out HW_.out (by kernel_rfl)) hHeld ?_
            refine tS (i := 7) (some 38) #[true, true, true, true, true, true, true, true, false] (take_ofW HT_.out HW_.out (by kernel_rfl)) hHeld ?_
            refine one_ (i := 8) (N := some 39) #[true, true, true, true, true, true, true, true, true] rfl rfl (one_of HT_.out (by kernel_rfl)) (by decide) (fun K hK => ?_)
            refine goes_ Try.func118 (by kernel_rfl) rfl #[.pointer (some ⟨gb180, 0, none⟩), .agg #[.int .i8 ((rd_T38 l1 x8_1).f0.f0), .int .i8 ((rd_T38 l1 x8_1).f0.f1), .int .i8 ((rd_T38 l1 x8_1).f1), .int .i8 ((rd_T38 l1 x8_1).f2), .int .i8 ((rd_T38 l1 x8_1).f3), .int .i8 ((rd_T38 l1 x8_1).f4)], .agg #[.int .i8 ((rd_T38 l1 x9_2).f0.f0), .int .i8 ((rd_T38 l1 x9_2).f0.f1), .int .i8 ((rd_T38 l1 x9_2).f1), .int .i8 ((rd_T38 l1 x9_2).f2), .int .i8 ((rd_T38 l1 x9_2).f3), .int .i8 ((rd_T38 l1 x9_2).f4)]] (by rfl) rfl rfl (by (try simp only [List.map_toArray, List.map_cons, List.map_nil]); first | done | rfl | (simp only [List.length_drop, List.length_take]; rfl)) ?_
            with_reducible refine (spec_l01Touch.calls k2 gb180 x181000_2 x181001_2 x181002_2 ((rd_T38 l1 x8_1).f0.f0) ((rd_T38 l1 x8_1).f0.f1) ((rd_T38 l1 x8_1).f1) ((rd_T38 l1 x8_1).f2) ((rd_T38 l1 x8_1).f3) ((rd_T38 l1 x8_1).f4) ((rd_T38 l1 x9_2).f0.f0) ((rd_T38 l1 x9_2).f0.f1) ((rd_T38 l1 x9_2).f1) ((rd_T38 l1 x9_2).f2) ((rd_T38 l1 x9_2).f3) ((rd_T38 l1 x9_2).f4) false t191 t192 t193 w _ ?side1 ?side2 A14.out).mono ?_
            (case side1 => exact si28 HI180)
            (case side2 => exact be HB)
            rintro e w21 ⟨rfl, hi, hb, hk⟩
            refine ⟨_, rfl, ?_⟩
            have n0_ := am (Kd.R_mono (Kd.R_keep (IsS28.apart (show IsS28 w _ gb180 x181000_2 x181001_2 x181002_2 from si28 HI180) (kr HO_6) (by decide)) hk (fun _ h => h.2)) (fun _ h => h.1))
            have n1_ := am (hb)
            have n2_ := am (hi)
            clear HO_6
            clear HB
            clear HI180
            have HO_6 := n0_
            have HB := n1_
            have HI180 := n2_
            clear n0_ n1_ n2_
            (try clear hb)
            (try clear hb2)
            (try clear hk)
            (try clear hi)
            refine hK.out _ _ ⟨((HB.out.cell (World.block_lt_of_cell? w _ hw188_0)).trans hw188_0), ((HB.out.cell (World.block_lt_of_cell? w _ hw188_1)).trans hw188_1), ((HB.out.cell (World.block_lt_of_cell? w _ hw188_2)).trans hw188_2), ((HB.out.cell (World.block_lt_of_cell? w _ hw188_3)).trans hw188_3), ((HB.out.cell (World.block_lt_of_cell? w _ hw188_4)).trans hw188_4), ((HB.out.cell (World.block_lt_of_cell? w _ hw188_5)).trans hw188_5), ((HB.out.cell (World.block_lt_of_cell? w _ hw189_0)).trans hw189_0), ((HB.out.cell (World.block_lt_of_cell? w _ hw189_1)).trans hw189_1), ((HB.out.cell (World.block_lt_of_cell? w _ hw189_2)).trans hw189_2), ((HB.out.cell (World.block_lt_of_cell? w _ hw189_3)).trans hw189_3), ((HB.out.cell (World.block_lt_of_cell? w _ hw189_4)).trans hw189_4), ((HB.out.cell (World.block_lt_of_cell? w _ hw189_5)).trans hw189_5)⟩ (fun hHeld => ?_)
            clear hK K
            refine norm_ (a' := ?_) ?_ ?_
            rotate_left
            ·show Act.put _ (some 39) _ = _
             simp only [Act.put, List.setIfInBounds_toArray, List.set_cons_zero, List.set_cons_succ, i64_w, i32_w]
             rfl
            refine done_ (done_of HT_.out (by kernel_rfl)) ?_
            try go_wp2
            go_roundg k2
            case measure => have := HK1.out; have := HK2.out; omega
            case rel => exact ⟨(x6_2), (wrap64 (x9_2 + 1)), (t191), (t192), (t193), vx, H', ⟨by have := HK1.out; have := HK2.out; omega⟩, ⟨kr HO_6⟩, ⟨si28 HI180⟩, ⟨be HB⟩⟩
          ·rw [if_neg c13] at H
           exact absurd H (by simp)
         ·rw [if_neg c12] at H
          exact absurd H (by simp)
        ·rw [if_neg c11] at H
         exact absurd H (by simp)
       ·rw [if_neg c10] at H
        have c10b0 : decide (x9_2 < (l1.length : Int)) = false := decide_eq_false c10
        clear c10
        have H' := am H
        clear H
        go_wp2
        go_roundg k2
        case measure => have := HK1.out; have := HK2.out; omega
        case rel => exact ⟨(x6_2), (wrap64 (x8_1 + 1)), (x181000_2), (x181001_2), (x181002_2), vx, H', ⟨by have := HK1.out; have := HK2.out; omega⟩, ⟨kr HO_6⟩, ⟨si28 HI180⟩, ⟨be HB⟩⟩
    ·rw [if_neg c9] at H
     have c9b0 : decide (x8_1 < (l1.length : Int)) = false := decide_eq_false c9
     clear c9
     simp only [Option.some.injEq, Prod.mk.injEq] at H
     obtain ⟨rfl, rfl⟩ := H
     go_wp2
     go_ret2
     exact ⟨_, by first | rfl | (simp [errW_none, errW_some] <;> rfl) | (simp [*, errW_none, errW_some] <;> rfl), by (with_reducible repeat (first | apply Kd.R_alloc | apply Kd.R_drewN | apply Kd.R_drew)); exact HO_6.out, be HB⟩
 ·rw [if_neg c4] at H
  have c4b0 : (t184 == 0) = false := beq_eq_false_iff_ne.mpr c4
  have c4b1 : (t184 != 0) = true := bne_iff_ne.mpr c4
  simp only [Option.some.injEq, Prod.mk.injEq] at H
  obtain ⟨rfl, rfl⟩ := H
  go_enter Try.func54, Try.ntmps54
  go_wp2_with (first | ((with_reducible refine gate_dst (N := 2) rfl ?_); refine bxe (N := 2) (cs := (csBay a0_0 a0_1 a0_2)) (t := 28) ?_; intro gb180 hg w22 hbox hb; have HI180 := am ((show IsS28 w w22 gb180 a0_0 a0_1 a0_2 from ⟨hbox, by rw [hg]; exact (below_size (be HB))⟩)); have GW180 := am (gN hg (below_size (be HB))); have GE180 := am (gN hg (below_size (be HB))); replace HB := am (below_step (be HB) hb); clear hb hbox hg) | ((with_reducible refine gate_dst (N := 10) rfl ?_); refine Kd.R_lit k82 _ 82 ?hg (N := 10) ?hd (xs := ([] : List (S82))) (inner := []) (ok := fun _ => True) (okp := fun _ => True) ?hr ?hp (fun _ hk => hk) trivial (Below.refl _ _) (Nat.le_refl _) (by simp) ?_; (case hd => rfl); (case hg => rfl); (case hr => first | (go_simp; done) | (go_simp; rfl)); (case hp => exact (Reps.none _ _)); intro v182 w23 ho24 hb hg_ hnew_; clear hg_ hnew_; (first | rw [← Ny181.out] at ho24 | (simp only [Int.reduceToNat] at ho24; rw [← Ny181.out] at ho24)); have HO183 := am (Kd.R_lower ho24 (below_size (be HB))); replace HI180 := am (IsS28.below (si28 HI180) hb); replace HB := am (below_step (be HB) hb); clear hb ho24) | ((with_reducible refine gate_callee (f := 117) rfl ?_); refine gL (some 12) Try.func117 #[.pointer (some ⟨gb180, 0, none⟩), .slice A1 l1.length c1] ?_; (with_reducible refine (spec_l01Asked.calls k gb180 a0_0 a0_1 a0_2 _ _ l1 t184 t185 t186 t187 w _ ?side1 ?side2 ?side3 ?side4 A3.out).mono ?_); (case side1 => exact si28 HI180); (case side2 => exact be HB); (case side3 => exact Kd.C_foot_came k38_heap HR1.out (be HB) (IsS28.ge HI180.out)); (case side4 => exact HC1.out); rintro e w25 ⟨rfl, hi, hb, hk⟩; refine ⟨_, rfl, ?_⟩; replace HO183 := am (Kd.R_mono (Kd.R_keep (IsS28.apart (show IsS28 w _ gb180 a0_0 a0_1 a0_2 from si28 HI180) (kr HO183) (by decide)) hk (fun _ h => h.2)) (fun _ h => h.1)); replace HB := am (hb); replace HI180 := am (hi); (try clear hb); (try clear hb2); (try clear hk); (try clear hi)))
  go_ret2
  exact ⟨_, by first | rfl | (simp [errW_none, errW_some] <;> rfl) | (simp [*, errW_none, errW_some] <;> rfl), by (with_reducible repeat (first | apply Kd.R_alloc | apply Kd.R_drewN | apply Kd.R_drew)); exact HO183.out, be HB⟩

/-! ### impl_ValidBay: function 27 -/
def impl_ValidBay.f (a0_0 : Int) (a0_1 : Int) (a0_2 : (Nat → Int)) : Option (Bool) := some (decide (Go.Proofs.Ytcollbifdfhfoaa.BayIn.okBay a0_0 a0_1 a0_2))
theorem impl_ValidBay.calls (a0_0 : Int) (a0_1 : Int) (a0_2 : (Nat → Int)) (r : Bool) (w : World) (h : impl_ValidBay.f a0_0 a0_1 a0_2 = some r) :
  Calls Try.prog 27 #[.agg (csBay a0_0 a0_1 a0_2)] w fun e w' => e = .returned (.bool r) ∧ Below w.heap.size w w' := by
 obtain rfl := Option.some.inj h
 exact Go.Proofs.Ytcollbifdfhfoaa.BayIn.validBay_calls _ _ _ w

/-! ### impl_depth: function 112 -/
def impl_depth.f (a0_0 : Int) (a0_1 : Int) (a0_2 : (Nat → Int)) (a1_0 : Int) (a1_1 : Int) : Option (Int) := if 0 ≤ a1_1 then (if a1_1 < 16 then (if 0 ≤ a1_0 then (if a1_0 < 16 then (some (wrap64 (a0_2 (16 * (a1_1 : Int).toNat + (a1_0 : Int).toNat)))) else (none)) else (none)) else (none)) else (none)
set_option maxHeartbeats 8000000 in
set_option maxRecDepth 100000 in
theorem impl_depth.calls (a0_0 : Int) (a0_1 : Int) (a0_2 : (Nat → Int)) (a1_0 : Int) (a1_1 : Int) (r : Int) (w : World) (h : impl_depth.f a0_0 a0_1 a0_2 a1_0 a1_1 = some r) :
  Calls Try.prog 112 #[.agg (csBay a0_0 a0_1 a0_2), .agg #[.int .i8 a1_0, .int .i8 a1_1]] w fun e w' => e = .returned (.int .i64 r) ∧ Below w.heap.size w w' := by
 have hu28 := Try.underlying28
 have hu36 := Try.underlying36
 have HB := am (Below.refl w.heap.size w)
 have H : (if 0 ≤ a1_1 then (if a1_1 < 16 then (if 0 ≤ a1_0 then (if a1_0 < 16 then (some (wrap64 (a0_2 (16 * (a1_1 : Int).toNat + (a1_0 : Int).toNat)))) else (none)) else (none)) else (none)) else (none)) = some r := h
 clear h
 by_cases c3 : 0 ≤ a1_1
 ·rw [if_pos c3] at H
  have c3b0 : decide (0 ≤ a1_1) = true := decide_eq_true c3
  have c3b1 : 0 ≤ a1_1 := c3
  clear c3
  by_cases c4 : a1_1 < 16
  ·rw [if_pos c4] at H
   have c4b0 : decide (a1_1 < 16) = true := decide_eq_true c4
   have c4b1 : a1_1 < 16 := c4
   clear c4
   by_cases c5 : 0 ≤ a1_0
   ·rw [if_pos c5] at H
    have c5b0 : decide (0 ≤ a1_0) = true := decide_eq_true c5
    have c5b1 : 0 ≤ a1_0 := c5
    clear c5
    by_cases c6 : a1_0 < 16
    ·rw [if_pos c6] at H
     have c6b0 : decide (a1_0 < 16) = true := decide_eq_true c6
     have c6b1 : a1_0 < 16 := c6
     clear c6
     obtain rfl := Option.some.inj H
     go_enter Try.func112, Try.ntmps112
     go_wp2_with (first | ((with_reducible refine gate_dst (N := 2) rfl ?_); refine bxe (N := 2) (cs := (csBay a0_0 a0_1 a0_2)) (t := 28) ?_; intro gb197 hg w7 hbox hb; have BK197 := am (hbox); have GW197 := am (gN hg (below_size (be HB))); have GE197 := am (gN hg (below_size (be HB))); replace HB := am (below_step (be HB) hb); clear hb hbox hg) | ((with_reducible refine gate_dst (N := 3) rfl ?_); refine bxe (N := 3) (cs := #[.int .i8 a1_0, .int .i8 a1_1]) (t := 36) ?_; intro gb198 hg w8 hbox hb; have BK198 := am (hbox); have GW198 := am (gN hg (below_size (be HB))); have GE198 := am (gN hg (below_size (be HB))); have NB197_198 := nL BK197 hg; have NB198_197 := nR BK197 hg; replace BK197 := bB BK197 hb; replace HB := am (below_step (be HB) hb); clear hb hbox hg; have hnb9 := NB198_197.out; have hnc9 := NB197_198.out; obtain ⟨hcz10_0, hcz10_1, hfz10_0, hfz10_1⟩ := bx2 BK198; have hcz11_0 : w8.cell? ⟨gb197, 0, none⟩ = some (.int .i8 a0_0) := (blk_cell BK197.out 0).trans rfl; have hcz11_1 : w8.cell? ⟨gb197, 1, none⟩ = some (.int .i8 a0_1) := (blk_cell BK197.out 1).trans rfl; have hwz11 := lv28_at BK197.out; have haz11 := at_cells BK197.out; have hyz11 := BayAt28_of BK197.out; have hvz11 := lvv_of BK197.out; have hfz11_0 := blk_frozen BK197.out 0; have hfz11_1 := blk_frozen BK197.out 1; have hfz11_2 := blk_frozen BK197.out 2))
     repeat (go_quiet (first | ((with_reducible refine gate_dst (N := 2) rfl ?_); refine bxe (N := 2) (cs := (csBay a0_0 a0_1 a0_2)) (t := 28) ?_; intro gb197 hg w7 hbox hb; have BK197 := am (hbox); have GW197 := am (gN hg (below_size (be HB))); have GE197 := am (gN hg (below_size (be HB))); replace HB := am (below_step (be HB) hb); clear hb hbox hg) | ((with_reducible refine gate_dst (N := 3) rfl ?_); refine bxe (N := 3) (cs := #[.int .i8 a1_0, .int .i8 a1_1]) (t := 36) ?_; intro gb198 hg w8 hbox hb; have BK198 := am (hbox); have GW198 := am (gN hg (below_size (be HB))); have GE198 := am (gN hg (below_size (be HB))); have NB197_198 := nL BK197 hg; have NB198_197 := nR BK197 hg; replace BK197 := bB BK197 hb; replace HB := am (below_step (be HB) hb); clear hb hbox hg; have hnb9 := NB198_197.out; have hnc9 := NB197_198.out; obtain ⟨hcz10_0, hcz10_1, hfz10_0, hfz10_1⟩ := bx2 BK198; have hcz11_0 : w8.cell? ⟨gb197, 0, none⟩ = some (.int .i8 a0_0) := (blk_cell BK197.out 0).trans rfl; have hcz11_1 : w8.cell? ⟨gb197, 1, none⟩ = some (.int .i8 a0_1) := (blk_cell BK197.out 1).trans rfl; have hwz11 := lv28_at BK197.out; have haz11 := at_cells BK197.out; have hyz11 := BayAt28_of BK197.out; have hvz11 := lvv_of BK197.out; have hfz11_0 := blk_frozen BK197.out 0; have hfz11_1 := blk_frozen BK197.out 1; have hfz11_2 := blk_frozen BK197.out 2)); try go_wp2_with (first | ((with_reducible refine gate_dst (N := 2) rfl ?_); refine bxe (N := 2) (cs := (csBay a0_0 a0_1 a0_2)) (t := 28) ?_; intro gb197 hg w7 hbox hb; have BK197 := am (hbox); have GW197 := am (gN hg (below_size (be HB))); have GE197 := am (gN hg (below_size (be HB))); replace HB := am (below_step (be HB) hb); clear hb hbox hg) | ((with_reducible refine gate_dst (N := 3) rfl ?_); refine bxe (N := 3) (cs := #[.int .i8 a1_0, .int .i8 a1_1]) (t := 36) ?_; intro gb198 hg w8 hbox hb; have BK198 := am (hbox); have GW198 := am (gN hg (below_size (be HB))); have GE198 := am (gN hg (below_size (be HB))); have NB197_198 := nL BK197 hg; have NB198_197 := nR BK197 hg; replace BK197 := bB BK197 hb; replace HB := am (below_step (be HB) hb); clear hb hbox hg; have hnb9 := NB198_197.out; have hnc9 := NB197_198.out; obtain ⟨hcz10_0, hcz10_1, hfz10_0, hfz10_1⟩ := bx2 BK198; have hcz11_0 : w8.cell? ⟨gb197, 0, none⟩ = some (.int .i8 a0_0) := (blk_cell BK197.out 0).trans rfl; have hcz11_1 : w8.cell? ⟨gb197, 1, none⟩ = some (.int .i8 a0_1) := (blk_cell BK197.out 1).trans rfl; have hwz11 := lv28_at BK197.out; have haz11 := at_cells BK197.out; have hyz11 := BayAt28_of BK197.out; have hvz11 := lvv_of BK197.out; have hfz11_0 := blk_frozen BK197.out 0; have hfz11_1 := blk_frozen BK197.out 1; have hfz11_2 := blk_frozen BK197.out 2)))
     go_ret
     exact ⟨by first | rfl | (simp [errW_none, errW_some] <;> rfl) | (simp [*, errW_none, errW_some] <;> rfl), be HB⟩
    ·rw [if_neg c6] at H
     exact absurd H (by simp)
   ·rw [if_neg c5] at H
    exact absurd H (by simp)
  ·rw [if_neg c4] at H
   exact absurd H (by simp)
 ·rw [if_neg c3] at H
  exact absurd H (by simp)

/-! ### impl_isPlace: function 178 -/
def impl_isPlace.f (a0_0 : Int) (a0_1 : Int) (a0_2 : (Nat → Int)) (a1_0 : Int) (a1_1 : Int) : Option (Bool) := if a1_0 ≥ 0 then (if a1_0 < a0_0 then (if a1_1 ≥ 0 then (some (decide (a1_1 < a0_1))) else (some false)) else (some false)) else (some false)
set_option maxHeartbeats 8000000 in
set_option maxRecDepth 100000 in
theorem impl_isPlace.calls (a0_0 : Int) (a0_1 : Int) (a0_2 : (Nat → Int)) (a1_0 : Int) (a1_1 : Int) (r : Bool) (w : World) (h : impl_isPlace.f a0_0 a0_1 a0_2 a1_0 a1_1 = some r) :
  Calls Try.prog 178 #[.agg (csBay a0_0 a0_1 a0_2), .agg #[.int .i8 a1_0, .int .i8 a1_1]] w fun e w' => e = .returned (.bool r) ∧ Below w.heap.size w w' := by
 have hu28 := Try.underlying28
 have hu36 := Try.underlying36
 have HB := am (Below.refl w.heap.size w)
 have H : (if a1_0 ≥ 0 then (if a1_0 < a0_0 then (if a1_1 ≥ 0 then (some (decide (a1_1 < a0_1))) else (some false)) else (some false)) else (some false)) = some r := h
 clear h
 by_cases c3 : a1_0 ≥ 0
 ·rw [if_pos c3] at H
  have c3b0 : decide (0 ≤ a1_0) = true := decide_eq_true c3
  have c3b1 : 0 ≤ a1_0 := c3
  clear c3
  by_cases c4 : a1_0 < a0_0
  ·rw [if_pos c4] at H
   have c4b0 : decide (a1_0 < a0_0) = true := decide_eq_true c4
   clear c4
   by_cases c5 : a1_1 ≥ 0
   ·rw [if_pos c5] at H
    have c5b0 : decide (0 ≤ a1_1) = true := decide_eq_true c5
    have c5b1 : 0 ≤ a1_1 := c5
    clear c5
    obtain rfl := Option.some.inj H
    go_enter Try.func178, Try.ntmps178
    go_wp2_with (first | ((with_reducible refine gate_dst (N := 2) rfl ?_); refine bxe (N := 2) (cs := (csBay a0_0 a0_1 a0_2)) (t := 28) ?_; intro gb199 hg w6 hbox hb; have BK199 := am (hbox); have GW199 := am (gN hg (below_size (be HB))); have GE199 := am (gN hg (below_size (be HB))); replace HB := am (below_step (be HB) hb); clear hb hbox hg) | ((with_reducible refine gate_dst (N := 3) rfl ?_); refine bxe (N := 3) (cs := #[.int .i8 a1_0, .int .i8 a1_1]) (t := 36) ?_; intro gb200 hg w7 hbox hb; have BK200 := am (hbox); have GW200 := am (gN hg (below_size (be HB))); have GE200 := am (gN hg (below_size (be HB))); have NB199_200 := nL BK199 hg; have NB200_199 := nR BK199 hg; replace BK199 := bB BK199 hb; replace HB := am (below_step (be HB) hb); clear hb hbox hg; have hnb8 := NB200_199.out; have hnc8 := NB199_200.out; obtain ⟨hcz9_0, hcz9_1, hfz9_0, hfz9_1⟩ := bx2 BK200; have hcz10_0 : w7.cell? ⟨gb199, 0, none⟩ = some (.int .i8 a0_0) := (blk_cell BK199.out 0).trans rfl; have hcz10_1 : w7.cell? ⟨gb199, 1, none⟩ = some (.int .i8 a0_1) := (blk_cell BK199.out 1).trans rfl; have hwz10 := lv28_at BK199.out; have haz10 := at_cells BK199.out; have hyz10 := BayAt28_of BK199.out; have hvz10 := lvv_of BK199.out; have hfz10_0 := blk_frozen BK199.out 0; have hfz10_1 := blk_frozen BK199.out 1; have hfz10_2 := blk_frozen BK199.out 2))
    go_ret
    exact ⟨by first | rfl | (simp [errW_none, errW_some] <;> rfl) | (simp [*, errW_none, errW_some] <;> rfl), be HB⟩
   ·rw [if_neg c5] at H
    have c5b0 : decide (0 ≤ a1_1) = false := decide_eq_false c5
    clear c5
    obtain rfl := Option.some.inj H
    go_enter Try.func178, Try.ntmps178
    go_wp2_with (first | ((with_reducible refine gate_dst (N := 2) rfl ?_); refine bxe (N := 2) (cs := (csBay a0_0 a0_1 a0_2)) (t := 28) ?_; intro gb199 hg w11 hbox hb; have BK199 := am (hbox); have GW199 := am (gN hg (below_size (be HB))); have GE199 := am (gN hg (below_size (be HB))); replace HB := am (below_step (be HB) hb); clear hb hbox hg) | ((with_reducible refine gate_dst (N := 3) rfl ?_); refine bxe (N := 3) (cs := #[.int .i8 a1_0, .int .i8 a1_1]) (t := 36) ?_; intro gb200 hg w12 hbox hb; have BK200 := am (hbox); have GW200 := am (gN hg (below_size (be HB))); have GE200 := am (gN hg (below_size (be HB))); have NB199_200 := nL BK199 hg; have NB200_199 := nR BK199 hg; replace BK199 := bB BK199 hb; replace HB := am (below_step (be HB) hb); clear hb hbox hg; have hnb13 := NB200_199.out; have hnc13 := NB199_200.out; obtain ⟨hcz14_0, hcz14_1, hfz14_0, hfz14_1⟩ := bx2 BK200; have hcz15_0 : w12.cell? ⟨gb199, 0, none⟩ = some (.int .i8 a0_0) := (blk_cell BK199.out 0).trans rfl; have hcz15_1 : w12.cell? ⟨gb199, 1, none⟩ = some (.int .i8 a0_1) := (blk_cell BK199.out 1).trans rfl; have hwz15 := lv28_at BK199.out; have haz15 := at_cells BK199.out; have hyz15 := BayAt28_of BK199.out; have hvz15 := lvv_of BK199.out; have hfz15_0 := blk_frozen BK199.out 0; have hfz15_1 := blk_frozen BK199.out 1; have hfz15_2 := blk_frozen BK199.out 2))
    go_ret
    exact ⟨by first | rfl | (simp [errW_none, errW_some] <;> rfl) | (simp [*, errW_none, errW_some] <;> rfl), be HB⟩
  ·rw [if_neg c4] at H
   have c4b0 : decide (a1_0 < a0_0) = false := decide_eq_false c4
   clear c4
   obtain rfl := Option.some.inj H
   go_enter Try.func178, Try.ntmps178
   go_wp2_with (first | ((with_reducible refine gate_dst (N := 2) rfl ?_); refine bxe (N := 2) (cs := (csBay a0_0 a0_1 a0_2)) (t := 28) ?_; intro gb199 hg w16 hbox hb; have BK199 := am (hbox); have GW199 := am (gN hg (below_size (be HB))); have GE199 := am (gN hg (below_size (be HB))); replace HB := am (below_step (be HB) hb); clear hb hbox hg) | ((with_reducible refine gate_dst (N := 3) rfl ?_); refine bxe (N := 3) (cs := #[.int .i8 a1_0, .int .i8 a1_1]) (t := 36) ?_; intro gb200 hg w17 hbox hb; have BK200 := am (hbox); have GW200 := am (gN hg (below_size (be HB))); have GE200 := am (gN hg (below_size (be HB))); have NB199_200 := nL BK199 hg; have NB200_199 := nR BK199 hg; replace BK199 := bB BK199 hb; replace HB := am (below_step (be HB) hb); clear hb hbox hg; have hnb18 := NB200_199.out; have hnc18 := NB199_200.out; obtain ⟨hcz19_0, hcz19_1, hfz19_0, hfz19_1⟩ := bx2 BK200; have hcz20_0 : w17.cell? ⟨gb199, 0, none⟩ = some (.int .i8 a0_0) := (blk_cell BK199.out 0).trans rfl; have hcz20_1 : w17.cell? ⟨gb199, 1, none⟩ = some (.int .i8 a0_1) := (blk_cell BK199.out 1).trans rfl; have hwz20 := lv28_at BK199.out; have haz20 := at_cells BK199.out; have hyz20 := BayAt28_of BK199.out; have hvz20 := lvv_of BK199.out; have hfz20_0 := blk_frozen BK199.out 0; have hfz20_1 := blk_frozen BK199.out 1; have hfz20_2 := blk_frozen BK199.out 2))
   go_ret
   exact ⟨by first | rfl | (simp [errW_none, errW_some] <;> rfl) | (simp [*, errW_none, errW_some] <;> rfl), be HB⟩
 ·rw [if_neg c3] at H
  have c3b0 : decide (0 ≤ a1_0) = false := decide_eq_false c3
  clear c3
  obtain rfl := Option.some.inj H
  go_enter Try.func178, Try.ntmps178
  go_wp2_with (first | ((with_reducible refine gate_dst (N := 2) rfl ?_); refine bxe (N := 2) (cs := (csBay a0_0 a0_1 a0_2)) (t := 28) ?_; intro gb199 hg w21 hbox hb; have BK199 := am (hbox); have GW199 := am (gN hg (below_size (be HB))); have GE199 := am (gN hg (below_size (be HB))); replace HB := am (below_step (be HB) hb); clear hb hbox hg) | ((with_reducible refine gate_dst (N := 3) rfl ?_); refine bxe (N := 3) (cs := #[.int .i8 a1_0, .int .i8 a1_1]) (t := 36) ?_; intro gb200 hg w22 hbox hb; have BK200 := am (hbox); have GW200 := am (gN hg (below_size (be HB))); have GE200 := am (gN hg (below_size (be HB))); have NB199_200 := nL BK199 hg; have NB200_199 := nR BK199 hg; replace BK199 := bB BK199 hb; replace HB := am (below_step (be HB) hb); clear hb hbox hg; have hnb23 := NB200_199.out; have hnc23 := NB199_200.out; obtain ⟨hcz24_0, hcz24_1, hfz24_0, hfz24_1⟩ := bx2 BK200))
  go_ret
  exact ⟨by first | rfl | (simp [errW_none, errW_some] <;> rfl) | (simp [*, errW_none, errW_some] <;> rfl), be HB⟩

/-! ### impl_isWater: function 167 -/
def impl_isWater.f (a0_0 : Int) (a0_1 : Int) (a0_2 : (Nat → Int)) (a1_0 : Int) (a1_1 : Int) : Option (Bool) := (impl_isPlace.f a0_0 a0_1 a0_2 a1_0 a1_1).bind fun t203 => (if t203 = true then ((impl_depth.f a0_0 a0_1 a0_2 a1_0 a1_1).bind fun t204 => (some (decide (t204 > 0)))) else (some false))
set_option maxHeartbeats 8000000 in
set_option maxRecDepth 100000 in
theorem impl_isWater.calls (a0_0 : Int) (a0_1 : Int) (a0_2 : (Nat → Int)) (a1_0 : Int) (a1_1 : Int) (r : Bool) (w : World) (h : impl_isWater.f a0_0 a0_1 a0_2 a1_0 a1_1 = some r) :
  Calls Try.prog 167 #[.agg (csBay a0_0 a0_1 a0_2), .agg #[.int .i8 a1_0, .int .i8 a1_1]] w fun e w' => e = .returned (.bool r) ∧ Below w.heap.size w w' := by
 have hu28 := Try.underlying28
 have hu36 := Try.underlying36
 have HB := am (Below.refl w.heap.size w)
 have H : ((impl_isPlace.f a0_0 a0_1 a0_2 a1_0 a1_1).bind fun t203 => (if t203 = true then ((impl_depth.f a0_0 a0_1 a0_2 a1_0 a1_1).bind fun t204 => (some (decide (t204 > 0)))) else (some false))) = some r := h
 clear h
 replace H := Option.bind_eq_some_iff.mp H
 obtain ⟨t203, A30, H⟩ := H
 try dsimp only at H
 have A3 := am A30
 clear A30
 by_cases c4 : t203 = true
 ·subst c4
  rw [if_pos rfl] at H
  replace H := Option.bind_eq_some_iff.mp H
  obtain ⟨t204, A50, H⟩ := H
  try dsimp only at H
  have A5 := am A50
  clear A50
  obtain rfl := Option.some.inj H
  go_enter Try.func167, Try.ntmps167
  go_wp2_with (first | ((with_reducible refine gate_dst (N := 2) rfl ?_); refine bxe (N := 2) (cs := (csBay a0_0 a0_1 a0_2)) (t := 28) ?_; intro gb201 hg w6 hbox hb; have BK201 := am (hbox); have GW201 := am (gN hg (below_size (be HB))); have GE201 := am (gN hg (below_size (be HB))); replace HB := am (below_step (be HB) hb); clear hb hbox hg) | ((with_reducible refine gate_dst (N := 3) rfl ?_); refine bxe (N := 3) (cs := #[.int .i8 a1_0, .int .i8 a1_1]) (t := 36) ?_; intro gb202 hg w7 hbox hb; have BK202 := am (hbox); have GW202 := am (gN hg (below_size (be HB))); have GE202 := am (gN hg (below_size (be HB))); have NB201_202 := nL BK201 hg; have NB202_201 := nR BK201 hg; replace BK201 := bB BK201 hb; replace HB := am (below_step (be HB) hb); clear hb hbox hg; have hnb8 := NB201_202.out; have hnc8 := NB202_201.out; have hcz9_0 : w7.cell? ⟨gb201, 0, none⟩ = some (.int .i8 a0_0) := (blk_cell BK201.out 0).trans rfl; have hcz9_1 : w7.cell? ⟨gb201, 1, none⟩ = some (.int .i8 a0_1) := (blk_cell BK201.out 1).trans rfl; have hwz9 := lv28_at BK201.out; have haz9 := at_cells BK201.out; have hyz9 := BayAt28_of BK201.out; have hvz9 := lvv_of BK201.out; have hfz9_0 := blk_frozen BK201.out 0; have hfz9_1 := blk_frozen BK201.out 1; have hfz9_2 := blk_frozen BK201.out 2; obtain ⟨hcz10_0, hcz10_1, hfz10_0, hfz10_1⟩ := bx2 BK202) | ((with_reducible refine gate_callee (f := 178) rfl ?_); refine gL (some 7) Try.func178 #[.agg (csBay a0_0 a0_1 a0_2), .agg #[.int .i8 a1_0, .int .i8 a1_1]] ?_; (with_reducible refine (impl_isPlace.calls a0_0 a0_1 a0_2 a1_0 a1_1 true _ A3.out).mono ?_); rintro e w11 ⟨rfl, hb⟩; refine ⟨_, rfl, ?_⟩; replace BK201 := bB BK201 hb; replace BK202 := bB BK202 hb; replace HB := am (below_step (be HB) hb); (try clear hb); (try clear hb2); (try clear hk); (try clear hi); have hcz12_0 : w11.cell? ⟨gb201, 0, none⟩ = some (.int .i8 a0_0) := (blk_cell BK201.out 0).trans rfl; have hcz12_1 : w11.cell? ⟨gb201, 1, none⟩ = some (.int .i8 a0_1) := (blk_cell BK201.out 1).trans rfl; have hwz12 := lv28_at BK201.out; have haz12 := at_cells BK201.out; have hyz12 := BayAt28_of BK201.out; have hvz12 := lvv_of BK201.out; have hfz12_0 := blk_frozen BK201.out 0; have hfz12_1 := blk_frozen BK201.out 1; have hfz12_2 := blk_frozen BK201.out 2; obtain ⟨hcz13_0, hcz13_1, hfz13_0, hfz13_1⟩ := bx2 BK202) | (go_at_call 112; (with_reducible refine (impl_depth.calls a0_0 a0_1 a0_2 a1_0 a1_1 t204 _ A5.out).mono ?_); rintro e w14 ⟨rfl, hb⟩; replace BK201 := bB BK201 hb; replace BK202 := bB BK202 hb; replace HB := am (below_step (be HB) hb); (try clear hb); (try clear hb2); (try clear hk); (try clear hi)))
  go_ret
  exact ⟨by first | rfl | (simp [errW_none, errW_some] <;> rfl) | (simp [*, errW_none, errW_some] <;> rfl), be HB⟩
 ·replace c4 := Bool.eq_false_iff.mpr c4
  subst c4
  have H1 : (some false) = some r := by rw [if_neg (show ¬ (false = true) by decide)] at H; exact H
  clear H
  have H := H1
  clear H1
  obtain rfl := Option.some.inj H
  go_enter Try.func167, Try.ntmps167
  go_wp2_with (first | ((with_reducible refine gate_dst (N := 2) rfl ?_); refine bxe (N := 2) (cs := (csBay a0_0 a0_1 a0_2)) (t := 28) ?_; intro gb201 hg w15 hbox hb; have BK201 := am (hbox); have GW201 := am (gN hg (below_size (be HB))); have GE201 := am (gN hg (below_size (be HB))); replace HB := am (below_step (be HB) hb); clear hb hbox hg) | ((with_reducible refine gate_dst (N := 3) rfl ?_); refine bxe (N := 3) (cs := #[.int .i8 a1_0, .int .i8 a1_1]) (t := 36) ?_; intro gb202 hg w16 hbox hb; have BK202 := am (hbox); have GW202 := am (gN hg (below_size (be HB))); have GE202 := am (gN hg (below_size (be HB))); have NB201_202 := nL BK201 hg; have NB202_201 := nR BK201 hg; replace BK201 := bB BK201 hb; replace HB := am (below_step (be HB) hb); clear hb hbox hg; have hnb17 := NB201_202.out; have hnc17 := NB202_201.out; have hcz18_0 : w16.cell? ⟨gb201, 0, none⟩ = some (.int .i8 a0_0) := (blk_cell BK201.out 0).trans rfl; have hcz18_1 : w16.cell? ⟨gb201, 1, none⟩ = some (.int .i8 a0_1) := (blk_cell BK201.out 1).trans rfl; have hwz18 := lv28_at BK201.out; have haz18 := at_cells BK201.out; have hyz18 := BayAt28_of BK201.out; have hvz18 := lvv_of BK201.out; have hfz18_0 := blk_frozen BK201.out 0; have hfz18_1 := blk_frozen BK201.out 1; have hfz18_2 := blk_frozen BK201.out 2; obtain ⟨hcz19_0, hcz19_1, hfz19_0, hfz19_1⟩ := bx2 BK202) | ((with_reducible refine gate_callee (f := 178) rfl ?_); refine gL (some 7) Try.func178 #[.agg (csBay a0_0 a0_1 a0_2), .agg #[.int .i8 a1_0, .int .i8 a1_1]] ?_; (with_reducible refine (impl_isPlace.calls a0_0 a0_1 a0_2 a1_0 a1_1 false _ A3.out).mono ?_); rintro e w20 ⟨rfl, hb⟩; refine ⟨_, rfl, ?_⟩; replace BK201 := bB BK201 hb; replace BK202 := bB BK202 hb; replace HB := am (below_step (be HB) hb); (try clear hb); (try clear hb2); (try clear hk); (try clear hi)))
  go_ret
  exact ⟨by first | rfl | (simp [errW_none, errW_some] <;> rfl) | (simp [*, errW_none, errW_some] <;> rfl), be HB⟩

/-! ### impl_isBoat: function 107 -/
def impl_isBoat.f (a0_0 : Int) (a0_1 : Int) (a0_2 : (Nat → Int)) (a1_0 : Int) (a1_1 : Int) (a1_2 : Int) (a1_3 : Int) (a1_4 : Int) (a1_5 : Int) : Option (Bool) := (impl_isWater.f a0_0 a0_1 a0_2 a1_0 a1_1).bind fun t207 => (if t207 = true then (if a1_2 ≥ 1 then (if a1_2 ≤ 60 then (if a1_3 ≥ 0 then (if a1_3 ≤ 5 then (if a1_4 ≥ 1 then (if a1_4 ≤ 30 then (if a1_5 ≥ 0 then (some (decide (a1_5 ≤ 9))) else (some false)) else (some false)) else (some false)) else (some false)) else (some false)) else (some false)) else (some false)) else (some false))
set_option maxHeartbeats 8000000 in
set_option maxRecDepth 100000 in
theorem impl_isBoat.calls (a0_0 : Int) (a0_1 : Int) (a0_2 : (Nat → Int)) (a1_0 : Int) (a1_1 : Int) (a1_2 : Int) (a1_3 : Int) (a1_4 : Int) (a1_5 : Int) (r : Bool) (w : World) (h : impl_isBoat.f a0_0 a0_1 a0_2 a1_0 a1_1 a1_2 a1_3 a1_4 a1_5 = some r) :
  Calls Try.prog 107 #[.agg (csBay a0_0 a0_1 a0_2), .agg #[.int .i8 a1_0, .int .i8 a1_1, .int .i8 a1_2, .int .i8 a1_3, .int .i8 a1_4, .int .i8 a1_5]] w fun e w' => e = .returned (.bool r) ∧ Below w.heap.size w w' := by
 have hu28 := Try.underlying28
 have hu38 := Try.underlying38
 have hu36 := Try.underlying36
 have HB := am (Below.refl w.heap.size w)
 have H : ((impl_isWater.f a0_0 a0_1 a0_2 a1_0 a1_1).bind fun t207 => (if t207 = true then (if a1_2 ≥ 1 then (if a1_2 ≤ 60 then (if a1_3 ≥ 0 then (if a1_3 ≤ 5 then (if a1_4 ≥ 1 then (if a1_4 ≤ 30 then (if a1_5 ≥ 0 then (some (decide (a1_5 ≤ 9))) else (some false)) else (some false)) else (some false)) else (some false)) else (some false)) else (some false)) else (some false)) else (some false))) = some r := h
 clear h
 replace H := Option.bind_eq_some_iff.mp H
 obtain ⟨t207, A30, H⟩ := H
 try dsimp only at H
 have A3 := am A30
 clear A30
 by_cases c4 : t207 = true
 ·subst c4
  rw [if_pos rfl] at H
  by_cases c5 : a1_2 ≥ 1
  ·rw [if_pos c5] at H
   have c5b0 : decide (1 ≤ a1_2) = true := decide_eq_true c5
   clear c5
   by_cases c6 : a1_2 ≤ 60
   ·rw [if_pos c6] at H
    have c6b0 : decide (a1_2 ≤ 60) = true := decide_eq_true c6
    clear c6
    by_cases c7 : a1_3 ≥ 0
    ·rw [if_pos c7] at H
     have c7b0 : decide (0 ≤ a1_3) = true := decide_eq_true c7
     have c7b1 : 0 ≤ a1_3 := c7
     clear c7
     by_cases c8 : a1_3 ≤ 5
     ·rw [if_pos c8] at H
      have c8b0 : decide (a1_3 ≤ 5) = true := decide_eq_true c8
      clear c8
      by_cases c9 : a1_4 ≥ 1
      ·rw [if_pos c9] at H
       have c9b0 : decide (1 ≤ a1_4) = true := decide_eq_true c9
       clear c9
       by_cases c10 : a1_4 ≤ 30
       ·rw [if_pos c10] at H
        have c10b0 : decide (a1_4 ≤ 30) = true := decide_eq_true c10
        clear c10
        by_cases c11 : a1_5 ≥ 0
        ·rw [if_pos c11] at H
         have c11b0 : decide (0 ≤ a1_5) = true := decide_eq_true c11
         have c11b1 : 0 ≤ a1_5 := c11
         clear c11
         obtain rfl := Option.some.inj H
         go_enter Try.func107, Try.ntmps107
         go_wp2_with (first | ((with_reducible refine gate_dst (N := 2) rfl ?_); refine bxe (N := 2) (cs := (csBay a0_0 a0_1 a0_2)) (t := 28) ?_; intro gb205 hg w12 hbox hb; have BK205 := am (hbox); have GW205 := am (gN hg (below_size (be HB))); have GE205 := am (gN hg (below_size (be HB))); replace HB := am (below_step (be HB) hb); clear hb hbox hg) | ((with_reducible refine gate_dst (N := 3) rfl ?_); refine bxe (N := 3) (cs := #[.int .i8 a1_0, .int .i8 a1_1, .int .i8 a1_2, .int .i8 a1_3, .int .i8 a1_4, .int .i8 a1_5]) (t := 38) ?_; intro gb206 hg w13 hbox hb; have BK206 := am (hbox); have GW206 := am (gN hg (below_size (be HB))); have GE206 := am (gN hg (below_size (be HB))); have NB205_206 := nL BK205 hg; have NB206_205 := nR BK205 hg; replace BK205 := bB BK205 hb; replace HB := am (below_step (be HB) hb); clear hb hbox hg; have hnb14 := NB205_206.out; have hnc14 := NB206_205.out; have hcz15_0 : w13.cell? ⟨gb205, 0, none⟩ = some (.int .i8 a0_0) := (blk_cell BK205.out 0).trans rfl; have hcz15_1 : w13.cell? ⟨gb205, 1, none⟩ = some (.int .i8 a0_1) := (blk_cell BK205.out 1).trans rfl; have hwz15 := lv28_at BK205.out; have haz15 := at_cells BK205.out; have hyz15 := BayAt28_of BK205.out; have hvz15 := lvv_of BK205.out; have hfz15_0 := blk_frozen BK205.out 0; have hfz15_1 := blk_frozen BK205.out 1; have hfz15_2 := blk_frozen BK205.out 2; obtain ⟨hcz16_0, hcz16_1, hcz16_2, hcz16_3, hcz16_4, hcz16_5, hfz16_0, hfz16_1, hfz16_2, hfz16_3, hfz16_4, hfz16_5⟩ := bx6 BK206) | ((with_reducible refine gate_callee (f := 167) rfl ?_); refine gL (some 8) Try.func167 #[.agg (csBay a0_0 a0_1 a0_2), .agg #[.int .i8 a1_0, .int .i8 a1_1]] ?_; (with_reducible refine (impl_isWater.calls a0_0 a0_1 a0_2 a1_0 a1_1 true _ A3.out).mono ?_); rintro e w17 ⟨rfl, hb⟩; refine ⟨_, rfl, ?_⟩; replace BK205 := bB BK205 hb; replace BK206 := bB BK206 hb; replace HB := am (below_step (be HB) hb); (try clear hb); (try clear hb2); (try clear hk); (try clear hi); obtain ⟨hcz18_0, hcz18_1, hcz18_2, hcz18_3, hcz18_4, hcz18_5, hfz18_0, hfz18_1, hfz18_2, hfz18_3, hfz18_4, hfz18_5⟩ := bx6 BK206))
         go_ret
         exact ⟨by first | rfl | (simp [errW_none, errW_some] <;> rfl) | (simp [*, errW_none, errW_some] <;> rfl), be HB⟩
        ·rw [if_neg c11] at H
         have c11b0 : decide (0 ≤ a1_5) = false := decide_eq_false c11
         clear c11
         obtain rfl := Option.some.inj H
         go_enter Try.func107, Try.ntmps107
         go_wp2_with (first | ((with_reducible refine gate_dst (N := 2) rfl ?_); refine bxe (N := 2) (cs := (csBay a0_0 a0_1 a0_2)) (t := 28) ?_; intro gb205 hg w19 hbox hb; have BK205 := am (hbox); have GW205 := am (gN hg (below_size (be HB))); have GE205 := am (gN hg (below_size (be HB))); replace HB := am (below_step (be HB) hb); clear hb hbox hg) | ((with_reducible refine gate_dst (N := 3) rfl ?_); refine bxe (N := 3) (cs := #[.int .i8 a1_0, .int .i8 a1_1, .int .i8 a1_2, .int .i8 a1_3, .int .i8 a1_4, .int .i8 a1_5]) (t := 38) ?_; intro gb206 hg w20 hbox hb; have BK206 := am (hbox); have GW206 := am (gN hg (below_size (be HB))); have GE206 := am (gN hg (below_size (be HB))); have NB205_206 := nL BK205 hg; have NB206_205 := nR BK205 hg; replace BK205 := bB BK205 hb; replace HB := am (below_step (be HB) hb); clear hb hbox hg; have hnb21 := NB205_206.out; have hnc21 := NB206_205.out; have hcz22_0 : w20.cell? ⟨gb205, 0, none⟩ = some (.int .i8 a0_0) := (blk_cell BK205.out 0).trans rfl; have hcz22_1 : w20.cell? ⟨gb205, 1, none⟩ = some (.int .i8 a0_1) := (blk_cell BK205.out 1).trans rfl; have hwz22 := lv28_at BK205.out; have haz22 := at_cells BK205.out; have hyz22 := BayAt28_of BK205.out; have hvz22 := lvv_of BK205.out; have hfz22_0 := blk_frozen BK205.out 0; have hfz22_1 := blk_frozen BK205.out 1; have hfz22_2 := blk_frozen BK205.out 2; obtain ⟨hcz23_0, hcz23_1, hcz23_2, hcz23_3, hcz23_4, hcz23_5, hfz23_0, hfz23_1, hfz23_2, hfz23_3, hfz23_4, hfz23_5⟩ := bx6 BK206) | ((with_reducible refine gate_callee (f := 167) rfl ?_); refine gL (some 8) Try.func167 #[.agg (csBay a0_0 a0_1 a0_2), .agg #[.int .i8 a1_0, .int .i8 a1_1]] ?_; (with_reducible refine (impl_isWater.calls a0_0 a0_1 a0_2 a1_0 a1_1 true _ A3.out).mono ?_); rintro e w24 ⟨rfl, hb⟩; refine ⟨_, rfl, ?_⟩; replace BK205 := bB BK205 hb; replace BK206 := bB BK206 hb; replace HB := am (below_step (be HB) hb); (try clear hb); (try clear hb2); (try clear hk); (try clear hi); obtain ⟨hcz25_0, hcz25_1, hcz25_2, hcz25_3, hcz25_4, hcz25_5, hfz25_0, hfz25_1, hfz25_2, hfz25_3, hfz25_4, hfz25_5⟩ := bx6 BK206))
         go_ret
         exact ⟨by first | rfl | (simp [errW_none, errW_some] <;> rfl) | (simp [*, errW_none, errW_some] <;> rfl), be HB⟩
       ·rw [if_neg c10] at H
        have c10b0 : decide (a1_4 ≤ 30) = false := decide_eq_false c10
        clear c10
        obtain rfl := Option.some.inj H
        go_enter Try.func107, Try.ntmps107
        go_wp2_with (first | ((with_reducible refine gate_dst (N := 2) rfl ?_); refine bxe (N := 2) (cs := (csBay a0_0 a0_1 a0_2)) (t := 28) ?_; intro gb205 hg w26 hbox hb; have BK205 := am (hbox); have GW205 := am (gN hg (below_size (be HB))); have GE205 := am (gN hg (below_size (be HB))); replace HB := am (below_step (be HB) hb); clear hb hbox hg) | ((with_reducible refine gate_dst (N := 3) rfl ?_); refine bxe (N := 3) (cs := #[.int .i8 a1_0, .int .i8 a1_1, .int .i8 a1_2, .int .i8 a1_3, .int .i8 a1_4, .int .i8 a1_5]) (t := 38) ?_; intro gb206 hg w27 hbox hb; have BK206 := am (hbox); have GW206 := am (gN hg (below_size (be HB))); have GE206 := am (gN hg (below_size (be HB))); have NB205_206 := nL BK205 hg; have NB206_205 := nR BK205 hg; replace BK205 := bB BK205 hb; replace HB := am (below_step (be HB) hb); clear hb hbox hg; have hnb28 := NB205_206.out; have hnc28 := NB206_205.out; have hcz29_0 : w27.cell? ⟨gb205, 0, none⟩ = some (.int .i8 a0_0) := (blk_cell BK205.out 0).trans rfl; have hcz29_1 : w27.cell? ⟨gb205, 1, none⟩ = some (.int .i8 a0_1) := (blk_cell BK205.out 1).trans rfl; have hwz29 := lv28_at BK205.out; have haz29 := at_cells BK205.out; have hyz29 := BayAt28_of BK205.out; have hvz29 := lvv_of BK205.out; have hfz29_0 := blk_frozen BK205.out 0; have hfz29_1 := blk_frozen BK205.out 1; have hfz29_2 := blk_frozen BK205.out 2; obtain ⟨hcz30_0, hcz30_1, hcz30_2, hcz30_3, hcz30_4, hcz30_5, hfz30_0, hfz30_1, hfz30_2, hfz30_3, hfz30_4, hfz30_5⟩ := bx6 BK206) | ((with_reducible refine gate_callee (f := 167) rfl ?_); refine gL (some 8) Try.func167 #[.agg (csBay a0_0 a0_1 a0_2), .agg #[.int .i8 a1_0, .int .i8 a1_1]] ?_; (with_reducible refine (impl_isWater.calls a0_0 a0_1 a0_2 a1_0 a1_1 true _ A3.out).mono ?_); rintro e w31 ⟨rfl, hb⟩; refine ⟨_, rfl, ?_⟩; replace BK205 := bB BK205 hb; replace BK206 := bB BK206 hb; replace HB := am (below_step (be HB) hb); (try clear hb); (try clear hb2); (try clear hk); (try clear hi); obtain ⟨hcz32_0, hcz32_1, hcz32_2, hcz32_3, hcz32_4, hcz32_5, hfz32_0, hfz32_1, hfz32_2, hfz32_3, hfz32_4, hfz32_5⟩ := bx6 BK206))
        go_ret
        exact ⟨by first | rfl | (simp [errW_none, errW_some] <;> rfl) | (simp [*, errW_none, errW_some] <;> rfl), be HB⟩
      ·rw [if_neg c9] at H
       have c9b0 : decide (1 ≤ a1_4) = false := decide_eq_false c9
       clear c9
       obtain rfl := Option.some.inj H
       go_enter Try.func107, Try.ntmps107
       go_wp2_with (first | ((with_reducible refine gate_dst (N := 2) rfl ?_); refine bxe (N := 2) (cs := (csBay a0_0 a0_1 a0_2)) (t := 28) ?_; intro gb205 hg w33 hbox hb; have BK205 := am (hbox); have GW205 := am (gN hg (below_size (be HB))); have GE205 := am (gN hg (below_size (be HB))); replace HB := am (below_step (be HB) hb); clear hb hbox hg) | ((with_reducible refine gate_dst (N := 3) rfl ?_); refine bxe (N := 3) (cs := #[.int .i8 a1_0, .int .i8 a1_1, .int .i8 a1_2, .int .i8 a1_3, .int .i8 a1_4, .int .i8 a1_5]) (t := 38) ?_; intro gb206 hg w34 hbox hb; have BK206 := am (hbox); have GW206 := am (gN hg (below_size (be HB))); have GE206 := am (gN hg (below_size (be HB))); have NB205_206 := nL BK205 hg; have NB206_205 := nR BK205 hg; replace BK205 := bB BK205 hb; replace HB := am (below_step (be HB) hb); clear hb hbox hg; have hnb35 := NB205_206.out; have hnc35 := NB206_205.out; have hcz36_0 : w34.cell? ⟨gb205, 0, none⟩ = some (.int .i8 a0_0) := (blk_cell BK205.out 0).trans rfl; have hcz36_1 : w34.cell? ⟨gb205, 1, none⟩ = some (.int .i8 a0_1) := (blk_cell BK205.out 1).trans rfl; have hwz36 := lv28_at BK205.out; have haz36 := at_cells BK205.out; have hyz36 := BayAt28_of BK205.out; have hvz36 := lvv_of BK205.out; have hfz36_0 := blk_frozen BK205.out 0; have hfz36_1 := blk_frozen BK205.out 1; have hfz36_2 := blk_frozen BK205.out 2; obtain ⟨hcz37_0, hcz37_1, hcz37_2, hcz37_3, hcz37_4, hcz37_5, hfz37_0, hfz37_1, hfz37_2, hfz37_3, hfz37_4, hfz37_5⟩ := bx6 BK206) | ((with_reducible refine gate_callee (f := 167) rfl ?_); refine gL (some 8) Try.func167 #[.agg (csBay a0_0 a0_1 a0_2), .agg #[.int .i8 a1_0, .int .i8 a1_1]] ?_; (with_reducible refine (impl_isWater.calls a0_0 a0_1 a0_2 a1_0 a1_1 true _ A3.out).mono ?_); rintro e w38 ⟨rfl, hb⟩; refine ⟨_, rfl, ?_⟩; replace BK205 := bB BK205 hb; replace BK206 := bB BK206 hb; replace HB := am (below_step (be HB) hb); (try clear hb); (try clear hb2); (try clear hk); (try clear hi); obtain ⟨hcz39_0, hcz39_1, hcz39_2, hcz39_3, hcz39_4, hcz39_5, hfz39_0, hfz39_1, hfz39_2, hfz39_3, hfz39_4, hfz39_5⟩ := bx6 BK206))
       go_ret
       exact ⟨by first | rfl | (simp [errW_none, errW_some] <;> rfl) | (simp [*, errW_none, errW_some] <;> rfl), be HB⟩
     ·rw [if_neg c8] at H
      have c8b0 : decide (a1_3 ≤ 5) = false := decide_eq_false c8
      clear c8
      obtain rfl := Option.some.inj H
      go_enter Try.func107, Try.ntmps107
      go_wp2_with (first | ((with_reducible refine gate_dst (N := 2) rfl ?_); refine bxe (N := 2) (cs := (csBay a0_0 a0_1 a0_2)) (t := 28) ?_; intro gb205 hg w40 hbox hb; have BK205 := am (hbox); have GW205 := am (gN hg (below_size (be HB))); have GE205 := am (gN hg (below_size (be HB))); replace HB := am (below_step (be HB) hb); clear hb hbox hg) | ((with_reducible refine gate_dst (N := 3) rfl ?_); refine bxe (N := 3) (cs := #[.int .i8 a1_0, .int .i8 a1_1, .int .i8 a1_2, .int .i8 a1_3, .int .i8 a1_4, .int .i8 a1_5]) (t := 38) ?_; intro gb206 hg w41 hbox hb; have BK206 := am (hbox); have GW206 := am (gN hg (below_size (be HB))); have GE206 := am (gN hg (below_size (be HB))); have NB205_206 := nL BK205 hg; have NB206_205 := nR BK205 hg; replace BK205 := bB BK205 hb; replace HB := am (below_step (be HB) hb); clear hb hbox hg; have hnb42 := NB205_206.out; have hnc42 := NB206_205.out; have hcz43_0 : w41.cell? ⟨gb205, 0, none⟩ = some (.int .i8 a0_0) := (blk_cell BK205.out 0).trans rfl; have hcz43_1 : w41.cell? ⟨gb205, 1, none⟩ = some (.int .i8 a0_1) := (blk_cell BK205.out 1).trans rfl; have hwz43 := lv28_at BK205.out; have haz43 := at_cells BK205.out; have hyz43 := BayAt28_of BK205.out; have hvz43 := lvv_of BK205.out; have hfz43_0 := blk_frozen BK205.out 0; have hfz43_1 := blk_frozen BK205.out 1; have hfz43_2 := blk_frozen BK205.out 2; obtain ⟨hcz44_0, hcz44_1, hcz44_2, hcz44_3, hcz44_4, hcz44_5, hfz44_0, hfz44_1, hfz44_2, hfz44_3, hfz44_4, hfz44_5⟩ := bx6 BK206) | ((with_reducible refine gate_callee (f := 167) rfl ?_); refine gL (some 8) Try.func167 #[.agg (csBay a0_0 a0_1 a0_2), .agg #[.int .i8 a1_0, .int .i8 a1_1]] ?_; (with_reducible refine (impl_isWater.calls a0_0 a0_1 a0_2 a1_0 a1_1 true _ A3.out).mono ?_); rintro e w45 ⟨rfl, hb⟩; refine ⟨_, rfl, ?_⟩; replace BK205 := bB BK205 hb; replace BK206 := bB BK206 hb; replace HB := am (below_step (be HB) hb); (try clear hb); (try clear hb2); (try clear hk); (try clear hi); obtain ⟨hcz46_0, hcz46_1, hcz46_2, hcz46_3, hcz46_4, hcz46_5, hfz46_0, hfz46_1, hfz46_2, hfz46_3, hfz46_4, hfz46_5⟩ := bx6 BK206))
      go_ret
      exact ⟨by first | rfl | (simp [errW_none, errW_some] <;> rfl) | (simp [*, errW_none, errW_some] <;> rfl), be HB⟩
    ·rw [if_neg c7] at H
     have c7b0 : decide (0 ≤ a1_3) = false := decide_eq_false c7
     clear c7
     obtain rfl := Option.some.inj H
     go_enter Try.func107, Try.ntmps107
     go_wp2_with (first | ((with_reducible refine gate_dst (N := 2) rfl ?_); refine bxe (N := 2) (cs := (csBay a0_0 a0_1 a0_2)) (t := 28) ?_; intro gb205 hg w47 hbox hb; have BK205 := am (hbox); have GW205 := am (gN hg (below_size (be HB))); have GE205 := am (gN hg (below_size (be HB))); replace HB := am (below_step (be HB) hb); clear hb hbox hg) | ((with_reducible refine gate_dst (N := 3) rfl ?_); refine bxe (N := 3) (cs := #[.int .i8 a1_0, .int .i8 a1_1, .int .i8 a1_2, .int .i8 a1_3, .int .i8 a1_4, .int .i8 a1_5]) (t := 38) ?_; intro gb206 hg w48 hbox hb; have BK206 := am (hbox); have GW206 := am (gN hg (below_size (be HB))); have GE206 := am (gN hg (below_size (be HB))); have NB205_206 := nL BK205 hg; have NB206_205 := nR BK205 hg; replace BK205 := bB BK205 hb; replace HB := am (below_step (be HB) hb); clear hb hbox hg; have hnb49 := NB205_206.out; have hnc49 := NB206_205.out; have hcz50_0 : w48.cell? ⟨gb205, 0, none⟩ = some (.int .i8 a0_0) := (blk_cell BK205.out 0).trans rfl; have hcz50_1 : w48.cell? ⟨gb205, 1, none⟩ = some (.int .i8 a0_1) := (blk_cell BK205.out 1).trans rfl; have hwz50 := lv28_at BK205.out; have haz50 := at_cells BK205.out; have hyz50 := BayAt28_of BK205.out; have hvz50 := lvv_of BK205.out; have hfz50_0 := blk_frozen BK205.out 0; have hfz50_1 := blk_frozen BK205.out 1; have hfz50_2 := blk_frozen BK205.out 2; obtain ⟨hcz51_0, hcz51_1, hcz51_2, hcz51_3, hcz51_4, hcz51_5, hfz51_0, hfz51_1, hfz51_2, hfz51_3, hfz51_4, hfz51_5⟩ := bx6 BK206) | ((with_reducible refine gate_callee (f := 167) rfl ?_); refine gL (some 8) Try.func167 #[.agg (csBay a0_0 a0_1 a0_2), .agg #[.int .i8 a1_0, .int .i8 a1_1]] ?_; (with_reducible refine (impl_isWater.calls a0_0 a0_1 a0_2 a1_0 a1_1 true _ A3.out).mono ?_); rintro e w52 ⟨rfl, hb⟩; refine ⟨_, rfl, ?_⟩; replace BK205 := bB BK205 hb; replace BK206 := bB BK206 hb; replace HB := am (below_step (be HB) hb); (try clear hb); (try clear hb2); (try clear hk); (try clear hi); obtain ⟨hcz53_0, hcz53_1, hcz53_2, hcz53_3, hcz53_4, hcz53_5, hfz53_0, hfz53_1, hfz53_2, hfz53_3, hfz53_4, hfz53_5⟩ := bx6 BK206))
     go_ret
     exact ⟨by first | rfl | (simp [errW_none, errW_some] <;> rfl) | (simp [*, errW_none, errW_some] <;> rfl), be HB⟩
   ·rw [if_neg c6] at H
    have c6b0 : decide (a1_2 ≤ 60) = false := decide_eq_false c6
    clear c6
    obtain rfl := Option.some.inj H
    go_enter Try.func107, Try.ntmps107
    go_wp2_with (first | ((with_reducible refine gate_dst (N := 2) rfl ?_); refine bxe (N := 2) (cs := (csBay a0_0 a0_1 a0_2)) (t := 28) ?_; intro gb205 hg w54 hbox hb; have BK205 := am (hbox); have GW205 := am (gN hg (below_size (be HB))); have GE205 := am (gN hg (below_size (be HB))); replace HB := am (below_step (be HB) hb); clear hb hbox hg) | ((with_reducible refine gate_dst (N := 3) rfl ?_); refine bxe (N := 3) (cs := #[.int .i8 a1_0, .int .i8 a1_1, .int .i8 a1_2, .int .i8 a1_3, .int .i8 a1_4, .int .i8 a1_5]) (t := 38) ?_; intro gb206 hg w55 hbox hb; have BK206 := am (hbox); have GW206 := am (gN hg (below_size (be HB))); have GE206 := am (gN hg (below_size (be HB))); have NB205_206 := nL BK205 hg; have NB206_205 := nR BK205 hg; replace BK205 := bB BK205 hb; replace HB := am (below_step (be HB) hb); clear hb hbox hg; have hnb56 := NB205_206.out; have hnc56 := NB206_205.out; have hcz57_0 : w55.cell? ⟨gb205, 0, none⟩ = some (.int .i8 a0_0) := (blk_cell BK205.out 0).trans rfl; have hcz57_1 : w55.cell? ⟨gb205, 1, none⟩ = some (.int .i8 a0_1) := (blk_cell BK205.out 1).trans rfl; have hwz57 := lv28_at BK205.out; have haz57 := at_cells BK205.out; have hyz57 := BayAt28_of BK205.out; have hvz57 := lvv_of BK205.out; have hfz57_0 := blk_frozen BK205.out 0; have hfz57_1 := blk_frozen BK205.out 1; have hfz57_2 := blk_frozen BK205.out 2; obtain ⟨hcz58_0, hcz58_1, hcz58_2, hcz58_3, hcz58_4, hcz58_5, hfz58_0, hfz58_1, hfz58_2, hfz58_3, hfz58_4, hfz58_5⟩ := bx6 BK206) | ((with_reducible refine gate_callee (f := 167) rfl ?_); refine gL (some 8) Try.func167 #[.agg (csBay a0_0 a0_1 a0_2), .agg #[.int .i8 a1_0, .int .i8 a1_1]] ?_; (with_reducible refine (impl_isWater.calls a0_0 a0_1 a0_2 a1_0 a1_1 true _ A3.out).mono ?_); rintro e w59 ⟨rfl, hb⟩; refine ⟨_, rfl, ?_⟩; replace BK205 := bB BK205 hb; replace BK206 := bB BK206 hb; replace HB := am (below_step (be HB) hb); (try clear hb); (try clear hb2); (try clear hk); (try clear hi); obtain ⟨hcz60_0, hcz60_1, hcz60_2, hcz60_3, hcz60_4, hcz60_5, hfz60_0, hfz60_1, hfz60_2, hfz60_3, hfz60_4, hfz60_5⟩ := bx6 BK206))
    go_ret
    exact ⟨by first | rfl | (simp [errW_none, errW_some] <;> rfl) | (simp [*, errW_none, errW_some] <;> rfl), be HB⟩
  ·rw [if_neg c5] at H
   have c5b0 : decide (1 ≤ a1_2) = false := decide_eq_false c5
   clear c5
   obtain rfl := Option.some.inj H
   go_enter Try.func107, Try.ntmps107
   go_wp2_with (first | ((with_reducible refine gate_dst (N := 2) rfl ?_); refine bxe (N := 2) (cs := (csBay a0_0 a0_1 a0_2)) (t := 28) ?_; intro gb205 hg w61 hbox hb; have BK205 := am (hbox); have GW205 := am (gN hg (below_size (be HB))); have GE205 := am (gN hg (below_size (be HB))); replace HB := am (below_step (be HB) hb); clear hb hbox hg) | ((with_reducible refine gate_dst (N := 3) rfl ?_); refine bxe (N := 3) (cs := #[.int .i8 a1_0, .int .i8 a1_1, .int .i8 a1_2, .int .i8 a1_3, .int .i8 a1_4, .int .i8 a1_5]) (t := 38) ?_; intro gb206 hg w62 hbox hb; have BK206 := am (hbox); have GW206 := am (gN hg (below_size (be HB))); have GE206 := am (gN hg (below_size (be HB))); have NB205_206 := nL BK205 hg; have NB206_205 := nR BK205 hg; replace BK205 := bB BK205 hb; replace HB := am (below_step (be HB) hb); clear hb hbox hg; have hnb63 := NB205_206.out; have hnc63 := NB206_205.out; have hcz64_0 : w62.cell? ⟨gb205, 0, none⟩ = some (.int .i8 a0_0) := (blk_cell BK205.out 0).trans rfl; have hcz64_1 : w62.cell? ⟨gb205, 1, none⟩ = some (.int .i8 a0_1) := (blk_cell BK205.out 1).trans rfl; have hwz64 := lv28_at BK205.out; have haz64 := at_cells BK205.out; have hyz64 := BayAt28_of BK205.out; have hvz64 := lvv_of BK205.out; have hfz64_0 := blk_frozen BK205.out 0; have hfz64_1 := blk_frozen BK205.out 1; have hfz64_2 := blk_frozen BK205.out 2; obtain ⟨hcz65_0, hcz65_1, hcz65_2, hcz65_3, hcz65_4, hcz65_5, hfz65_0, hfz65_1, hfz65_2, hfz65_3, hfz65_4, hfz65_5⟩ := bx6 BK206) | ((with_reducible refine gate_callee (f := 167) rfl ?_); refine gL (some 8) Try.func167 #[.agg (csBay a0_0 a0_1 a0_2), .agg #[.int .i8 a1_0, .int .i8 a1_1]] ?_; (with_reducible refine (impl_isWater.calls a0_0 a0_1 a0_2 a1_0 a1_1 true _ A3.out).mono ?_); rintro e w66 ⟨rfl, hb⟩; refine ⟨_, rfl, ?_⟩; replace BK205 := bB BK205 hb; replace BK206 := bB BK206 hb; replace HB := am (below_step (be HB) hb); (try clear hb); (try clear hb2); (try clear hk); (try clear hi); obtain ⟨hcz67_0, hcz67_1, hcz67_2, hcz67_3, hcz67_4, hcz67_5, hfz67_0, hfz67_1, hfz67_2, hfz67_3, hfz67_4, hfz67_5⟩ := bx6 BK206))
   go_ret
   exact ⟨by first | rfl | (simp [errW_none, errW_some] <;> rfl) | (simp [*, errW_none, errW_some] <;> rfl), be HB⟩
 ·replace c4 := Bool.eq_false_iff.mpr c4
  subst c4
  have H1 : (some false) = some r := by rw [if_neg (show ¬ (false = true) by decide)] at H; exact H
  clear H
  have H := H1
  clear H1
  obtain rfl := Option.some.inj H
  go_enter Try.func107, Try.ntmps107
  go_wp2_with (first | ((with_reducible refine gate_dst (N := 2) rfl ?_); refine bxe (N := 2) (cs := (csBay a0_0 a0_1 a0_2)) (t := 28) ?_; intro gb205 hg w68 hbox hb; have BK205 := am (hbox); have GW205 := am (gN hg (below_size (be HB))); have GE205 := am (gN hg (below_size (be HB))); replace HB := am (below_step (be HB) hb); clear hb hbox hg) | ((with_reducible refine gate_dst (N := 3) rfl ?_); refine bxe (N := 3) (cs := #[.int .i8 a1_0, .int .i8 a1_1, .int .i8 a1_2, .int .i8 a1_3, .int .i8 a1_4, .int .i8 a1_5]) (t := 38) ?_; intro gb206 hg w69 hbox hb; have BK206 := am (hbox); have GW206 := am (gN hg (below_size (be HB))); have GE206 := am (gN hg (below_size (be HB))); have NB205_206 := nL BK205 hg; have NB206_205 := nR BK205 hg; replace BK205 := bB BK205 hb; replace HB := am (below_step (be HB) hb); clear hb hbox hg; have hnb70 := NB205_206.out; have hnc70 := NB206_205.out; have hcz71_0 : w69.cell? ⟨gb205, 0, none⟩ = some (.int .i8 a0_0) := (blk_cell BK205.out 0).trans rfl; have hcz71_1 : w69.cell? ⟨gb205, 1, none⟩ = some (.int .i8 a0_1) := (blk_cell BK205.out 1).trans rfl; have hwz71 := lv28_at BK205.out; have haz71 := at_cells BK205.out; have hyz71 := BayAt28_of BK205.out; have hvz71 := lvv_of BK205.out; have hfz71_0 := blk_frozen BK205.out 0; have hfz71_1 := blk_frozen BK205.out 1; have hfz71_2 := blk_frozen BK205.out 2; obtain ⟨hcz72_0, hcz72_1, hcz72_2, hcz72_3, hcz72_4, hcz72_5, hfz72_0, hfz72_1, hfz72_2, hfz72_3, hfz72_4, hfz72_5⟩ := bx6 BK206) | ((with_reducible refine gate_callee (f := 167) rfl ?_); refine gL (some 8) Try.func167 #[.agg (csBay a0_0 a0_1 a0_2), .agg #[.int .i8 a1_0, .int .i8 a1_1]] ?_; (with_reducible refine (impl_isWater.calls a0_0 a0_1 a0_2 a1_0 a1_1 false _ A3.out).mono ?_); rintro e w73 ⟨rfl, hb⟩; refine ⟨_, rfl, ?_⟩; replace BK205 := bB BK205 hb; replace BK206 := bB BK206 hb; replace HB := am (below_step (be HB) hb); (try clear hb); (try clear hb2); (try clear hk); (try clear hi)))
  go_ret
  exact ⟨by first | rfl | (simp [errW_none, errW_some] <;> rfl) | (simp [*, errW_none, errW_some] <;> rfl), be HB⟩

end Go.Proofs.Ytcollbifdfhfoaa.PFnExactTouchPairs
