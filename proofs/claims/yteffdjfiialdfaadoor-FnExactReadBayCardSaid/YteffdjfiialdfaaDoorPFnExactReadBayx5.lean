-- Written by a program out of this seat's translation (functions, and that the code comes to them).
import Derived.Test.YteffdjfiialdfaaDoorPFnExactReadBayx0
import Derived.Test.YteffdjfiialdfaaDoorPFnExactReadBayx3
import Derived.Test.YteffdjfiialdfaaDoorPFnExactReadBayx4
namespace Go.Proofs.YteffdjfiialdfaaDoor.PFnExactReadBay
open Go.RowKit Go.Proofs.YteffdjfiialdfaaDoorW.PrintWords Go.Proofs.YteffdjfiialdfaaDoorW.PrintLast Go.Proofs.YteffdjfiialdfaaDoorW.PrintMore
attribute [local go_sem] max2_int min2_int max_two min_two max_three min_three max_four min_four   -- for this text's walks alone
open Go.Proofs.YteffdjfiialdfaaDoor.Bay
attribute [local go_sem ↓] lv26_eq al26_eq bd26_eq lv28_eq al28_eq bd28_eq
attribute [local go_sem] lvv_set lvv_drewN lvv_drew lv26_run BayAt26_set BayAt26_drewN BayAt26_drew al26_run bd26_run0 bd26_run1 bd26_run2 lv28_run BayAt28_set BayAt28_drewN BayAt28_drew al28_run bd28_run0 bd28_run1 bd28_run2
set_option linter.unusedVariables false
set_option linter.unusedSimpArgs false

/-! ### impl_ReadBay: function 16 -/
mutual
def impl_ReadBay.j0 : Nat → List ByteArray → Bool → Option (Int × Int × (Nat → Int) × Int)
  | 0, _, _ => none
  | k + 1, x4, x30 => if x30 = true then (some (0, 0, (fun _ => 0 : Nat → Int), 5)) else (impl_ReadBay.l0 k x4 (x4.length : Int) 0 0 (IntKind.i8.wrap ((x4.length : Int))) (fun _ => 0 : Nat → Int))
def impl_ReadBay.l0 : Nat → List ByteArray → Int → Int → Int → Int → (Nat → Int) → Option (Int × Int × (Nat → Int) × Int)
  | 0, _, _, _, _, _, _ => none
  | k + 1, x36, x37, x38, x160000, x160001, x160002 => if x38 < x37 then (if 0 ≤ x38 then (if x38 < (x36.length : Int) then ((strings_Split.f (rdOf ByteArray.empty x36 x38) (⟨#[32]⟩ : ByteArray)).bind fun t162 => (if (t162.length : Int) > 16 then (impl_ReadBay.j2 k x38 t162 x36 x37 x38 true x160000 x160001 x160002) else (if x38 > 0 then (impl_ReadBay.j2 k x38 t162 x36 x37 x38 ((t162.length : Int) != (wrap64 (x160000))) x160000 x160001 x160002) else (impl_ReadBay.j2 k x38 t162 x36 x37 x38 false x160000 x160001 x160002)))) else (none)) else (none)) else ((impl_ValidBay.f x160000 x160001 x160002).bind fun t160 => (if t160 = true then (some (x160000, x160001, x160002, 0)) else (some (0, 0, (fun _ => 0 : Nat → Int), 5))))
def impl_ReadBay.j2 : Nat → Int → List ByteArray → List ByteArray → Int → Int → Bool → Int → Int → (Nat → Int) → Option (Int × Int × (Nat → Int) × Int)
  | 0, _, _, _, _, _, _, _, _, _ => none
  | k + 1, x7, x9, x36, x37, x38, x59, x160000, x160001, x160002 => if x59 = true then (some (0, 0, (fun _ => 0 : Nat → Int), 5)) else (impl_ReadBay.l1 k x7 x36 x37 x38 x9 (x9.length : Int) 0 (IntKind.i8.wrap ((x9.length : Int))) x160001 x160002)
def impl_ReadBay.l1 : Nat → Int → List ByteArray → Int → Int → List ByteArray → Int → Int → Int → Int → (Nat → Int) → Option (Int × Int × (Nat → Int) × Int)
  | 0, _, _, _, _, _, _, _, _, _, _ => none
  | k + 1, x7, x36, x37, x38, x65, x66, x67, x160000, x160001, x160002 => if x67 < x66 then (if 0 ≤ x67 then (if x67 < (x65.length : Int) then ((impl_small.f k (rdOf ByteArray.empty x65 x67)).bind fun bt166 => (if bt166.2 = true then (if 0 ≤ x7 then (if x7 < 16 then (if x67 < 16 then (impl_ReadBay.l1 k x7 x36 x37 x38 x65 x66 (wrap64 (x67 + 1)) x160000 x160001 (setD x160002 (16 * (x7 : Int).toNat + (x67 : Int).toNat) bt166.1)) else (none)) else (none)) else (none)) else (some (0, 0, (fun _ => 0 : Nat → Int), 5)))) else (none)) else (none)) else (impl_ReadBay.l0 k x36 x37 (wrap64 (x38 + 1)) x160000 x160001 x160002)
end
def impl_ReadBay.f (k : Nat) (a0 : ByteArray) : Option (Int × Int × (Nat → Int) × Int) := (impl_linesOf.f a0).bind fun bt155 => (if bt155.2 = true then (if (bt155.1.length : Int) < 1 then (impl_ReadBay.j0 k bt155.1 true) else (impl_ReadBay.j0 k bt155.1 (decide ((bt155.1.length : Int) > 16)))) else (impl_ReadBay.j0 k bt155.1 true))
theorem impl_ReadBay.mono_l : ∀ k, (∀ y0 y1, LeO (impl_ReadBay.j0 k y0 y1) (impl_ReadBay.j0 (k + 1) y0 y1)) ∧ (∀ y0 y1 y2 y3 y4 y5, LeO (impl_ReadBay.l0 k y0 y1 y2 y3 y4 y5) (impl_ReadBay.l0 (k + 1) y0 y1 y2 y3 y4 y5)) ∧ (∀ y0 y1 y2 y3 y4 y5 y6 y7 y8, LeO (impl_ReadBay.j2 k y0 y1 y2 y3 y4 y5 y6 y7 y8) (impl_ReadBay.j2 (k + 1) y0 y1 y2 y3 y4 y5 y6 y7 y8)) ∧ (∀ y0 y1 y2 y3 y4 y5 y6 y7 y8 y9, LeO (impl_ReadBay.l1 k y0 y1 y2 y3 y4 y5 y6 y7 y8 y9) (impl_ReadBay.l1 (k + 1) y0 y1 y2 y3 y4 y5 y6 y7 y8 y9))
  | 0 => ⟨fun _ _ r h => by simp [impl_ReadBay.j0] at h, fun _ _ _ _ _ _ r h => by simp [impl_ReadBay.l0] at h, fun _ _ _ _ _ _ _ _ _ r h => by simp [impl_ReadBay.j2] at h, fun _ _ _ _ _ _ _ _ _ _ r h => by simp [impl_ReadBay.l1] at h⟩
  | k + 1 => by
    obtain ⟨ih0, ih1, ih2, ih3⟩ := impl_ReadBay.mono_l k
    refine ⟨?_, ?_, ?_, ?_⟩
    · intro y0 y1
      unfold impl_ReadBay.j0
      repeat' first
      | (with_reducible exact ih0 _ _)
      | (with_reducible exact ih1 _ _ _ _ _ _)
      | (with_reducible exact ih2 _ _ _ _ _ _ _ _ _)
      | (with_reducible exact ih3 _ _ _ _ _ _ _ _ _ _)
      | (with_reducible exact impl_small.mono _ _)
      | (with_reducible exact LeO.refl _)
      | (with_reducible exact LeO.none _)
      | (with_reducible refine LeO.ite ?_ ?_)
      | (with_reducible refine LeO.bind ?_ (fun _ => ?_))
      | exact ih0 _ _
      | exact ih1 _ _ _ _ _ _
      | exact ih2 _ _ _ _ _ _ _ _ _
      | exact ih3 _ _ _ _ _ _ _ _ _ _
      | exact impl_small.mono _ _
      | exact LeO.none _
      | refine LeO.ite ?_ ?_
      | refine LeO.bind ?_ (fun _ => ?_)
    · intro y0 y1 y2 y3 y4 y5
      unfold impl_ReadBay.l0
      repeat' first
      | (with_reducible exact ih0 _ _)
      | (with_reducible exact ih1 _ _ _ _ _ _)
      | (with_reducible exact ih2 _ _ _ _ _ _ _ _ _)
      | (with_reducible exact ih3 _ _ _ _ _ _ _ _ _ _)
      | (with_reducible exact impl_small.mono _ _)
      | (with_reducible exact LeO.refl _)
      | (with_reducible exact LeO.none _)
      | (with_reducible refine LeO.ite ?_ ?_)
      | (with_reducible refine LeO.bind ?_ (fun _ => ?_))
      | exact ih0 _ _
      | exact ih1 _ _ _ _ _ _
      | exact ih2 _ _ _ _ _ _ _ _ _
      | exact ih3 _ _ _ _ _ _ _ _ _ _
      | exact impl_small.mono _ _
      | exact LeO.none _
      | refine LeO.ite ?_ ?_
      | refine LeO.bind ?_ (fun _ => ?_)
    · intro y0 y1 y2 y3 y4 y5 y6 y7 y8
      unfold impl_ReadBay.j2
      repeat' first
      | (with_reducible exact ih0 _ _)
      | (with_reducible exact ih1 _ _ _ _ _ _)
      | (with_reducible exact ih2 _ _ _ _ _ _ _ _ _)
      | (with_reducible exact ih3 _ _ _ _ _ _ _ _ _ _)
      | (with_reducible exact impl_small.mono _ _)
      | (with_reducible exact LeO.refl _)
      | (with_reducible exact LeO.none _)
      | (with_reducible refine LeO.ite ?_ ?_)
      | (with_reducible refine LeO.bind ?_ (fun _ => ?_))
      | exact ih0 _ _
      | exact ih1 _ _ _ _ _ _
      | exact ih2 _ _ _ _ _ _ _ _ _
      | exact ih3 _ _ _ _ _ _ _ _ _ _
      | exact impl_small.mono _ _
      | exact LeO.none _
      | refine LeO.ite ?_ ?_
      | refine LeO.bind ?_ (fun _ => ?_)
    · intro y0 y1 y2 y3 y4 y5 y6 y7 y8 y9
      unfold impl_ReadBay.l1
      repeat' first
      | (with_reducible exact ih0 _ _)
      | (with_reducible exact ih1 _ _ _ _ _ _)
      | (with_reducible exact ih2 _ _ _ _ _ _ _ _ _)
      | (with_reducible exact ih3 _ _ _ _ _ _ _ _ _ _)
      | (with_reducible exact impl_small.mono _ _)
      | (with_reducible exact LeO.refl _)
      | (with_reducible exact LeO.none _)
      | (with_reducible refine LeO.ite ?_ ?_)
      | (with_reducible refine LeO.bind ?_ (fun _ => ?_))
      | exact ih0 _ _
      | exact ih1 _ _ _ _ _ _
      | exact ih2 _ _ _ _ _ _ _ _ _
      | exact ih3 _ _ _ _ _ _ _ _ _ _
      | exact impl_small.mono _ _
      | exact LeO.none _
      | refine LeO.ite ?_ ?_
      | refine LeO.bind ?_ (fun _ => ?_)
theorem impl_ReadBay.mono : ∀ a0 k, LeO (impl_ReadBay.f k a0) (impl_ReadBay.f (k + 1) a0) := by
  intro a0 k
  obtain ⟨ih0, ih1, ih2, ih3⟩ := impl_ReadBay.mono_l k
  unfold impl_ReadBay.f
  repeat' first
      | (with_reducible exact ih0 _ _)
      | (with_reducible exact ih1 _ _ _ _ _ _)
      | (with_reducible exact ih2 _ _ _ _ _ _ _ _ _)
      | (with_reducible exact ih3 _ _ _ _ _ _ _ _ _ _)
      | (with_reducible exact impl_small.mono _ _)
      | (with_reducible exact LeO.refl _)
      | (with_reducible exact LeO.none _)
      | (with_reducible refine LeO.ite ?_ ?_)
      | (with_reducible refine LeO.bind ?_ (fun _ => ?_))
      | exact ih0 _ _
      | exact ih1 _ _ _ _ _ _
      | exact ih2 _ _ _ _ _ _ _ _ _
      | exact ih3 _ _ _ _ _ _ _ _ _ _
      | exact impl_small.mono _ _
      | exact LeO.none _
      | refine LeO.ite ?_ ?_
      | refine LeO.bind ?_ (fun _ => ?_)
set_option maxHeartbeats 8000000 in
set_option maxRecDepth 100000 in
theorem impl_ReadBay.calls (k : Nat) (a0 : ByteArray) (r1 : Int) (r2 : Int) (r3 : (Nat → Int)) (r4 : Int) (w : World) (h : impl_ReadBay.f k a0 = some (r1, r2, r3, r4)) (htbb : Go.Proofs.YteffdjfiialdfaaDoor.Shelf.TBb w) :
    Calls Tryd.prog 16 #[.string a0] w fun e w' => e = .returned (.tuple #[.agg (csBay r1 r2 r3), .int .i64 r4]) ∧ Below w.heap.size w w' := by
  have HTBb := Aside0.mk htbb
  clear htbb
  have hu28 := Tryd.underlying28
  have HB := Aside0.mk (Below.refl w.heap.size w)
  have H : ((impl_linesOf.f a0).bind fun bt155 => (if bt155.2 = true then (if (bt155.1.length : Int) < 1 then (impl_ReadBay.j0 k bt155.1 true) else (impl_ReadBay.j0 k bt155.1 (decide ((bt155.1.length : Int) > 16)))) else (impl_ReadBay.j0 k bt155.1 true))) = some (r1, r2, r3, r4) := h
  clear h
  replace H := Option.bind_eq_some_iff.mp H
  obtain ⟨⟨t155, t156⟩, A20, H⟩ := H
  replace H : (if t156 = true then (if (t155.length : Int) < 1 then (impl_ReadBay.j0 k t155 true) else (impl_ReadBay.j0 k t155 (decide ((t155.length : Int) > 16)))) else (impl_ReadBay.j0 k t155 true)) = some (r1, r2, r3, r4) := H
  have A2 := Aside0.mk A20
  clear A20
  have HC3 := Aside0.mk H
  clear H
  go_enter Tryd.func16, Tryd.ntmps16
  go_upto_region 2 with (first | ((with_reducible refine gate_dst (N := 2) rfl ?_); (try (refine gate_guard (by rfl) ?_; dsimp only)); refine box_event ?hg (N := 2) ?hd (cs := (csBay 0 0 (fun _ => 0 : Nat → Int))) (t := 28) ?hr ?_; (case hd => rfl); (case hg => rfl); (case hr => first | (go_simp; done) | (go_simp; rfl)); intro gb154 hg w4 hbox hb; have n0_ := Aside0.mk (below_step (by repeat (first | (with_reducible first | exact HB.out | apply below_alloc | apply pw_below_drewN | apply below_drew1) | exact HB.out)) hb); have n1_ := Aside0.mk (hbox); have n2_ := Aside0.mk ((by rw [hg]; exact (below_size (by repeat (first | (with_reducible first | exact HB.out | apply below_alloc | apply pw_below_drewN | apply below_drew1) | exact HB.out))) : w.heap.size ≤ gb154)); have n3_ := Aside0.mk ((by rw [hg]; exact (below_size (by repeat (first | (with_reducible first | exact HB.out | apply below_alloc | apply pw_below_drewN | apply below_drew1) | exact HB.out))) : w.heap.size ≤ gb154)); clear HB; have HB := n0_; have BK154 := n1_; have GW154 := n2_; have GE154 := n3_; clear n0_ n1_ n2_ n3_; clear hb hbox hg) | ((with_reducible refine gate_callee (f := 37) rfl ?_); refine goesL_ (some 16) rfl rfl Tryd.func37 (by kernel_rfl) rfl #[.string a0] rfl (by (try simp only [List.map_toArray, List.map_cons, List.map_nil]); first | done | rfl | (simp only [List.length_drop, List.length_take]; rfl)) ?_; (with_reducible refine (impl_linesOf.calls a0 t155 t156 _ A2.out ?htbb).mono ?_); (case htbb => exact Go.Proofs.YteffdjfiialdfaaDoor.Shelf.TBb.below HTBb.out (by repeat (first | (with_reducible first | exact HB.out | apply below_alloc | apply pw_below_drewN | apply below_drew1 | refine below_set ?_ (Aside0.out (by assumption))) | exact HB.out))); rintro e w5 ⟨v157, rfl, ho0, hb⟩; refine ⟨_, rfl, ?_⟩; have n0_ := Aside0.mk (Kd.R_lower ho0 (below_size (by repeat (first | (with_reducible first | exact HB.out | apply below_alloc | apply pw_below_drewN | apply below_drew1 | refine below_set ?_ GE154.out | refine below_row ?_ GE154.out _) | exact HB.out)))); have n1_ := Aside0.mk (blk_below (g := gb154) (o := .cells (csBay 0 0 (fun _ => 0 : Nat → Int)) 28 (0, 0)) (by (with_reducible repeat (first | refine blk_drewN ?_ _ | refine blk_drew ?_ | refine blk_alloc ?_ _)); exact BK154.out) hb); have n2_ := Aside0.mk (below_step (by repeat (first | (with_reducible first | exact HB.out | apply below_alloc | apply pw_below_drewN | apply below_drew1 | refine below_set ?_ GE154.out | refine below_row ?_ GE154.out _) | exact HB.out)) hb); clear BK154; clear HB; have HO158 := n0_; have BK154 := n1_; have HB := n2_; clear n0_ n1_ n2_; (try clear hb); (try clear hb2); (try clear hk); (try clear hi); (try clear ho0)))
  (try simp only [Act.put, List.setIfInBounds_toArray, List.set_cons_zero, List.set_cons_succ])
  go_cut [30] (fun v30 wc => ∃ (kq : Nat) (x30_2 : Bool), v30 = .bool x30_2 ∧ Aside0 (impl_ReadBay.j0 kq t155 x30_2 = some (r1, r2, r3, r4)) ∧ Aside0 (kq ≤ k) ∧ Aside0 (Kd.R Kd.string 9 wc w.heap.size (fun _ => True) v157 t155) ∧ Aside0 (wc.heap[gb154]? = some (.cells (csBay 0 0 (fun _ => 0 : Nat → Int)) 28 (0, 0))) ∧ Aside0 (Below w.heap.size w wc))
  case first =>
    have H := HC3.out
    clear HC3
    by_cases c6 : t156 = true
    · subst c6
      have H1 : (if (t155.length : Int) < 1 then (impl_ReadBay.j0 k t155 true) else (impl_ReadBay.j0 k t155 (decide ((t155.length : Int) > 16)))) = some (r1, r2, r3, r4) := by rw [if_pos rfl] at H; exact H
      clear H
      have H := H1
      clear H1
      by_cases c7 : (t155.length : Int) < 1
      · rw [if_pos c7] at H
        have c7b0 : decide ((t155.length : Int) < 1) = true := decide_eq_true c7
        have c7b1 : decide (t155.length < 1) = true := decide_eq_true (by omega)
        clear c7
        (first | rw [c7b0] | (simp only [i64_w, i32_w]; rw [c7b0]) | skip)
        have H' := Aside0.mk H
        clear H
        obtain ⟨Ao8, co8, eo8⟩ := Kd.R_slice HO158.out
        subst eo8
        go_wp2
        go_meet
        case rel => exact ⟨_, (true), (by first | rfl | (simp; done) | (simp [*]; done) | (rw [i8_wrap_le] <;> first | rfl | omega) | (congr 1; unfold wrap64; omega)), H', ⟨by first | omega | exact Nat.le_refl _⟩, ⟨by (with_reducible repeat (first | apply Kd.R_alloc | apply Kd.R_drewN | apply Kd.R_drew)); exact HO158.out⟩, ⟨by (with_reducible repeat (first | refine blk_drewN ?_ _ | refine blk_drew ?_ | refine blk_alloc ?_ _)); exact BK154.out⟩, ⟨by repeat (first | (with_reducible first | exact HB.out | apply below_alloc | apply pw_below_drewN | apply below_drew1 | refine below_set ?_ GE154.out | refine below_row ?_ GE154.out _) | exact HB.out)⟩⟩
      · rw [if_neg c7] at H
        have c7b0 : decide ((t155.length : Int) < 1) = false := decide_eq_false c7
        have c7b1 : decide (t155.length < 1) = false := decide_eq_false (by omega)
        clear c7
        (first | rw [c7b0] | (simp only [i64_w, i32_w]; rw [c7b0]) | skip)
        have H' := Aside0.mk H
        clear H
        obtain ⟨Ao9, co9, eo9⟩ := Kd.R_slice HO158.out
        subst eo9
        go_wp2
        go_meet
        case rel => exact ⟨_, (decide ((t155.length : Int) > 16)), (by first | rfl | (simp; done) | (simp [*]; done) | (rw [i8_wrap_le] <;> first | rfl | omega) | (congr 1; unfold wrap64; omega)), H', ⟨by first | omega | exact Nat.le_refl _⟩, ⟨by (with_reducible repeat (first | apply Kd.R_alloc | apply Kd.R_drewN | apply Kd.R_drew)); exact HO158.out⟩, ⟨by (with_reducible repeat (first | refine blk_drewN ?_ _ | refine blk_drew ?_ | refine blk_alloc ?_ _)); exact BK154.out⟩, ⟨by repeat (first | (with_reducible first | exact HB.out | apply below_alloc | apply pw_below_drewN | apply below_drew1 | refine below_set ?_ GE154.out | refine below_row ?_ GE154.out _) | exact HB.out)⟩⟩
    · replace c6 := Bool.eq_false_iff.mpr c6
      subst c6
      have H1 : (impl_ReadBay.j0 k t155 true) = some (r1, r2, r3, r4) := by rw [if_neg (show ¬ (false = true) by decide)] at H; exact H
      clear H
      have H := H1
      clear H1
      have H' := Aside0.mk H
      clear H
      go_wp2
      go_meet
      case rel => exact ⟨_, (true), (by first | rfl | (simp; done) | (simp [*]; done) | (rw [i8_wrap_le] <;> first | rfl | omega) | (congr 1; unfold wrap64; omega)), H', ⟨by first | omega | exact Nat.le_refl _⟩, ⟨by (with_reducible repeat (first | apply Kd.R_alloc | apply Kd.R_drewN | apply Kd.R_drew)); exact HO158.out⟩, ⟨by (with_reducible repeat (first | refine blk_drewN ?_ _ | refine blk_drew ?_ | refine blk_alloc ?_ _)); exact BK154.out⟩, ⟨by repeat (first | (with_reducible first | exact HB.out | apply below_alloc | apply pw_below_drewN | apply below_drew1 | refine below_set ?_ GE154.out | refine below_row ?_ GE154.out _) | exact HB.out)⟩⟩
  case rest =>
    clear HC3
    try clear c1
    try clear p2
    try clear c3
    try clear c6
    try clear c7
    try clear c7b0
    try clear c7b1
    obtain ⟨kq, x30_2, rfl, HA, HJ2, HO_4, BK154, HB⟩ := hcut
    cases kq with
    | zero => exact absurd HA.out (by simp [impl_ReadBay.j0])
    | succ kj2 =>
      have H := HA.out
      clear HA
      simp only [impl_ReadBay.j0] at H
      by_cases c10 : x30_2 = true
      · subst c10
        have H1 : (some (0, 0, (fun _ => 0 : Nat → Int), 5)) = some (r1, r2, r3, r4) := by rw [if_pos rfl] at H; exact H
        clear H
        have H := H1
        clear H1
        simp only [Option.some.injEq, Prod.mk.injEq] at H
        obtain ⟨rfl, rfl, rfl, rfl⟩ := H
        have hcz11_0 : wc.cell? ⟨gb154, 0, none⟩ = some (.int .i8 0) := (blk_cell BK154.out 0).trans rfl
        have hcz11_1 : wc.cell? ⟨gb154, 1, none⟩ = some (.int .i8 0) := (blk_cell BK154.out 1).trans rfl
        have hwz11 := lv28_at BK154.out; have haz11 := at_cells BK154.out; have hyz11 := BayAt28_of BK154.out; have hvz11 := lvv_of BK154.out; have hzz11 := fun q_ => blk_frozen BK154.out q_
        have hfz11_0 := blk_frozen BK154.out 0
        have hfz11_1 := blk_frozen BK154.out 1
        have hfz11_2 := blk_frozen BK154.out 2
        go_wp2_with (first | ((with_reducible refine gate_store (t := 28) (p := 2) rfl ?_); refine bay_event (T := 28) (p := 2) (v := ?vo_w12) (g := gb154) (a1 := 0) (b1 := 0) (d1 := (fun _ => 0 : Nat → Int)) ?hg ?ho ?hn info28s ?hp ?hv (by (with_reducible repeat (first | refine blk_drewN ?_ _ | refine blk_drew ?_ | refine blk_alloc ?_ _)); exact BK154.out) ?_; (case ho => rfl); (case hg => rfl); (case hn => rfl); (case hp => rfl); (case hv => rfl); intro w12 hw; have n0_ : Aside0 (Kd.R Kd.string 9 w12 w.heap.size (fun _ => True) v157 t155) := ⟨(by rw [hw]; exact (by (with_reducible repeat (first | apply Kd.R_alloc | apply Kd.R_drewN | apply Kd.R_drew)); exact Kd.R_mono (Kd.R_keep (Kd.R_types HO_4.out BK154.out (by decide)) (setRow_keep _ _ _) (fun _ hk => hk.2)) (fun _ hk => trivial)))⟩; have n1_ : Aside0 (w12.heap[gb154]? = some (.cells (csBay 0 0 (fun _ => 0 : Nat → Int)) 28 (0, 0))) := ⟨(by rw [hw]; exact (by (with_reducible repeat (first | refine blk_drewN ?_ _ | refine blk_drew ?_ | refine blk_alloc ?_ _)); refine blk_row (old := (csBay 0 0 (fun _ => 0 : Nat → Int))) ?_ _; (with_reducible repeat (first | refine blk_drewN ?_ _ | refine blk_drew ?_ | refine blk_alloc ?_ _)); exact BK154.out))⟩; have n2_ : Aside0 (Below w.heap.size w w12) := ⟨(by rw [hw]; exact (by repeat (first | (with_reducible first | exact HB.out | apply below_alloc | apply pw_below_drewN | apply below_drew1 | refine below_set ?_ GE154.out | refine below_row ?_ GE154.out _) | exact HB.out)))⟩; clear hw; clear HO_4; clear BK154; clear HB; have HO_4 := n0_; have BK154 := n1_; have HB := n2_; clear n0_ n1_ n2_))
        refine bodyPost_ret (results_ct rfl _ _ gb154 28 (csBay 0 0 (fun _ => 0 : Nat → Int)) (0, 0) _ rfl (by (with_reducible repeat (first | refine blk_drewN ?_ _ | refine blk_drew ?_ | refine blk_alloc ?_ _)); exact BK154.out) Tryd.underlying28 rfl (by kernel_rfl)) rfl ?_
        exact ⟨by first | rfl | (simp [errW_none, errW_some] <;> rfl) | (simp [*, errW_none, errW_some] <;> rfl), by repeat (first | (with_reducible first | exact HB.out | apply below_alloc | apply pw_below_drewN | apply below_drew1 | refine below_set ?_ GE154.out | refine below_row ?_ GE154.out _) | exact HB.out)⟩
      · replace c10 := Bool.eq_false_iff.mpr c10
        subst c10
        have H1 : (impl_ReadBay.l0 kj2 t155 (t155.length : Int) 0 0 (IntKind.i8.wrap ((t155.length : Int))) (fun _ => 0 : Nat → Int)) = some (r1, r2, r3, r4) := by rw [if_neg (show ¬ (false = true) by decide)] at H; exact H
        clear H
        have H := H1
        clear H1
        have H' := Aside0.mk H
        clear H
        obtain ⟨Ao13, co13, eo13⟩ := Kd.R_slice HO_4.out
        subst eo13
        go_wp2_with (first | ((with_reducible refine gate_dst (N := 6) rfl ?_); (try (refine gate_guard (by rfl) ?_; dsimp only)); refine box_event ?hg (N := 6) ?hd (cs := (csBay 0 0 (fun _ => 0 : Nat → Int))) (t := 28) ?hr ?_; (case hd => rfl); (case hg => rfl); (case hr => first | (go_simp; done) | (go_simp; rfl)); intro gb159 hg w14 hbox hb; have n0_ := Aside0.mk (Kd.R_below (by (with_reducible repeat (first | apply Kd.R_alloc | apply Kd.R_drewN | apply Kd.R_drew)); exact HO_4.out) hb); have n1_ := Aside0.mk (blk_below (g := gb154) (o := .cells (csBay 0 0 (fun _ => 0 : Nat → Int)) 28 (0, 0)) (by (with_reducible repeat (first | refine blk_drewN ?_ _ | refine blk_drew ?_ | refine blk_alloc ?_ _)); exact BK154.out) hb); have n2_ := Aside0.mk (below_step (by repeat (first | (with_reducible first | exact HB.out | apply below_alloc | apply pw_below_drewN | apply below_drew1 | refine below_set ?_ GE154.out | refine below_row ?_ GE154.out _) | exact HB.out)) hb); have n3_ := Aside0.mk (hbox); have n4_ := Aside0.mk ((by rw [hg]; exact (below_size (by repeat (first | (with_reducible first | exact HB.out | apply below_alloc | apply pw_below_drewN | apply below_drew1 | refine below_set ?_ GE154.out | refine below_row ?_ GE154.out _) | exact HB.out))) : w.heap.size ≤ gb159)); have n5_ := Aside0.mk ((by rw [hg]; exact (below_size (by repeat (first | (with_reducible first | exact HB.out | apply below_alloc | apply pw_below_drewN | apply below_drew1 | refine below_set ?_ GE154.out | refine below_row ?_ GE154.out _) | exact HB.out))) : w.heap.size ≤ gb159)); have n6_ := Aside0.mk ((by rw [hg]; exact Nat.ne_of_lt (blk_lt (g := gb154) (o := .cells (csBay 0 0 (fun _ => 0 : Nat → Int)) 28 (0, 0)) (by (with_reducible repeat (first | refine blk_drewN ?_ _ | refine blk_drew ?_ | refine blk_alloc ?_ _)); exact BK154.out)) : gb154 ≠ gb159)); have n7_ := Aside0.mk ((by rw [hg]; exact Nat.ne_of_gt (blk_lt (g := gb154) (o := .cells (csBay 0 0 (fun _ => 0 : Nat → Int)) 28 (0, 0)) (by (with_reducible repeat (first | refine blk_drewN ?_ _ | refine blk_drew ?_ | refine blk_alloc ?_ _)); exact BK154.out)) : gb159 ≠ gb154)); clear HO_4; clear BK154; clear HB; have HO_4 := n0_; have BK154 := n1_; have HB := n2_; have BK159 := n3_; have GW159 := n4_; have GE159 := n5_; have NB154_159 := n6_; have NB159_154 := n7_; clear n0_ n1_ n2_ n3_ n4_ n5_ n6_ n7_; clear hb hbox hg; have hnb15 := NB159_154.out; have hnc15 := NB154_159.out; have hcz16_0 : w14.cell? ⟨gb159, 0, none⟩ = some (.int .i8 0) := (blk_cell BK159.out 0).trans rfl; have hcz16_1 : w14.cell? ⟨gb159, 1, none⟩ = some (.int .i8 0) := (blk_cell BK159.out 1).trans rfl; have hwz16 := lv28_at BK159.out; have haz16 := at_cells BK159.out; have hyz16 := BayAt28_of BK159.out; have hvz16 := lvv_of BK159.out; have hzz16 := fun q_ => blk_frozen BK159.out q_; have hfz16_0 := blk_frozen BK159.out 0; have hfz16_1 := blk_frozen BK159.out 1; have hfz16_2 := blk_frozen BK159.out 2) | ((with_reducible refine gate_store (t := 28) (p := 6) rfl ?_); refine bay_event (T := 28) (p := 6) (v := ?vo_w17) (g := gb159) (a1 := 0) (b1 := IntKind.i8.wrap ((t155.length : Int))) (d1 := (fun _ => 0 : Nat → Int)) ?hg ?ho ?hn info28s ?hp ?hv (by (with_reducible repeat (first | refine blk_drewN ?_ _ | refine blk_drew ?_ | refine blk_alloc ?_ _)); exact BK159.out) ?_; (case ho => rfl); (case hg => rfl); (case hn => rfl); (case hp => rfl); (case hv => rfl); intro w17 hw; have n0_ : Aside0 (Kd.R Kd.string 9 w17 w.heap.size (fun _ => True) (.slice Ao13 t155.length co13) t155) := ⟨(by rw [hw]; exact (by (with_reducible repeat (first | apply Kd.R_alloc | apply Kd.R_drewN | apply Kd.R_drew)); exact Kd.R_mono (Kd.R_keep (Kd.R_types HO_4.out BK159.out (by decide)) (setRow_keep _ _ _) (fun _ hk => hk.2)) (fun _ hk => trivial)))⟩; have n1_ : Aside0 (w17.heap[gb154]? = some (.cells (csBay 0 0 (fun _ => 0 : Nat → Int)) 28 (0, 0))) := ⟨(by rw [hw]; exact (by (with_reducible repeat (first | refine blk_drewN ?_ _ | refine blk_drew ?_ | refine blk_alloc ?_ _)); refine blk_row_far ?_ NB154_159.out _; (with_reducible repeat (first | refine blk_drewN ?_ _ | refine blk_drew ?_ | refine blk_alloc ?_ _)); exact BK154.out))⟩; have n2_ : Aside0 (w17.heap[gb159]? = some (.cells (csBay 0 (IntKind.i8.wrap ((t155.length : Int))) (fun _ => 0 : Nat → Int)) 28 (0, 0))) := ⟨(by rw [hw]; exact (by (with_reducible repeat (first | refine blk_drewN ?_ _ | refine blk_drew ?_ | refine blk_alloc ?_ _)); refine blk_row (old := (csBay 0 0 (fun _ => 0 : Nat → Int))) ?_ _; (with_reducible repeat (first | refine blk_drewN ?_ _ | refine blk_drew ?_ | refine blk_alloc ?_ _)); exact BK159.out))⟩; have n3_ : Aside0 (Below w.heap.size w w17) := ⟨(by rw [hw]; exact (by repeat (first | (with_reducible first | exact HB.out | apply below_alloc | apply pw_below_drewN | apply below_drew1 | refine below_set ?_ GE154.out | refine below_set ?_ GE159.out | refine below_row ?_ GE154.out _ | refine below_row ?_ GE159.out _) | exact HB.out)))⟩; clear hw; clear HO_4; clear BK154; clear BK159; clear HB; have HO_4 := n0_; have BK154 := n1_; have BK159 := n2_; have HB := n3_; clear n0_ n1_ n2_ n3_))
        go_loopg [38] kj2 (fun kq v38 w' => ∃ (x38_2 : Int) (x155000_2 : Int) (x155001_2 : Int) (x155002_2 : (Nat → Int)) (x160000_2 : Int) (x160002_2 : (Nat → Int)), v38 = .int .i64 x38_2 ∧ Aside0 (impl_ReadBay.l0 kq t155 (t155.length : Int) x38_2 x160000_2 (IntKind.i8.wrap ((t155.length : Int))) x160002_2 = some (r1, r2, r3, r4)) ∧ Aside0 (kq ≤ kj2) ∧ Aside0 (Kd.R Kd.string 9 w' w.heap.size (fun _ => True) (.slice Ao13 t155.length co13) t155) ∧ Aside0 (w'.heap[gb154]? = some (.cells (csBay x155000_2 x155001_2 x155002_2) 28 (0, 0))) ∧ Aside0 (w'.heap[gb159]? = some (.cells (csBay x160000_2 (IntKind.i8.wrap ((t155.length : Int))) x160002_2) 28 (0, 0))) ∧ Aside0 (Below w.heap.size w w'))
        case atStart => exact ⟨(0), (0), (0), ((fun _ => 0 : Nat → Int)), (0), ((fun _ => 0 : Nat → Int)), (by first | rfl | (simp; done) | (simp [*]; done) | (rw [i8_wrap_le] <;> first | rfl | omega) | (congr 1; unfold wrap64; omega)), H', ⟨Nat.le_refl _⟩, ⟨by (with_reducible repeat (first | apply Kd.R_alloc | apply Kd.R_drewN | apply Kd.R_drew)); exact HO_4.out⟩, ⟨by (with_reducible repeat (first | refine blk_drewN ?_ _ | refine blk_drew ?_ | refine blk_alloc ?_ _)); exact BK154.out⟩, ⟨by (with_reducible repeat (first | refine blk_drewN ?_ _ | refine blk_drew ?_ | refine blk_alloc ?_ _)); exact BK159.out⟩, ⟨by repeat (first | (with_reducible first | exact HB.out | apply below_alloc | apply pw_below_drewN | apply below_drew1 | refine below_set ?_ GE154.out | refine below_set ?_ GE159.out | refine below_row ?_ GE154.out _ | refine below_row ?_ GE159.out _) | exact HB.out)⟩⟩
        case round =>
          clear H'
          try clear c1
          try clear p2
          try clear c3
          try clear c6
          try clear c7
          try clear c7b0
          try clear c7b1
          try clear c10
          try clear c15
          try clear c16
          try clear hcz11_0
          try clear hcz11_1
          try clear hcz16_0
          try clear hcz16_1
          try clear hfz11_0
          try clear hfz11_1
          try clear hfz11_2
          try clear hfz16_0
          try clear hfz16_1
          try clear hfz16_2
          try clear p2
          obtain ⟨x38_2, x155000_2, x155001_2, x155002_2, x160000_2, x160002_2, rfl, HA, HK2, HO_36, BK154, BK159, HB⟩ := hrel
          cases gk with
          | zero => exact absurd HA.out (by simp [impl_ReadBay.l0])
          | succ k2 =>
            have H := HA.out
            clear HA
            simp only [impl_ReadBay.l0] at H
            by_cases c18 : x38_2 < (t155.length : Int)
            · rw [if_pos c18] at H
              have c18b0 : decide (x38_2 < (t155.length : Int)) = true := decide_eq_true c18
              clear c18
              by_cases c19 : 0 ≤ x38_2
              · rw [if_pos c19] at H
                have c19b0 : decide (0 ≤ x38_2) = true := decide_eq_true c19
                have c19b1 : 0 ≤ x38_2 := c19
                clear c19
                by_cases c20 : x38_2 < (t155.length : Int)
                · rw [if_pos c20] at H
                  have c20b0 : decide (x38_2 < (t155.length : Int)) = true := decide_eq_true c20
                  clear c20
                  replace H := Option.bind_eq_some_iff.mp H
                  obtain ⟨t162, A210, H⟩ := H
                  replace H : (if (t162.length : Int) > 16 then (impl_ReadBay.j2 k2 x38_2 t162 t155 (t155.length : Int) x38_2 true x160000_2 (IntKind.i8.wrap ((t155.length : Int))) x160002_2) else (if x38_2 > 0 then (impl_ReadBay.j2 k2 x38_2 t162 t155 (t155.length : Int) x38_2 ((t162.length : Int) != (wrap64 (x160000_2))) x160000_2 (IntKind.i8.wrap ((t155.length : Int))) x160002_2) else (impl_ReadBay.j2 k2 x38_2 t162 t155 (t155.length : Int) x38_2 false x160000_2 (IntKind.i8.wrap ((t155.length : Int))) x160002_2))) = some (r1, r2, r3, r4) := H
                  have A21 := Aside0.mk A210
                  clear A210
                  have HC22 := Aside0.mk H
                  clear H
                  have p161 : 0 ≤ (x38_2 : Int) := of_decide_eq_true (by first | (with_reducible assumption) | assumption)
                  have q161 : x38_2 < (t155.length : Int) := of_decide_eq_true (by first | (with_reducible assumption) | assumption)
                  obtain ⟨ad161, e161, hx161_0⟩ := Kd.at_string (Kd.R_reads' HO_36.out).2.2 x38_2 p161 q161
                  cases e161
                  replace p161 := eq_true p161
                  replace q161 := eq_true q161
                  go_upto_region 9 with (first | ((with_reducible refine gate_callee (f := 38) rfl ?_); refine goesL_ (some 44) rfl rfl Tryd.func38 (by kernel_rfl) rfl #[.string (rdOf ByteArray.empty t155 x38_2), .string (⟨#[32]⟩ : ByteArray)] rfl (by (try simp only [List.map_toArray, List.map_cons, List.map_nil]); first | done | rfl | (simp only [List.length_drop, List.length_take]; rfl)) ?_; (with_reducible refine (strings_Split.calls (rdOf ByteArray.empty t155 x38_2) (⟨#[32]⟩ : ByteArray) t162 _ A21.out ?htbb).mono ?_); (case htbb => exact Go.Proofs.YteffdjfiialdfaaDoor.Shelf.TBb.below HTBb.out (by repeat (first | (with_reducible first | exact HB.out | apply below_alloc | apply pw_below_drewN | apply below_drew1 | refine below_set ?_ (Aside0.out (by assumption))) | exact HB.out))); rintro e w23 ⟨v163, rfl, ho0, hb⟩; refine ⟨_, rfl, ?_⟩; have n0_ := Aside0.mk (Kd.R_elder' (by (with_reducible repeat (first | apply Kd.R_alloc | apply Kd.R_drewN | apply Kd.R_drew)); exact HO_36.out) (Kd.R_base ho0) hb); have n1_ := Aside0.mk (Kd.R_lower (Kd.R_new' ho0 (Kd.R_lt (by (with_reducible repeat (first | apply Kd.R_alloc | apply Kd.R_drewN | apply Kd.R_drew)); exact HO_36.out))) (below_size (by repeat (first | (with_reducible first | exact HB.out | apply below_alloc | apply pw_below_drewN | apply below_drew1 | refine below_set ?_ GE154.out | refine below_set ?_ GE159.out | refine below_row ?_ GE154.out _ | refine below_row ?_ GE159.out _) | exact HB.out)))); have n2_ := Aside0.mk (blk_below (g := gb154) (o := .cells (csBay x155000_2 x155001_2 x155002_2) 28 (0, 0)) (by (with_reducible repeat (first | refine blk_drewN ?_ _ | refine blk_drew ?_ | refine blk_alloc ?_ _)); exact BK154.out) hb); have n3_ := Aside0.mk (blk_below (g := gb159) (o := .cells (csBay x160000_2 (IntKind.i8.wrap ((t155.length : Int))) x160002_2) 28 (0, 0)) (by (with_reducible repeat (first | refine blk_drewN ?_ _ | refine blk_drew ?_ | refine blk_alloc ?_ _)); exact BK159.out) hb); have n4_ := Aside0.mk (below_step (by repeat (first | (with_reducible first | exact HB.out | apply below_alloc | apply pw_below_drewN | apply below_drew1 | refine below_set ?_ GE154.out | refine below_set ?_ GE159.out | refine below_row ?_ GE154.out _ | refine below_row ?_ GE159.out _) | exact HB.out)) hb); clear HO_36; clear BK154; clear BK159; clear HB; have HO_36 := n0_; have HO164 := n1_; have BK154 := n2_; have BK159 := n3_; have HB := n4_; clear n0_ n1_ n2_ n3_ n4_; (try clear hb); (try clear hb2); (try clear hk); (try clear hi); (try clear ho0)))
                  (try simp only [Act.put, List.setIfInBounds_toArray, List.set_cons_zero, List.set_cons_succ])
                  go_cut [59] (fun v59 wc => ∃ (kq : Nat) (x59_21 : Bool), v59 = .bool x59_21 ∧ Aside0 (impl_ReadBay.j2 kq x38_2 t162 t155 (t155.length : Int) x38_2 x59_21 x160000_2 (IntKind.i8.wrap ((t155.length : Int))) x160002_2 = some (r1, r2, r3, r4)) ∧ Aside0 (kq ≤ k2) ∧ Aside0 (Kd.R Kd.string 9 wc w.heap.size (fun k_ => some k_ ≠ ((.slice (some ad161) t155.length co13) : Value).ownBlock) v163 t162) ∧ Aside0 (Kd.R Kd.string 9 wc w.heap.size (fun k_ => some k_ ≠ (v163 : Value).ownBlock) (.slice (some ad161) t155.length co13) t155) ∧ Aside0 (wc.heap[gb154]? = some (.cells (csBay x155000_2 x155001_2 x155002_2) 28 (0, 0))) ∧ Aside0 (wc.heap[gb159]? = some (.cells (csBay x160000_2 (IntKind.i8.wrap ((t155.length : Int))) x160002_2) 28 (0, 0))) ∧ Aside0 (Below w.heap.size w wc))
                  case first =>
                    have H := HC22.out
                    clear HC22
                    by_cases c24 : (t162.length : Int) > 16
                    · rw [if_pos c24] at H
                      have c24b0 : decide (16 < (t162.length : Int)) = true := decide_eq_true c24
                      have c24b1 : decide (16 < t162.length) = true := decide_eq_true (by omega)
                      clear c24
                      (first | rw [c24b0] | (simp only [i64_w, i32_w]; rw [c24b0]) | skip)
                      have H' := Aside0.mk H
                      clear H
                      obtain ⟨Ao25, co25, eo25⟩ := Kd.R_slice HO164.out
                      subst eo25
                      go_wp2
                      go_meet
                      case rel => exact ⟨_, (true), (by first | rfl | (simp; done) | (simp [*]; done) | (rw [i8_wrap_le] <;> first | rfl | omega) | (congr 1; unfold wrap64; omega)), H', ⟨by have := HJ2.out; have := HK2.out; first | omega | exact Nat.le_refl _⟩, ⟨by (with_reducible repeat (first | apply Kd.R_alloc | apply Kd.R_drewN | apply Kd.R_drew)); exact Kd.R_mono HO164.out (fun _ hk => hk.2)⟩, ⟨by (with_reducible repeat (first | apply Kd.R_alloc | apply Kd.R_drewN | apply Kd.R_drew)); exact Kd.R_mono HO_36.out (fun _ hk => hk.2)⟩, ⟨by (with_reducible repeat (first | refine blk_drewN ?_ _ | refine blk_drew ?_ | refine blk_alloc ?_ _)); exact BK154.out⟩, ⟨by (with_reducible repeat (first | refine blk_drewN ?_ _ | refine blk_drew ?_ | refine blk_alloc ?_ _)); exact BK159.out⟩, ⟨by repeat (first | (with_reducible first | exact HB.out | apply below_alloc | apply pw_below_drewN | apply below_drew1 | refine below_set ?_ GE154.out | refine below_set ?_ GE159.out | refine below_row ?_ GE154.out _ | refine below_row ?_ GE159.out _) | exact HB.out)⟩⟩
                    · rw [if_neg c24] at H
                      have c24b0 : decide (16 < (t162.length : Int)) = false := decide_eq_false c24
                      have c24b1 : decide (16 < t162.length) = false := decide_eq_false (by omega)
                      clear c24
                      (first | rw [c24b0] | (simp only [i64_w, i32_w]; rw [c24b0]) | skip)
                      by_cases c26 : x38_2 > 0
                      · rw [if_pos c26] at H
                        have c26b0 : decide (0 < x38_2) = true := decide_eq_true c26
                        clear c26
                        have H' := Aside0.mk H
                        clear H
                        obtain ⟨Ao27, co27, eo27⟩ := Kd.R_slice HO164.out
                        subst eo27
                        have hnb28 := NB159_154.out
                        have hnc28 := NB154_159.out
                        have hcz29_0 : w23.cell? ⟨gb159, 0, none⟩ = some (.int .i8 x160000_2) := (blk_cell BK159.out 0).trans rfl
                        have hcz29_1 : w23.cell? ⟨gb159, 1, none⟩ = some (.int .i8 (IntKind.i8.wrap ((t155.length : Int)))) := (blk_cell BK159.out 1).trans rfl
                        have hwz29 := lv28_at BK159.out; have haz29 := at_cells BK159.out; have hyz29 := BayAt28_of BK159.out; have hvz29 := lvv_of BK159.out; have hzz29 := fun q_ => blk_frozen BK159.out q_
                        have hfz29_0 := blk_frozen BK159.out 0
                        have hfz29_1 := blk_frozen BK159.out 1
                        have hfz29_2 := blk_frozen BK159.out 2
                        go_wp2
                        go_meet
                        case rel => exact ⟨_, (((t162.length : Int) != (wrap64 (x160000_2)))), (by first | rfl | (simp; done) | (simp [*]; done) | (rw [i8_wrap_le] <;> first | rfl | omega) | (congr 1; unfold wrap64; omega)), H', ⟨by have := HJ2.out; have := HK2.out; first | omega | exact Nat.le_refl _⟩, ⟨by (with_reducible repeat (first | apply Kd.R_alloc | apply Kd.R_drewN | apply Kd.R_drew)); exact Kd.R_mono HO164.out (fun _ hk => hk.2)⟩, ⟨by (with_reducible repeat (first | apply Kd.R_alloc | apply Kd.R_drewN | apply Kd.R_drew)); exact Kd.R_mono HO_36.out (fun _ hk => hk.2)⟩, ⟨by (with_reducible repeat (first | refine blk_drewN ?_ _ | refine blk_drew ?_ | refine blk_alloc ?_ _)); exact BK154.out⟩, ⟨by (with_reducible repeat (first | refine blk_drewN ?_ _ | refine blk_drew ?_ | refine blk_alloc ?_ _)); exact BK159.out⟩, ⟨by repeat (first | (with_reducible first | exact HB.out | apply below_alloc | apply pw_below_drewN | apply below_drew1 | refine below_set ?_ GE154.out | refine below_set ?_ GE159.out | refine below_row ?_ GE154.out _ | refine below_row ?_ GE159.out _) | exact HB.out)⟩⟩
                      · rw [if_neg c26] at H
                        have c26b0 : decide (0 < x38_2) = false := decide_eq_false c26
                        clear c26
                        have H' := Aside0.mk H
                        clear H
                        obtain ⟨Ao30, co30, eo30⟩ := Kd.R_slice HO164.out
                        subst eo30
                        go_wp2
                        go_meet
                        case rel => exact ⟨_, (false), (by first | rfl | (simp; done) | (simp [*]; done) | (rw [i8_wrap_le] <;> first | rfl | omega) | (congr 1; unfold wrap64; omega)), H', ⟨by have := HJ2.out; have := HK2.out; first | omega | exact Nat.le_refl _⟩, ⟨by (with_reducible repeat (first | apply Kd.R_alloc | apply Kd.R_drewN | apply Kd.R_drew)); exact Kd.R_mono HO164.out (fun _ hk => hk.2)⟩, ⟨by (with_reducible repeat (first | apply Kd.R_alloc | apply Kd.R_drewN | apply Kd.R_drew)); exact Kd.R_mono HO_36.out (fun _ hk => hk.2)⟩, ⟨by (with_reducible repeat (first | refine blk_drewN ?_ _ | refine blk_drew ?_ | refine blk_alloc ?_ _)); exact BK154.out⟩, ⟨by (with_reducible repeat (first | refine blk_drewN ?_ _ | refine blk_drew ?_ | refine blk_alloc ?_ _)); exact BK159.out⟩, ⟨by repeat (first | (with_reducible first | exact HB.out | apply below_alloc | apply pw_below_drewN | apply below_drew1 | refine below_set ?_ GE154.out | refine below_set ?_ GE159.out | refine below_row ?_ GE154.out _ | refine below_row ?_ GE159.out _) | exact HB.out)⟩⟩
                  case rest =>
                    clear HC22
                    try clear c1
                    try clear p1
                    try clear q1
                    try clear hx1
                    try clear c2
                    try clear p2
                    try clear c3
                    try clear c6
                    try clear p6
                    try clear c7
                    try clear c7b0
                    try clear c7b1
                    try clear c10
                    try clear c15
                    try clear c16
                    try clear p16
                    try clear q16
                    try clear hx16
                    try clear c18
                    try clear c18b0
                    try clear c19
                    try clear c19b0
                    try clear c19b1
                    try clear c20
                    try clear c20b0
                    try clear c24
                    try clear c24b0
                    try clear c24b1
                    try clear c26
                    try clear c26b0
                    try clear c28
                    try clear hcz11_0
                    try clear hcz11_1
                    try clear hcz16_0
                    try clear hcz16_1
                    try clear hcz29_0
                    try clear hcz29_1
                    try clear hfz11_0
                    try clear hfz11_1
                    try clear hfz11_2
                    try clear hfz16_0
                    try clear hfz16_1
                    try clear hfz16_2
                    try clear hfz29_0
                    try clear hfz29_1
                    try clear hfz29_2
                    try clear hx161_0
                    try clear p161
                    try clear p2
                    try clear q161
                    obtain ⟨kq, x59_21, rfl, HA, HJ21, HO_9, HO_36, BK154, BK159, HB⟩ := hcut
                    cases kq with
                    | zero => exact absurd HA.out (by simp [impl_ReadBay.j2])
                    | succ kj21 =>
                      have H := HA.out
                      clear HA
                      simp only [impl_ReadBay.j2] at H
                      by_cases c31 : x59_21 = true
                      · subst c31
                        have H1 : (some (0, 0, (fun _ => 0 : Nat → Int), 5)) = some (r1, r2, r3, r4) := by rw [if_pos rfl] at H; exact H
                        clear H
                        have H := H1
                        clear H1
                        simp only [Option.some.injEq, Prod.mk.injEq] at H
                        obtain ⟨rfl, rfl, rfl, rfl⟩ := H
                        have hnb32 := NB154_159.out
                        have hnc32 := NB159_154.out
                        have hcz33_0 : wc.cell? ⟨gb154, 0, none⟩ = some (.int .i8 x155000_2) := (blk_cell BK154.out 0).trans rfl
                        have hcz33_1 : wc.cell? ⟨gb154, 1, none⟩ = some (.int .i8 x155001_2) := (blk_cell BK154.out 1).trans rfl
                        have hwz33 := lv28_at BK154.out; have haz33 := at_cells BK154.out; have hyz33 := BayAt28_of BK154.out; have hvz33 := lvv_of BK154.out; have hzz33 := fun q_ => blk_frozen BK154.out q_
                        have hfz33_0 := blk_frozen BK154.out 0
                        have hfz33_1 := blk_frozen BK154.out 1
                        have hfz33_2 := blk_frozen BK154.out 2
                        go_wp2_with (first | ((with_reducible refine gate_store (t := 28) (p := 2) rfl ?_); refine bay_event (T := 28) (p := 2) (v := ?vo_w34) (g := gb154) (a1 := 0) (b1 := 0) (d1 := (fun _ => 0 : Nat → Int)) ?hg ?ho ?hn info28s ?hp ?hv (by (with_reducible repeat (first | refine blk_drewN ?_ _ | refine blk_drew ?_ | refine blk_alloc ?_ _)); exact BK154.out) ?_; (case ho => rfl); (case hg => rfl); (case hn => rfl); (case hp => rfl); (case hv => rfl); intro w34 hw; have n0_ : Aside0 (Kd.R Kd.string 9 w34 w.heap.size (fun k_ => some k_ ≠ (.slice (some ad161) t155.length co13 : Value).ownBlock) v163 t162) := ⟨(by rw [hw]; exact (by (with_reducible repeat (first | apply Kd.R_alloc | apply Kd.R_drewN | apply Kd.R_drew)); exact Kd.R_mono (Kd.R_keep (Kd.R_types HO_9.out BK154.out (by decide)) (setRow_keep _ _ _) (fun _ hk => hk.2)) (fun _ hk => hk.1)))⟩; have n1_ : Aside0 (Kd.R Kd.string 9 w34 w.heap.size (fun k_ => some k_ ≠ (v163 : Value).ownBlock) (.slice (some ad161) t155.length co13) t155) := ⟨(by rw [hw]; exact (by (with_reducible repeat (first | apply Kd.R_alloc | apply Kd.R_drewN | apply Kd.R_drew)); exact Kd.R_mono (Kd.R_keep (Kd.R_types HO_36.out BK154.out (by decide)) (setRow_keep _ _ _) (fun _ hk => hk.2)) (fun _ hk => hk.1)))⟩; have n2_ : Aside0 (w34.heap[gb154]? = some (.cells (csBay 0 0 (fun _ => 0 : Nat → Int)) 28 (0, 0))) := ⟨(by rw [hw]; exact (by (with_reducible repeat (first | refine blk_drewN ?_ _ | refine blk_drew ?_ | refine blk_alloc ?_ _)); refine blk_row (old := (csBay x155000_2 x155001_2 x155002_2)) ?_ _; (with_reducible repeat (first | refine blk_drewN ?_ _ | refine blk_drew ?_ | refine blk_alloc ?_ _)); exact BK154.out))⟩; have n3_ : Aside0 (w34.heap[gb159]? = some (.cells (csBay x160000_2 (IntKind.i8.wrap ((t155.length : Int))) x160002_2) 28 (0, 0))) := ⟨(by rw [hw]; exact (by (with_reducible repeat (first | refine blk_drewN ?_ _ | refine blk_drew ?_ | refine blk_alloc ?_ _)); refine blk_row_far ?_ NB159_154.out _; (with_reducible repeat (first | refine blk_drewN ?_ _ | refine blk_drew ?_ | refine blk_alloc ?_ _)); exact BK159.out))⟩; have n4_ : Aside0 (Below w.heap.size w w34) := ⟨(by rw [hw]; exact (by repeat (first | (with_reducible first | exact HB.out | apply below_alloc | apply pw_below_drewN | apply below_drew1 | refine below_set ?_ GE154.out | refine below_set ?_ GE159.out | refine below_row ?_ GE154.out _ | refine below_row ?_ GE159.out _) | exact HB.out)))⟩; clear hw; clear HO_9; clear HO_36; clear BK154; clear BK159; clear HB; have HO_9 := n0_; have HO_36 := n1_; have BK154 := n2_; have BK159 := n3_; have HB := n4_; clear n0_ n1_ n2_ n3_ n4_))
                        refine bodyPost_ret (results_ct rfl _ _ gb154 28 (csBay 0 0 (fun _ => 0 : Nat → Int)) (0, 0) _ rfl (by (with_reducible repeat (first | refine blk_drewN ?_ _ | refine blk_drew ?_ | refine blk_alloc ?_ _)); exact BK154.out) Tryd.underlying28 rfl (by kernel_rfl)) rfl ?_
                        exact ⟨by first | rfl | (simp [errW_none, errW_some] <;> rfl) | (simp [*, errW_none, errW_some] <;> rfl), by repeat (first | (with_reducible first | exact HB.out | apply below_alloc | apply pw_below_drewN | apply below_drew1 | refine below_set ?_ GE154.out | refine below_set ?_ GE159.out | refine below_row ?_ GE154.out _ | refine below_row ?_ GE159.out _) | exact HB.out)⟩
                      · replace c31 := Bool.eq_false_iff.mpr c31
                        subst c31
                        have H1 : (impl_ReadBay.l1 kj21 x38_2 t155 (t155.length : Int) x38_2 t162 (t162.length : Int) 0 (IntKind.i8.wrap ((t162.length : Int))) (IntKind.i8.wrap ((t155.length : Int))) x160002_2) = some (r1, r2, r3, r4) := by rw [if_neg (show ¬ (false = true) by decide)] at H; exact H
                        clear H
                        have H := H1
                        clear H1
                        have H' := Aside0.mk H
                        clear H
                        obtain ⟨Ao35, co35, eo35⟩ := Kd.R_slice HO_9.out
                        subst eo35
                        have hnb36 := NB159_154.out
                        have hnc36 := NB154_159.out
                        have hcz37_0 : wc.cell? ⟨gb159, 0, none⟩ = some (.int .i8 x160000_2) := (blk_cell BK159.out 0).trans rfl
                        have hcz37_1 : wc.cell? ⟨gb159, 1, none⟩ = some (.int .i8 (IntKind.i8.wrap ((t155.length : Int)))) := (blk_cell BK159.out 1).trans rfl
                        have hwz37 := lv28_at BK159.out; have haz37 := at_cells BK159.out; have hyz37 := BayAt28_of BK159.out; have hvz37 := lvv_of BK159.out; have hzz37 := fun q_ => blk_frozen BK159.out q_
                        have hfz37_0 := blk_frozen BK159.out 0
                        have hfz37_1 := blk_frozen BK159.out 1
                        have hfz37_2 := blk_frozen BK159.out 2
                        go_wp2
                        go_loopg [67] kj21 (fun kq v67 w' => ∃ (x67_4 : Int) (x155000_4 : Int) (x155001_4 : Int) (x155002_4 : (Nat → Int)) (x160002_4 : (Nat → Int)), v67 = .int .i64 x67_4 ∧ Aside0 (impl_ReadBay.l1 kq x38_2 t155 (t155.length : Int) x38_2 t162 (t162.length : Int) x67_4 (IntKind.i8.wrap ((t162.length : Int))) (IntKind.i8.wrap ((t155.length : Int))) x160002_4 = some (r1, r2, r3, r4)) ∧ Aside0 (kq ≤ kj21) ∧ Aside0 (Kd.R Kd.string 9 w' w.heap.size (fun k_ => some k_ ≠ ((.slice Ao35 t162.length co35) : Value).ownBlock) (.slice (some ad161) t155.length co13) t155) ∧ Aside0 (Kd.R Kd.string 9 w' w.heap.size (fun k_ => some k_ ≠ ((.slice (some ad161) t155.length co13) : Value).ownBlock) (.slice Ao35 t162.length co35) t162) ∧ Aside0 (w'.heap[gb154]? = some (.cells (csBay x155000_4 x155001_4 x155002_4) 28 (0, 0))) ∧ Aside0 (w'.heap[gb159]? = some (.cells (csBay (IntKind.i8.wrap ((t162.length : Int))) (IntKind.i8.wrap ((t155.length : Int))) x160002_4) 28 (0, 0))) ∧ Aside0 (Below w.heap.size w w'))
                        case atStart => exact ⟨(0), (x155000_2), (x155001_2), (x155002_2), (x160002_2), (by first | rfl | (simp; done) | (simp [*]; done) | (rw [i8_wrap_le] <;> first | rfl | omega) | (congr 1; unfold wrap64; omega)), H', ⟨Nat.le_refl _⟩, ⟨by (with_reducible repeat (first | apply Kd.R_alloc | apply Kd.R_drewN | apply Kd.R_drew)); exact Kd.R_mono (Kd.R_far (p := ⟨gb159, 0, none⟩) (Kd.R_types HO_36.out BK159.out (by decide)) (fun _ hk => hk.2) (.int .i8 (IntKind.i8.wrap ((t162.length : Int))))) (fun _ hk => hk.1)⟩, ⟨by (with_reducible repeat (first | apply Kd.R_alloc | apply Kd.R_drewN | apply Kd.R_drew)); exact Kd.R_mono (Kd.R_far (p := ⟨gb159, 0, none⟩) (Kd.R_types HO_9.out BK159.out (by decide)) (fun _ hk => hk.2) (.int .i8 (IntKind.i8.wrap ((t162.length : Int))))) (fun _ hk => hk.1)⟩, ⟨by (with_reducible repeat (first | refine blk_drewN ?_ _ | refine blk_drew ?_ | refine blk_alloc ?_ _)); refine blk_far ?_ NB154_159.out _; (with_reducible repeat (first | refine blk_drewN ?_ _ | refine blk_drew ?_ | refine blk_alloc ?_ _)); exact BK154.out⟩, ⟨by (with_reducible repeat (first | refine blk_drewN ?_ _ | refine blk_drew ?_ | refine blk_alloc ?_ _)); refine blk_put (cs := (csBay x160000_2 (IntKind.i8.wrap ((t155.length : Int))) x160002_2)) ?_ 0 _ rfl; (with_reducible repeat (first | refine blk_drewN ?_ _ | refine blk_drew ?_ | refine blk_alloc ?_ _)); exact BK159.out⟩, ⟨by repeat (first | (with_reducible first | exact HB.out | apply below_alloc | apply pw_below_drewN | apply below_drew1 | refine below_set ?_ GE154.out | refine below_set ?_ GE159.out | refine below_row ?_ GE154.out _ | refine below_row ?_ GE159.out _) | exact HB.out)⟩⟩
                        case round =>
                          clear H'
                          try clear c1
                          try clear p1
                          try clear q1
                          try clear hx1
                          try clear c2
                          try clear p2
                          try clear c3
                          try clear c6
                          try clear p6
                          try clear c7
                          try clear c7b0
                          try clear c7b1
                          try clear c10
                          try clear c15
                          try clear c16
                          try clear p16
                          try clear q16
                          try clear hx16
                          try clear c18
                          try clear c18b0
                          try clear c19
                          try clear c19b0
                          try clear c19b1
                          try clear c20
                          try clear c20b0
                          try clear c24
                          try clear c24b0
                          try clear c24b1
                          try clear c26
                          try clear c26b0
                          try clear c28
                          try clear c31
                          try clear c32
                          try clear c36
                          try clear c37
                          try clear hcz11_0
                          try clear hcz11_1
                          try clear hcz16_0
                          try clear hcz16_1
                          try clear hcz29_0
                          try clear hcz29_1
                          try clear hcz33_0
                          try clear hcz33_1
                          try clear hcz37_0
                          try clear hcz37_1
                          try clear hfz11_0
                          try clear hfz11_1
                          try clear hfz11_2
                          try clear hfz16_0
                          try clear hfz16_1
                          try clear hfz16_2
                          try clear hfz29_0
                          try clear hfz29_1
                          try clear hfz29_2
                          try clear hfz33_0
                          try clear hfz33_1
                          try clear hfz33_2
                          try clear hfz37_0
                          try clear hfz37_1
                          try clear hfz37_2
                          try clear hx161_0
                          try clear p1
                          try clear p16
                          try clear p161
                          try clear p2
                          try clear p6
                          try clear q1
                          try clear q16
                          try clear q161
                          obtain ⟨x67_4, x155000_4, x155001_4, x155002_4, x160002_4, rfl, HA, HK4, HO_36, HO_65, BK154, BK159, HB⟩ := hrel
                          cases gk with
                          | zero => exact absurd HA.out (by simp [impl_ReadBay.l1])
                          | succ k4 =>
                            have H := HA.out
                            clear HA
                            simp only [impl_ReadBay.l1] at H
                            by_cases c38 : x67_4 < (t162.length : Int)
                            · rw [if_pos c38] at H
                              have c38b0 : decide (x67_4 < (t162.length : Int)) = true := decide_eq_true c38
                              clear c38
                              by_cases c39 : 0 ≤ x67_4
                              · rw [if_pos c39] at H
                                have c39b0 : decide (0 ≤ x67_4) = true := decide_eq_true c39
                                have c39b1 : 0 ≤ x67_4 := c39
                                clear c39
                                by_cases c40 : x67_4 < (t162.length : Int)
                                · rw [if_pos c40] at H
                                  have c40b0 : decide (x67_4 < (t162.length : Int)) = true := decide_eq_true c40
                                  clear c40
                                  replace H := Option.bind_eq_some_iff.mp H
                                  obtain ⟨⟨t166, t167⟩, A410, H⟩ := H
                                  replace H : (if t167 = true then (if 0 ≤ x38_2 then (if x38_2 < 16 then (if x67_4 < 16 then (impl_ReadBay.l1 k4 x38_2 t155 (t155.length : Int) x38_2 t162 (t162.length : Int) (wrap64 (x67_4 + 1)) (IntKind.i8.wrap ((t162.length : Int))) (IntKind.i8.wrap ((t155.length : Int))) (setD x160002_4 (16 * (x38_2 : Int).toNat + (x67_4 : Int).toNat) t166)) else (none)) else (none)) else (none)) else (some (0, 0, (fun _ => 0 : Nat → Int), 5))) = some (r1, r2, r3, r4) := H
                                  have A41 := Aside0.mk A410
                                  clear A410
                                  by_cases c42 : t167 = true
                                  · subst c42
                                    have H1 : (if 0 ≤ x38_2 then (if x38_2 < 16 then (if x67_4 < 16 then (impl_ReadBay.l1 k4 x38_2 t155 (t155.length : Int) x38_2 t162 (t162.length : Int) (wrap64 (x67_4 + 1)) (IntKind.i8.wrap ((t162.length : Int))) (IntKind.i8.wrap ((t155.length : Int))) (setD x160002_4 (16 * (x38_2 : Int).toNat + (x67_4 : Int).toNat) t166)) else (none)) else (none)) else (none)) = some (r1, r2, r3, r4) := by rw [if_pos rfl] at H; exact H
                                    clear H
                                    have H := H1
                                    clear H1
                                    by_cases c43 : 0 ≤ x38_2
                                    · rw [if_pos c43] at H
                                      have c43b0 : decide (0 ≤ x38_2) = true := decide_eq_true c43
                                      have c43b1 : 0 ≤ x38_2 := c43
                                      clear c43
                                      by_cases c44 : x38_2 < 16
                                      · rw [if_pos c44] at H
                                        have c44b0 : decide (x38_2 < 16) = true := decide_eq_true c44
                                        have c44b1 : x38_2 < 16 := c44
                                        clear c44
                                        by_cases c45 : x67_4 < 16
                                        · rw [if_pos c45] at H
                                          have c45b0 : decide (x67_4 < 16) = true := decide_eq_true c45
                                          have c45b1 : x67_4 < 16 := c45
                                          clear c45
                                          have H' := Aside0.mk H
                                          clear H
                                          have p165 : 0 ≤ (x67_4 : Int) := of_decide_eq_true (by first | (with_reducible assumption) | assumption)
                                          have q165 : x67_4 < (t162.length : Int) := of_decide_eq_true (by first | (with_reducible assumption) | assumption)
                                          obtain ⟨ad165, e165, hx165_0⟩ := Kd.at_string (Kd.R_reads' HO_65.out).2.2 x67_4 p165 q165
                                          cases e165
                                          replace p165 := eq_true p165
                                          replace q165 := eq_true q165
                                          go_wp2_with (first | ((with_reducible refine gate_callee (f := 39) rfl ?_); refine goesL_ (some 74) rfl rfl Tryd.func39 (by kernel_rfl) rfl #[.string (rdOf ByteArray.empty t162 x67_4)] rfl (by (try simp only [List.map_toArray, List.map_cons, List.map_nil]); first | done | rfl | (simp only [List.length_drop, List.length_take]; rfl)) ?_; (with_reducible refine (impl_small.calls k4 (rdOf ByteArray.empty t162 x67_4) t166 true _ A41.out).mono ?_); rintro e w46 ⟨rfl, hb⟩; refine ⟨_, rfl, ?_⟩; have n0_ := Aside0.mk (Kd.R_below (by (with_reducible repeat (first | apply Kd.R_alloc | apply Kd.R_drewN | apply Kd.R_drew)); exact HO_36.out) hb); have n1_ := Aside0.mk (Kd.R_below (by (with_reducible repeat (first | apply Kd.R_alloc | apply Kd.R_drewN | apply Kd.R_drew)); exact HO_65.out) hb); have n2_ := Aside0.mk (blk_below (g := gb154) (o := .cells (csBay x155000_4 x155001_4 x155002_4) 28 (0, 0)) (by (with_reducible repeat (first | refine blk_drewN ?_ _ | refine blk_drew ?_ | refine blk_alloc ?_ _)); exact BK154.out) hb); have n3_ := Aside0.mk (blk_below (g := gb159) (o := .cells (csBay (IntKind.i8.wrap ((t162.length : Int))) (IntKind.i8.wrap ((t155.length : Int))) x160002_4) 28 (0, 0)) (by (with_reducible repeat (first | refine blk_drewN ?_ _ | refine blk_drew ?_ | refine blk_alloc ?_ _)); exact BK159.out) hb); have n4_ := Aside0.mk (below_step (by repeat (first | (with_reducible first | exact HB.out | apply below_alloc | apply pw_below_drewN | apply below_drew1 | refine below_set ?_ GE154.out | refine below_set ?_ GE159.out | refine below_row ?_ GE154.out _ | refine below_row ?_ GE159.out _) | exact HB.out)) hb); clear HO_36; clear HO_65; clear BK154; clear BK159; clear HB; have HO_36 := n0_; have HO_65 := n1_; have BK154 := n2_; have BK159 := n3_; have HB := n4_; clear n0_ n1_ n2_ n3_ n4_; (try clear hb); (try clear hb2); (try clear hk); (try clear hi); have hnb47 := NB159_154.out; have hnc47 := NB154_159.out; have hcz48_0 : w46.cell? ⟨gb159, 0, none⟩ = some (.int .i8 (IntKind.i8.wrap ((t162.length : Int)))) := (blk_cell BK159.out 0).trans rfl; have hcz48_1 : w46.cell? ⟨gb159, 1, none⟩ = some (.int .i8 (IntKind.i8.wrap ((t155.length : Int)))) := (blk_cell BK159.out 1).trans rfl; have hwz48 := lv28_at BK159.out; have haz48 := at_cells BK159.out; have hyz48 := BayAt28_of BK159.out; have hvz48 := lvv_of BK159.out; have hzz48 := fun q_ => blk_frozen BK159.out q_; have hfz48_0 := blk_frozen BK159.out 0; have hfz48_1 := blk_frozen BK159.out 1; have hfz48_2 := blk_frozen BK159.out 2) | ((with_reducible refine gate_store (t := 22) (p := 85) rfl ?_); refine store_event (t := 22) (p := 85) (v := ?vo_w49) (w1 := (w46.setCell ⟨gb159, 2 + (x38_2 : Int).toNat * 16 + (x67_4 : Int).toNat, none⟩ (.int .i8 t166))) ?hg ?ho ?hn ?hr ?_; (case ho => rfl); (case hg => rfl); (case hn => rfl); (case hr => first | (go_simp; done) | (go_simp; rfl)); intro w49 hw; have n0_ : Aside0 (Kd.R Kd.string 9 w49 w.heap.size (fun k_ => some k_ ≠ (.slice (some ad165) t162.length co35 : Value).ownBlock) (.slice (some ad161) t155.length co13) t155) := ⟨(by rw [hw]; exact (by (with_reducible repeat (first | apply Kd.R_alloc | apply Kd.R_drewN | apply Kd.R_drew)); exact Kd.R_mono (Kd.R_far (p := ⟨gb159, 2 + (x38_2 : Int).toNat * 16 + (x67_4 : Int).toNat, none⟩) (Kd.R_types HO_36.out BK159.out (by decide)) (fun _ hk => hk.2) (.int .i8 t166)) (fun _ hk => hk.1)))⟩; have n1_ : Aside0 (Kd.R Kd.string 9 w49 w.heap.size (fun k_ => some k_ ≠ (.slice (some ad161) t155.length co13 : Value).ownBlock) (.slice (some ad165) t162.length co35) t162) := ⟨(by rw [hw]; exact (by (with_reducible repeat (first | apply Kd.R_alloc | apply Kd.R_drewN | apply Kd.R_drew)); exact Kd.R_mono (Kd.R_far (p := ⟨gb159, 2 + (x38_2 : Int).toNat * 16 + (x67_4 : Int).toNat, none⟩) (Kd.R_types HO_65.out BK159.out (by decide)) (fun _ hk => hk.2) (.int .i8 t166)) (fun _ hk => hk.1)))⟩; have n2_ : Aside0 (w49.heap[gb154]? = some (.cells (csBay x155000_4 x155001_4 x155002_4) 28 (0, 0))) := ⟨(by rw [hw]; exact (by (with_reducible repeat (first | refine blk_drewN ?_ _ | refine blk_drew ?_ | refine blk_alloc ?_ _)); refine blk_far ?_ NB154_159.out _; (with_reducible repeat (first | refine blk_drewN ?_ _ | refine blk_drew ?_ | refine blk_alloc ?_ _)); exact BK154.out))⟩; have n3_ : Aside0 (w49.heap[gb159]? = some (.cells (csBay (IntKind.i8.wrap ((t162.length : Int))) (IntKind.i8.wrap ((t155.length : Int))) (setD x160002_4 (16 * (x38_2 : Int).toNat + (x67_4 : Int).toNat) t166)) 28 (0, 0))) := ⟨(by rw [hw]; exact (by (with_reducible repeat (first | refine blk_drewN ?_ _ | refine blk_drew ?_ | refine blk_alloc ?_ _)); refine blk_setD ?_ (by first | (with_reducible assumption) | (with_unfolding_all decide)) (by first | (with_reducible assumption) | (with_unfolding_all decide)) (by first | (with_reducible assumption) | (with_unfolding_all decide)) (by first | (with_reducible assumption) | (with_unfolding_all decide)) _; (with_reducible repeat (first | refine blk_drewN ?_ _ | refine blk_drew ?_ | refine blk_alloc ?_ _)); exact BK159.out))⟩; have n4_ : Aside0 (Below w.heap.size w w49) := ⟨(by rw [hw]; exact (by repeat (first | (with_reducible first | exact HB.out | apply below_alloc | apply pw_below_drewN | apply below_drew1 | refine below_set ?_ GE154.out | refine below_set ?_ GE159.out | refine below_row ?_ GE154.out _ | refine below_row ?_ GE159.out _) | exact HB.out)))⟩; clear hw; clear HO_36; clear HO_65; clear BK154; clear BK159; clear HB; have HO_36 := n0_; have HO_65 := n1_; have BK154 := n2_; have BK159 := n3_; have HB := n4_; clear n0_ n1_ n2_ n3_ n4_))
                                          go_roundg k4
                                          case measure => have := HJ2.out; have := HK2.out; have := HJ21.out; have := HK4.out; omega
                                          case rel => exact ⟨(wrap64 (x67_4 + 1)), (x155000_4), (x155001_4), (x155002_4), (setD x160002_4 (16 * (x38_2 : Int).toNat + (x67_4 : Int).toNat) t166), (by first | rfl | (simp; done) | (simp [*]; done) | (rw [i8_wrap_le] <;> first | rfl | omega) | (congr 1; unfold wrap64; omega)), H', ⟨by have := HJ2.out; have := HK2.out; have := HJ21.out; have := HK4.out; omega⟩, ⟨by (with_reducible repeat (first | apply Kd.R_alloc | apply Kd.R_drewN | apply Kd.R_drew)); exact HO_36.out⟩, ⟨by (with_reducible repeat (first | apply Kd.R_alloc | apply Kd.R_drewN | apply Kd.R_drew)); exact HO_65.out⟩, ⟨by (with_reducible repeat (first | refine blk_drewN ?_ _ | refine blk_drew ?_ | refine blk_alloc ?_ _)); exact BK154.out⟩, ⟨by (with_reducible repeat (first | refine blk_drewN ?_ _ | refine blk_drew ?_ | refine blk_alloc ?_ _)); exact BK159.out⟩, ⟨by repeat (first | (with_reducible first | exact HB.out | apply below_alloc | apply pw_below_drewN | apply below_drew1 | refine below_set ?_ GE154.out | refine below_set ?_ GE159.out | refine below_row ?_ GE154.out _ | refine below_row ?_ GE159.out _) | exact HB.out)⟩⟩
                                        · rw [if_neg c45] at H
                                          exact absurd H (by simp)
                                      · rw [if_neg c44] at H
                                        exact absurd H (by simp)
                                    · rw [if_neg c43] at H
                                      exact absurd H (by simp)
                                  · replace c42 := Bool.eq_false_iff.mpr c42
                                    subst c42
                                    have H1 : (some (0, 0, (fun _ => 0 : Nat → Int), 5)) = some (r1, r2, r3, r4) := by rw [if_neg (show ¬ (false = true) by decide)] at H; exact H
                                    clear H
                                    have H := H1
                                    clear H1
                                    simp only [Option.some.injEq, Prod.mk.injEq] at H
                                    obtain ⟨rfl, rfl, rfl, rfl⟩ := H
                                    have p165 : 0 ≤ (x67_4 : Int) := of_decide_eq_true (by first | (with_reducible assumption) | assumption)
                                    have q165 : x67_4 < (t162.length : Int) := of_decide_eq_true (by first | (with_reducible assumption) | assumption)
                                    obtain ⟨ad165, e165, hx165_0⟩ := Kd.at_string (Kd.R_reads' HO_65.out).2.2 x67_4 p165 q165
                                    cases e165
                                    replace p165 := eq_true p165
                                    replace q165 := eq_true q165
                                    go_wp2_with (first | ((with_reducible refine gate_callee (f := 39) rfl ?_); refine goesL_ (some 74) rfl rfl Tryd.func39 (by kernel_rfl) rfl #[.string (rdOf ByteArray.empty t162 x67_4)] rfl (by (try simp only [List.map_toArray, List.map_cons, List.map_nil]); first | done | rfl | (simp only [List.length_drop, List.length_take]; rfl)) ?_; (with_reducible refine (impl_small.calls k4 (rdOf ByteArray.empty t162 x67_4) t166 false _ A41.out).mono ?_); rintro e w50 ⟨rfl, hb⟩; refine ⟨_, rfl, ?_⟩; have n0_ := Aside0.mk (Kd.R_below (by (with_reducible repeat (first | apply Kd.R_alloc | apply Kd.R_drewN | apply Kd.R_drew)); exact HO_36.out) hb); have n1_ := Aside0.mk (Kd.R_below (by (with_reducible repeat (first | apply Kd.R_alloc | apply Kd.R_drewN | apply Kd.R_drew)); exact HO_65.out) hb); have n2_ := Aside0.mk (blk_below (g := gb154) (o := .cells (csBay x155000_4 x155001_4 x155002_4) 28 (0, 0)) (by (with_reducible repeat (first | refine blk_drewN ?_ _ | refine blk_drew ?_ | refine blk_alloc ?_ _)); exact BK154.out) hb); have n3_ := Aside0.mk (blk_below (g := gb159) (o := .cells (csBay (IntKind.i8.wrap ((t162.length : Int))) (IntKind.i8.wrap ((t155.length : Int))) x160002_4) 28 (0, 0)) (by (with_reducible repeat (first | refine blk_drewN ?_ _ | refine blk_drew ?_ | refine blk_alloc ?_ _)); exact BK159.out) hb); have n4_ := Aside0.mk (below_step (by repeat (first | (with_reducible first | exact HB.out | apply below_alloc | apply pw_below_drewN | apply below_drew1 | refine below_set ?_ GE154.out | refine below_set ?_ GE159.out | refine below_row ?_ GE154.out _ | refine below_row ?_ GE159.out _) | exact HB.out)) hb); clear HO_36; clear HO_65; clear BK154; clear BK159; clear HB; have HO_36 := n0_; have HO_65 := n1_; have BK154 := n2_; have BK159 := n3_; have HB := n4_; clear n0_ n1_ n2_ n3_ n4_; (try clear hb); (try clear hb2); (try clear hk); (try clear hi); have hnb51 := NB154_159.out; have hnc51 := NB159_154.out; have hcz52_0 : w50.cell? ⟨gb154, 0, none⟩ = some (.int .i8 x155000_4) := (blk_cell BK154.out 0).trans rfl; have hcz52_1 : w50.cell? ⟨gb154, 1, none⟩ = some (.int .i8 x155001_4) := (blk_cell BK154.out 1).trans rfl; have hwz52 := lv28_at BK154.out; have haz52 := at_cells BK154.out; have hyz52 := BayAt28_of BK154.out; have hvz52 := lvv_of BK154.out; have hzz52 := fun q_ => blk_frozen BK154.out q_; have hfz52_0 := blk_frozen BK154.out 0; have hfz52_1 := blk_frozen BK154.out 1; have hfz52_2 := blk_frozen BK154.out 2) | ((with_reducible refine gate_store (t := 28) (p := 2) rfl ?_); refine bay_event (T := 28) (p := 2) (v := ?vo_w53) (g := gb154) (a1 := 0) (b1 := 0) (d1 := (fun _ => 0 : Nat → Int)) ?hg ?ho ?hn info28s ?hp ?hv (by (with_reducible repeat (first | refine blk_drewN ?_ _ | refine blk_drew ?_ | refine blk_alloc ?_ _)); exact BK154.out) ?_; (case ho => rfl); (case hg => rfl); (case hn => rfl); (case hp => rfl); (case hv => rfl); intro w53 hw; have n0_ : Aside0 (Kd.R Kd.string 9 w53 w.heap.size (fun k_ => some k_ ≠ (.slice (some ad165) t162.length co35 : Value).ownBlock) (.slice (some ad161) t155.length co13) t155) := ⟨(by rw [hw]; exact (by (with_reducible repeat (first | apply Kd.R_alloc | apply Kd.R_drewN | apply Kd.R_drew)); exact Kd.R_mono (Kd.R_keep (Kd.R_types HO_36.out BK154.out (by decide)) (setRow_keep _ _ _) (fun _ hk => hk.2)) (fun _ hk => hk.1)))⟩; have n1_ : Aside0 (Kd.R Kd.string 9 w53 w.heap.size (fun k_ => some k_ ≠ (.slice (some ad161) t155.length co13 : Value).ownBlock) (.slice (some ad165) t162.length co35) t162) := ⟨(by rw [hw]; exact (by (with_reducible repeat (first | apply Kd.R_alloc | apply Kd.R_drewN | apply Kd.R_drew)); exact Kd.R_mono (Kd.R_keep (Kd.R_types HO_65.out BK154.out (by decide)) (setRow_keep _ _ _) (fun _ hk => hk.2)) (fun _ hk => hk.1)))⟩; have n2_ : Aside0 (w53.heap[gb154]? = some (.cells (csBay 0 0 (fun _ => 0 : Nat → Int)) 28 (0, 0))) := ⟨(by rw [hw]; exact (by (with_reducible repeat (first | refine blk_drewN ?_ _ | refine blk_drew ?_ | refine blk_alloc ?_ _)); refine blk_row (old := (csBay x155000_4 x155001_4 x155002_4)) ?_ _; (with_reducible repeat (first | refine blk_drewN ?_ _ | refine blk_drew ?_ | refine blk_alloc ?_ _)); exact BK154.out))⟩; have n3_ : Aside0 (w53.heap[gb159]? = some (.cells (csBay (IntKind.i8.wrap ((t162.length : Int))) (IntKind.i8.wrap ((t155.length : Int))) x160002_4) 28 (0, 0))) := ⟨(by rw [hw]; exact (by (with_reducible repeat (first | refine blk_drewN ?_ _ | refine blk_drew ?_ | refine blk_alloc ?_ _)); refine blk_row_far ?_ NB159_154.out _; (with_reducible repeat (first | refine blk_drewN ?_ _ | refine blk_drew ?_ | refine blk_alloc ?_ _)); exact BK159.out))⟩; have n4_ : Aside0 (Below w.heap.size w w53) := ⟨(by rw [hw]; exact (by repeat (first | (with_reducible first | exact HB.out | apply below_alloc | apply pw_below_drewN | apply below_drew1 | refine below_set ?_ GE154.out | refine below_set ?_ GE159.out | refine below_row ?_ GE154.out _ | refine below_row ?_ GE159.out _) | exact HB.out)))⟩; clear hw; clear HO_36; clear HO_65; clear BK154; clear BK159; clear HB; have HO_36 := n0_; have HO_65 := n1_; have BK154 := n2_; have BK159 := n3_; have HB := n4_; clear n0_ n1_ n2_ n3_ n4_))
                                    refine bodyPost_ret (results_ct rfl _ _ gb154 28 (csBay 0 0 (fun _ => 0 : Nat → Int)) (0, 0) _ rfl (by (with_reducible repeat (first | refine blk_drewN ?_ _ | refine blk_drew ?_ | refine blk_alloc ?_ _)); exact BK154.out) Tryd.underlying28 rfl (by kernel_rfl)) rfl ?_
                                    exact ⟨by first | rfl | (simp [errW_none, errW_some] <;> rfl) | (simp [*, errW_none, errW_some] <;> rfl), by repeat (first | (with_reducible first | exact HB.out | apply below_alloc | apply pw_below_drewN | apply below_drew1 | refine below_set ?_ GE154.out | refine below_set ?_ GE159.out | refine below_row ?_ GE154.out _ | refine below_row ?_ GE159.out _) | exact HB.out)⟩
                                · rw [if_neg c40] at H
                                  exact absurd H (by simp)
                              · rw [if_neg c39] at H
                                exact absurd H (by simp)
                            · rw [if_neg c38] at H
                              have c38b0 : decide (x67_4 < (t162.length : Int)) = false := decide_eq_false c38
                              clear c38
                              have H' := Aside0.mk H
                              clear H
                              go_wp2
                              go_roundg k4
                              case measure => have := HJ2.out; have := HK2.out; have := HJ21.out; have := HK4.out; omega
                              case rel => exact ⟨(wrap64 (x38_2 + 1)), (x155000_4), (x155001_4), (x155002_4), ((IntKind.i8.wrap ((t162.length : Int)))), (x160002_4), (by first | rfl | (simp; done) | (simp [*]; done) | (rw [i8_wrap_le] <;> first | rfl | omega) | (congr 1; unfold wrap64; omega)), H', ⟨by have := HJ2.out; have := HK2.out; have := HJ21.out; have := HK4.out; omega⟩, ⟨by (with_reducible repeat (first | apply Kd.R_alloc | apply Kd.R_drewN | apply Kd.R_drew)); exact Kd.R_mono HO_36.out (fun _ hk => trivial)⟩, ⟨by (with_reducible repeat (first | refine blk_drewN ?_ _ | refine blk_drew ?_ | refine blk_alloc ?_ _)); exact BK154.out⟩, ⟨by (with_reducible repeat (first | refine blk_drewN ?_ _ | refine blk_drew ?_ | refine blk_alloc ?_ _)); exact BK159.out⟩, ⟨by repeat (first | (with_reducible first | exact HB.out | apply below_alloc | apply pw_below_drewN | apply below_drew1 | refine below_set ?_ GE154.out | refine below_set ?_ GE159.out | refine below_row ?_ GE154.out _ | refine below_row ?_ GE159.out _) | exact HB.out)⟩⟩
                · rw [if_neg c20] at H
                  exact absurd H (by simp)
              · rw [if_neg c19] at H
                exact absurd H (by simp)
            · rw [if_neg c18] at H
              have c18b0 : decide (x38_2 < (t155.length : Int)) = false := decide_eq_false c18
              clear c18
              replace H := Option.bind_eq_some_iff.mp H
              obtain ⟨t160, A540, H⟩ := H
              replace H : (if t160 = true then (some (x160000_2, (IntKind.i8.wrap ((t155.length : Int))), x160002_2, 0)) else (some (0, 0, (fun _ => 0 : Nat → Int), 5))) = some (r1, r2, r3, r4) := H
              have A54 := Aside0.mk A540
              clear A540
              by_cases c55 : t160 = true
              · subst c55
                have H1 : (some (x160000_2, (IntKind.i8.wrap ((t155.length : Int))), x160002_2, 0)) = some (r1, r2, r3, r4) := by rw [if_pos rfl] at H; exact H
                clear H
                have H := H1
                clear H1
                simp only [Option.some.injEq, Prod.mk.injEq] at H
                obtain ⟨rfl, rfl, rfl, rfl⟩ := H
                have hnb56 := NB159_154.out
                have hnc56 := NB154_159.out
                have hcz57_0 : wr.cell? ⟨gb159, 0, none⟩ = some (.int .i8 x160000_2) := (blk_cell BK159.out 0).trans rfl
                have hcz57_1 : wr.cell? ⟨gb159, 1, none⟩ = some (.int .i8 (IntKind.i8.wrap ((t155.length : Int)))) := (blk_cell BK159.out 1).trans rfl
                have hwz57 := lv28_at BK159.out; have haz57 := at_cells BK159.out; have hyz57 := BayAt28_of BK159.out; have hvz57 := lvv_of BK159.out; have hzz57 := fun q_ => blk_frozen BK159.out q_
                have hfz57_0 := blk_frozen BK159.out 0
                have hfz57_1 := blk_frozen BK159.out 1
                have hfz57_2 := blk_frozen BK159.out 2
                go_wp2_with (first | ((with_reducible refine gate_callee (f := 25) rfl ?_); refine goesL_ (some 89) rfl rfl Tryd.func25 (by kernel_rfl) rfl #[.agg (csBay x160000_2 (IntKind.i8.wrap ((t155.length : Int))) x160002_2)] rfl (by (try simp only [List.map_toArray, List.map_cons, List.map_nil]); first | done | rfl | (simp only [List.length_drop, List.length_take]; rfl)) ?_; (with_reducible refine (impl_ValidBay.calls x160000_2 (IntKind.i8.wrap ((t155.length : Int))) x160002_2 true _ A54.out).mono ?_); rintro e w58 ⟨rfl, hb⟩; refine ⟨_, rfl, ?_⟩; have n0_ := Aside0.mk (Kd.R_below (by (with_reducible repeat (first | apply Kd.R_alloc | apply Kd.R_drewN | apply Kd.R_drew)); exact HO_36.out) hb); have n1_ := Aside0.mk (blk_below (g := gb154) (o := .cells (csBay x155000_2 x155001_2 x155002_2) 28 (0, 0)) (by (with_reducible repeat (first | refine blk_drewN ?_ _ | refine blk_drew ?_ | refine blk_alloc ?_ _)); exact BK154.out) hb); have n2_ := Aside0.mk (blk_below (g := gb159) (o := .cells (csBay x160000_2 (IntKind.i8.wrap ((t155.length : Int))) x160002_2) 28 (0, 0)) (by (with_reducible repeat (first | refine blk_drewN ?_ _ | refine blk_drew ?_ | refine blk_alloc ?_ _)); exact BK159.out) hb); have n3_ := Aside0.mk (below_step (by repeat (first | (with_reducible first | exact HB.out | apply below_alloc | apply pw_below_drewN | apply below_drew1 | refine below_set ?_ GE154.out | refine below_set ?_ GE159.out | refine below_row ?_ GE154.out _ | refine below_row ?_ GE159.out _) | exact HB.out)) hb); clear HO_36; clear BK154; clear BK159; clear HB; have HO_36 := n0_; have BK154 := n1_; have BK159 := n2_; have HB := n3_; clear n0_ n1_ n2_ n3_; (try clear hb); (try clear hb2); (try clear hk); (try clear hi); have hcz59_0 : w58.cell? ⟨gb159, 0, none⟩ = some (.int .i8 x160000_2) := (blk_cell BK159.out 0).trans rfl; have hcz59_1 : w58.cell? ⟨gb159, 1, none⟩ = some (.int .i8 (IntKind.i8.wrap ((t155.length : Int)))) := (blk_cell BK159.out 1).trans rfl; have hwz59 := lv28_at BK159.out; have haz59 := at_cells BK159.out; have hyz59 := BayAt28_of BK159.out; have hvz59 := lvv_of BK159.out; have hzz59 := fun q_ => blk_frozen BK159.out q_; have hfz59_0 := blk_frozen BK159.out 0; have hfz59_1 := blk_frozen BK159.out 1; have hfz59_2 := blk_frozen BK159.out 2; have hcz60_0 : w58.cell? ⟨gb154, 0, none⟩ = some (.int .i8 x155000_2) := (blk_cell BK154.out 0).trans rfl; have hcz60_1 : w58.cell? ⟨gb154, 1, none⟩ = some (.int .i8 x155001_2) := (blk_cell BK154.out 1).trans rfl; have hwz60 := lv28_at BK154.out; have haz60 := at_cells BK154.out; have hyz60 := BayAt28_of BK154.out; have hvz60 := lvv_of BK154.out; have hzz60 := fun q_ => blk_frozen BK154.out q_; have hfz60_0 := blk_frozen BK154.out 0; have hfz60_1 := blk_frozen BK154.out 1; have hfz60_2 := blk_frozen BK154.out 2) | ((with_reducible refine gate_store (t := 28) (p := 2) rfl ?_); refine bay_event (T := 28) (p := 2) (v := ?vo_w61) (g := gb154) (a1 := x160000_2) (b1 := (IntKind.i8.wrap ((t155.length : Int)))) (d1 := x160002_2) ?hg ?ho ?hn info28s ?hp ?hv (by (with_reducible repeat (first | refine blk_drewN ?_ _ | refine blk_drew ?_ | refine blk_alloc ?_ _)); exact BK154.out) ?_; (case ho => rfl); (case hg => rfl); (case hn => rfl); (case hp => rfl); (case hv => rfl); intro w61 hw; have n0_ : Aside0 (Kd.R Kd.string 9 w61 w.heap.size (fun _ => True) (.slice Ao13 t155.length co13) t155) := ⟨(by rw [hw]; exact (by (with_reducible repeat (first | apply Kd.R_alloc | apply Kd.R_drewN | apply Kd.R_drew)); exact Kd.R_mono (Kd.R_keep (Kd.R_types HO_36.out BK154.out (by decide)) (setRow_keep _ _ _) (fun _ hk => hk.2)) (fun _ hk => trivial)))⟩; have n1_ : Aside0 (w61.heap[gb154]? = some (.cells (csBay x160000_2 (IntKind.i8.wrap ((t155.length : Int))) x160002_2) 28 (0, 0))) := ⟨(by rw [hw]; exact (by (with_reducible repeat (first | refine blk_drewN ?_ _ | refine blk_drew ?_ | refine blk_alloc ?_ _)); refine blk_row (old := (csBay x155000_2 x155001_2 x155002_2)) ?_ _; (with_reducible repeat (first | refine blk_drewN ?_ _ | refine blk_drew ?_ | refine blk_alloc ?_ _)); exact BK154.out))⟩; have n2_ : Aside0 (w61.heap[gb159]? = some (.cells (csBay x160000_2 (IntKind.i8.wrap ((t155.length : Int))) x160002_2) 28 (0, 0))) := ⟨(by rw [hw]; exact (by (with_reducible repeat (first | refine blk_drewN ?_ _ | refine blk_drew ?_ | refine blk_alloc ?_ _)); refine blk_row_far ?_ NB159_154.out _; (with_reducible repeat (first | refine blk_drewN ?_ _ | refine blk_drew ?_ | refine blk_alloc ?_ _)); exact BK159.out))⟩; have n3_ : Aside0 (Below w.heap.size w w61) := ⟨(by rw [hw]; exact (by repeat (first | (with_reducible first | exact HB.out | apply below_alloc | apply pw_below_drewN | apply below_drew1 | refine below_set ?_ GE154.out | refine below_set ?_ GE159.out | refine below_row ?_ GE154.out _ | refine below_row ?_ GE159.out _) | exact HB.out)))⟩; clear hw; clear HO_36; clear BK154; clear BK159; clear HB; have HO_36 := n0_; have BK154 := n1_; have BK159 := n2_; have HB := n3_; clear n0_ n1_ n2_ n3_))
                refine bodyPost_ret (results_ct rfl _ _ gb154 28 (csBay x160000_2 (IntKind.i8.wrap ((t155.length : Int))) x160002_2) (0, 0) _ rfl (by (with_reducible repeat (first | refine blk_drewN ?_ _ | refine blk_drew ?_ | refine blk_alloc ?_ _)); exact BK154.out) Tryd.underlying28 rfl (by kernel_rfl)) rfl ?_
                exact ⟨by first | rfl | (simp [errW_none, errW_some] <;> rfl) | (simp [*, errW_none, errW_some] <;> rfl), by repeat (first | (with_reducible first | exact HB.out | apply below_alloc | apply pw_below_drewN | apply below_drew1 | refine below_set ?_ GE154.out | refine below_set ?_ GE159.out | refine below_row ?_ GE154.out _ | refine below_row ?_ GE159.out _) | exact HB.out)⟩
              · replace c55 := Bool.eq_false_iff.mpr c55
                subst c55
                have H1 : (some (0, 0, (fun _ => 0 : Nat → Int), 5)) = some (r1, r2, r3, r4) := by rw [if_neg (show ¬ (false = true) by decide)] at H; exact H
                clear H
                have H := H1
                clear H1
                simp only [Option.some.injEq, Prod.mk.injEq] at H
                obtain ⟨rfl, rfl, rfl, rfl⟩ := H
                have hnb62 := NB159_154.out
                have hnc62 := NB154_159.out
                have hcz63_0 : wr.cell? ⟨gb159, 0, none⟩ = some (.int .i8 x160000_2) := (blk_cell BK159.out 0).trans rfl
                have hcz63_1 : wr.cell? ⟨gb159, 1, none⟩ = some (.int .i8 (IntKind.i8.wrap ((t155.length : Int)))) := (blk_cell BK159.out 1).trans rfl
                have hwz63 := lv28_at BK159.out; have haz63 := at_cells BK159.out; have hyz63 := BayAt28_of BK159.out; have hvz63 := lvv_of BK159.out; have hzz63 := fun q_ => blk_frozen BK159.out q_
                have hfz63_0 := blk_frozen BK159.out 0
                have hfz63_1 := blk_frozen BK159.out 1
                have hfz63_2 := blk_frozen BK159.out 2
                go_wp2_with (first | ((with_reducible refine gate_callee (f := 25) rfl ?_); refine goesL_ (some 89) rfl rfl Tryd.func25 (by kernel_rfl) rfl #[.agg (csBay x160000_2 (IntKind.i8.wrap ((t155.length : Int))) x160002_2)] rfl (by (try simp only [List.map_toArray, List.map_cons, List.map_nil]); first | done | rfl | (simp only [List.length_drop, List.length_take]; rfl)) ?_; (with_reducible refine (impl_ValidBay.calls x160000_2 (IntKind.i8.wrap ((t155.length : Int))) x160002_2 false _ A54.out).mono ?_); rintro e w64 ⟨rfl, hb⟩; refine ⟨_, rfl, ?_⟩; have n0_ := Aside0.mk (Kd.R_below (by (with_reducible repeat (first | apply Kd.R_alloc | apply Kd.R_drewN | apply Kd.R_drew)); exact HO_36.out) hb); have n1_ := Aside0.mk (blk_below (g := gb154) (o := .cells (csBay x155000_2 x155001_2 x155002_2) 28 (0, 0)) (by (with_reducible repeat (first | refine blk_drewN ?_ _ | refine blk_drew ?_ | refine blk_alloc ?_ _)); exact BK154.out) hb); have n2_ := Aside0.mk (blk_below (g := gb159) (o := .cells (csBay x160000_2 (IntKind.i8.wrap ((t155.length : Int))) x160002_2) 28 (0, 0)) (by (with_reducible repeat (first | refine blk_drewN ?_ _ | refine blk_drew ?_ | refine blk_alloc ?_ _)); exact BK159.out) hb); have n3_ := Aside0.mk (below_step (by repeat (first | (with_reducible first | exact HB.out | apply below_alloc | apply pw_below_drewN | apply below_drew1 | refine below_set ?_ GE154.out | refine below_set ?_ GE159.out | refine below_row ?_ GE154.out _ | refine below_row ?_ GE159.out _) | exact HB.out)) hb); clear HO_36; clear BK154; clear BK159; clear HB; have HO_36 := n0_; have BK154 := n1_; have BK159 := n2_; have HB := n3_; clear n0_ n1_ n2_ n3_; (try clear hb); (try clear hb2); (try clear hk); (try clear hi); have hcz65_0 : w64.cell? ⟨gb154, 0, none⟩ = some (.int .i8 x155000_2) := (blk_cell BK154.out 0).trans rfl; have hcz65_1 : w64.cell? ⟨gb154, 1, none⟩ = some (.int .i8 x155001_2) := (blk_cell BK154.out 1).trans rfl; have hwz65 := lv28_at BK154.out; have haz65 := at_cells BK154.out; have hyz65 := BayAt28_of BK154.out; have hvz65 := lvv_of BK154.out; have hzz65 := fun q_ => blk_frozen BK154.out q_; have hfz65_0 := blk_frozen BK154.out 0; have hfz65_1 := blk_frozen BK154.out 1; have hfz65_2 := blk_frozen BK154.out 2) | ((with_reducible refine gate_store (t := 28) (p := 2) rfl ?_); refine bay_event (T := 28) (p := 2) (v := ?vo_w66) (g := gb154) (a1 := 0) (b1 := 0) (d1 := (fun _ => 0 : Nat → Int)) ?hg ?ho ?hn info28s ?hp ?hv (by (with_reducible repeat (first | refine blk_drewN ?_ _ | refine blk_drew ?_ | refine blk_alloc ?_ _)); exact BK154.out) ?_; (case ho => rfl); (case hg => rfl); (case hn => rfl); (case hp => rfl); (case hv => rfl); intro w66 hw; have n0_ : Aside0 (Kd.R Kd.string 9 w66 w.heap.size (fun _ => True) (.slice Ao13 t155.length co13) t155) := ⟨(by rw [hw]; exact (by (with_reducible repeat (first | apply Kd.R_alloc | apply Kd.R_drewN | apply Kd.R_drew)); exact Kd.R_mono (Kd.R_keep (Kd.R_types HO_36.out BK154.out (by decide)) (setRow_keep _ _ _) (fun _ hk => hk.2)) (fun _ hk => trivial)))⟩; have n1_ : Aside0 (w66.heap[gb154]? = some (.cells (csBay 0 0 (fun _ => 0 : Nat → Int)) 28 (0, 0))) := ⟨(by rw [hw]; exact (by (with_reducible repeat (first | refine blk_drewN ?_ _ | refine blk_drew ?_ | refine blk_alloc ?_ _)); refine blk_row (old := (csBay x155000_2 x155001_2 x155002_2)) ?_ _; (with_reducible repeat (first | refine blk_drewN ?_ _ | refine blk_drew ?_ | refine blk_alloc ?_ _)); exact BK154.out))⟩; have n2_ : Aside0 (w66.heap[gb159]? = some (.cells (csBay x160000_2 (IntKind.i8.wrap ((t155.length : Int))) x160002_2) 28 (0, 0))) := ⟨(by rw [hw]; exact (by (with_reducible repeat (first | refine blk_drewN ?_ _ | refine blk_drew ?_ | refine blk_alloc ?_ _)); refine blk_row_far ?_ NB159_154.out _; (with_reducible repeat (first | refine blk_drewN ?_ _ | refine blk_drew ?_ | refine blk_alloc ?_ _)); exact BK159.out))⟩; have n3_ : Aside0 (Below w.heap.size w w66) := ⟨(by rw [hw]; exact (by repeat (first | (with_reducible first | exact HB.out | apply below_alloc | apply pw_below_drewN | apply below_drew1 | refine below_set ?_ GE154.out | refine below_set ?_ GE159.out | refine below_row ?_ GE154.out _ | refine below_row ?_ GE159.out _) | exact HB.out)))⟩; clear hw; clear HO_36; clear BK154; clear BK159; clear HB; have HO_36 := n0_; have BK154 := n1_; have BK159 := n2_; have HB := n3_; clear n0_ n1_ n2_ n3_))
                refine bodyPost_ret (results_ct rfl _ _ gb154 28 (csBay 0 0 (fun _ => 0 : Nat → Int)) (0, 0) _ rfl (by (with_reducible repeat (first | refine blk_drewN ?_ _ | refine blk_drew ?_ | refine blk_alloc ?_ _)); exact BK154.out) Tryd.underlying28 rfl (by kernel_rfl)) rfl ?_
                exact ⟨by first | rfl | (simp [errW_none, errW_some] <;> rfl) | (simp [*, errW_none, errW_some] <;> rfl), by repeat (first | (with_reducible first | exact HB.out | apply below_alloc | apply pw_below_drewN | apply below_drew1 | refine below_set ?_ GE154.out | refine below_set ?_ GE159.out | refine below_row ?_ GE154.out _ | refine below_row ?_ GE159.out _) | exact HB.out)⟩

-- NOT PRINTED: function 57 (laws_eqInt8A16)

-- NOT PRINTED: function 40 (laws_eqInt8A16A16)

/-! ### laws_eqBay: function 17 -/
def laws_eqBay.f (a0_0 : Int) (a0_1 : Int) (a0_2 : (Nat → Int)) (a1_0 : Int) (a1_1 : Int) (a1_2 : (Nat → Int)) : Option (Bool) := some (Go.Proofs.YteffdjfiialdfaaDoor.BayIn.eqBay a0_0 a0_1 a0_2 a1_0 a1_1 a1_2)
theorem laws_eqBay.calls (a0_0 : Int) (a0_1 : Int) (a0_2 : (Nat → Int)) (a1_0 : Int) (a1_1 : Int) (a1_2 : (Nat → Int)) (r : Bool) (w : World) (h : laws_eqBay.f a0_0 a0_1 a0_2 a1_0 a1_1 a1_2 = some r) :
    Calls Tryd.prog 17 #[.agg (csBay a0_0 a0_1 a0_2), .agg (csBay a1_0 a1_1 a1_2)] w fun e w' => e = .returned (.bool r) ∧ Below w.heap.size w w' := by
  obtain rfl := Option.some.inj h
  exact Go.Proofs.YteffdjfiialdfaaDoor.BayIn.eqBay_calls _ _ _ _ _ _ w

/-! ### laws_FnExactReadBay: function 5 -/
def laws_FnExactReadBay.f (k : Nat) (a0 : ByteArray) : Option (Bool) := if (a0.size : Int) > 1048576 then (some true) else ((spec_ReadBay.f k a0).bind fun bt168 => ((impl_ReadBay.f k a0).bind fun bt173 => ((laws_eqBay.f bt173.1 bt173.2.1 bt173.2.2.1 bt168.1 bt168.2.1 bt168.2.2.1).bind fun t178 => (if t178 = true then (if bt173.2.2.2 = bt168.2.2.2 then (some true) else (some false)) else (some false)))))
theorem laws_FnExactReadBay.mono : ∀ a0 k, LeO (laws_FnExactReadBay.f k a0) (laws_FnExactReadBay.f (k + 1) a0) := by
  intro a0 k
  unfold laws_FnExactReadBay.f
  repeat' first
      | (with_reducible exact impl_ReadBay.mono _ _)
      | (with_reducible exact spec_ReadBay.mono _ _)
      | (with_reducible exact LeO.refl _)
      | (with_reducible exact LeO.none _)
      | (with_reducible refine LeO.ite ?_ ?_)
      | (with_reducible refine LeO.bind ?_ (fun _ => ?_))
      | exact impl_ReadBay.mono _ _
      | exact spec_ReadBay.mono _ _
      | exact LeO.none _
      | refine LeO.ite ?_ ?_
      | refine LeO.bind ?_ (fun _ => ?_)
set_option maxHeartbeats 8000000 in
set_option maxRecDepth 100000 in
theorem laws_FnExactReadBay.calls (k : Nat) (a0 : ByteArray) (r : Bool) (w : World) (h : laws_FnExactReadBay.f k a0 = some r) (htbb : Go.Proofs.YteffdjfiialdfaaDoor.Shelf.TBb w) :
    Calls Tryd.prog 5 #[.string a0] w fun e w' => e = .returned (.bool r) ∧ Below w.heap.size w w' := by
  have HTBb := Aside0.mk htbb
  clear htbb
  have hu28 := Tryd.underlying28
  have HB := Aside0.mk (Below.refl w.heap.size w)
  have H : (if (a0.size : Int) > 1048576 then (some true) else ((spec_ReadBay.f k a0).bind fun bt168 => ((impl_ReadBay.f k a0).bind fun bt173 => ((laws_eqBay.f bt173.1 bt173.2.1 bt173.2.2.1 bt168.1 bt168.2.1 bt168.2.2.1).bind fun t178 => (if t178 = true then (if bt173.2.2.2 = bt168.2.2.2 then (some true) else (some false)) else (some false)))))) = some r := h
  clear h
  by_cases c2 : (a0.size : Int) > 1048576
  · rw [if_pos c2] at H
    have c2b0 : decide (1048576 < (a0.size : Int)) = true := decide_eq_true c2
    have c2b1 : decide (1048576 < a0.size) = true := decide_eq_true (by omega)
    clear c2
    obtain rfl := Option.some.inj H
    go_enter Tryd.func5, Tryd.ntmps5
    go_wp2
    go_ret
    exact ⟨by first | rfl | (simp [errW_none, errW_some] <;> rfl) | (simp [*, errW_none, errW_some] <;> rfl), by repeat (first | (with_reducible first | exact HB.out | apply below_alloc | apply pw_below_drewN | apply below_drew1) | exact HB.out)⟩
  · rw [if_neg c2] at H
    have c2b0 : decide (1048576 < (a0.size : Int)) = false := decide_eq_false c2
    have c2b1 : decide (1048576 < a0.size) = false := decide_eq_false (by omega)
    clear c2
    replace H := Option.bind_eq_some_iff.mp H
    obtain ⟨⟨t168, t169, t170, t171⟩, A30, H⟩ := H
    replace H : ((impl_ReadBay.f k a0).bind fun bt173 => ((laws_eqBay.f bt173.1 bt173.2.1 bt173.2.2.1 t168 t169 t170).bind fun t178 => (if t178 = true then (if bt173.2.2.2 = t171 then (some true) else (some false)) else (some false)))) = some r := H
    have A3 := Aside0.mk A30
    clear A30
    replace H := Option.bind_eq_some_iff.mp H
    obtain ⟨⟨t173, t174, t175, t176⟩, A40, H⟩ := H
    replace H : ((laws_eqBay.f t173 t174 t175 t168 t169 t170).bind fun t178 => (if t178 = true then (if t176 = t171 then (some true) else (some false)) else (some false))) = some r := H
    have A4 := Aside0.mk A40
    clear A40
    replace H := Option.bind_eq_some_iff.mp H
    obtain ⟨t178, A50, H⟩ := H
    replace H : (if t178 = true then (if t176 = t171 then (some true) else (some false)) else (some false)) = some r := H
    have A5 := Aside0.mk A50
    clear A50
    by_cases c6 : t178 = true
    · subst c6
      have H1 : (if t176 = t171 then (some true) else (some false)) = some r := by rw [if_pos rfl] at H; exact H
      clear H
      have H := H1
      clear H1
      by_cases c7 : t176 = t171
      · rw [if_pos c7] at H
        have c7b0 : (t176 == t171) = true := beq_iff_eq.mpr c7
        have c7b1 : (t176 != t171) = false := bne_eq_false_iff_eq.mpr c7
        clear c7
        obtain rfl := Option.some.inj H
        go_enter Tryd.func5, Tryd.ntmps5
        go_wp2_with (first | ((with_reducible refine gate_callee (f := 15) rfl ?_); refine goesL_ (some 12) rfl rfl Tryd.func15 (by kernel_rfl) rfl #[.string a0] rfl (by (try simp only [List.map_toArray, List.map_cons, List.map_nil]); first | done | rfl | (simp only [List.length_drop, List.length_take]; rfl)) ?_; (with_reducible refine (spec_ReadBay.calls k a0 t168 t169 t170 t171 _ A3.out).mono ?_); rintro e w8 ⟨rfl, hb⟩; refine ⟨_, rfl, ?_⟩; have n0_ := Aside0.mk (below_step (by repeat (first | (with_reducible first | exact HB.out | apply below_alloc | apply pw_below_drewN | apply below_drew1) | exact HB.out)) hb); clear HB; have HB := n0_; clear n0_; (try clear hb); (try clear hb2); (try clear hk); (try clear hi)) | ((with_reducible refine gate_dst (N := 3) rfl ?_); refine box_event ?hg (N := 3) ?hd (cs := (csBay 0 0 (fun _ => 0 : Nat → Int))) (t := 28) ?hr ?_; (case hd => rfl); (case hg => rfl); (case hr => first | (go_simp; done) | (go_simp; rfl)); intro gb172 hg w9 hbox hb; have n0_ := Aside0.mk (below_step (by repeat (first | (with_reducible first | exact HB.out | apply below_alloc | apply pw_below_drewN | apply below_drew1) | exact HB.out)) hb); have n1_ := Aside0.mk (hbox); have n2_ := Aside0.mk ((by rw [hg]; exact (below_size (by repeat (first | (with_reducible first | exact HB.out | apply below_alloc | apply pw_below_drewN | apply below_drew1) | exact HB.out))) : w.heap.size ≤ gb172)); have n3_ := Aside0.mk ((by rw [hg]; exact (below_size (by repeat (first | (with_reducible first | exact HB.out | apply below_alloc | apply pw_below_drewN | apply below_drew1) | exact HB.out))) : w.heap.size ≤ gb172)); clear HB; have HB := n0_; have BK172 := n1_; have GW172 := n2_; have GE172 := n3_; clear n0_ n1_ n2_ n3_; clear hb hbox hg; have hcz10_0 : w9.cell? ⟨gb172, 0, none⟩ = some (.int .i8 0) := (blk_cell BK172.out 0).trans rfl; have hcz10_1 : w9.cell? ⟨gb172, 1, none⟩ = some (.int .i8 0) := (blk_cell BK172.out 1).trans rfl; have hwz10 := lv28_at BK172.out; have haz10 := at_cells BK172.out; have hyz10 := BayAt28_of BK172.out; have hvz10 := lvv_of BK172.out; have hzz10 := fun q_ => blk_frozen BK172.out q_; have hfz10_0 := blk_frozen BK172.out 0; have hfz10_1 := blk_frozen BK172.out 1; have hfz10_2 := blk_frozen BK172.out 2) | ((with_reducible refine gate_store (t := 28) (p := 3) rfl ?_); refine bay_event (T := 28) (p := 3) (v := ?vo_w11) (g := gb172) (a1 := t168) (b1 := t169) (d1 := t170) ?hg ?ho ?hn info28s ?hp ?hv (by (with_reducible repeat (first | refine blk_drewN ?_ _ | refine blk_drew ?_ | refine blk_alloc ?_ _)); exact BK172.out) ?_; (case ho => rfl); (case hg => rfl); (case hn => rfl); (case hp => rfl); (case hv => rfl); intro w11 hw; have n0_ : Aside0 (w11.heap[gb172]? = some (.cells (csBay t168 t169 t170) 28 (0, 0))) := ⟨(by rw [hw]; exact (by (with_reducible repeat (first | refine blk_drewN ?_ _ | refine blk_drew ?_ | refine blk_alloc ?_ _)); refine blk_row (old := (csBay 0 0 (fun _ => 0 : Nat → Int))) ?_ _; (with_reducible repeat (first | refine blk_drewN ?_ _ | refine blk_drew ?_ | refine blk_alloc ?_ _)); exact BK172.out))⟩; have n1_ : Aside0 (Below w.heap.size w w11) := ⟨(by rw [hw]; exact (by repeat (first | (with_reducible first | exact HB.out | apply below_alloc | apply pw_below_drewN | apply below_drew1 | refine below_set ?_ GE172.out | refine below_row ?_ GE172.out _) | exact HB.out)))⟩; clear hw; clear BK172; clear HB; have BK172 := n0_; have HB := n1_; clear n0_ n1_) | ((with_reducible refine gate_callee (f := 16) rfl ?_); refine goesL_ (some 17) rfl rfl Tryd.func16 (by kernel_rfl) rfl #[.string a0] rfl (by (try simp only [List.map_toArray, List.map_cons, List.map_nil]); first | done | rfl | (simp only [List.length_drop, List.length_take]; rfl)) ?_; (with_reducible refine (impl_ReadBay.calls k a0 t173 t174 t175 t176 _ A4.out ?htbb).mono ?_); (case htbb => exact Go.Proofs.YteffdjfiialdfaaDoor.Shelf.TBb.below HTBb.out (by repeat (first | (with_reducible first | exact HB.out | apply below_alloc | apply pw_below_drewN | apply below_drew1 | refine below_set ?_ (Aside0.out (by assumption))) | exact HB.out))); rintro e w12 ⟨rfl, hb⟩; refine ⟨_, rfl, ?_⟩; have n0_ := Aside0.mk (blk_below (g := gb172) (o := .cells (csBay t168 t169 t170) 28 (0, 0)) (by (with_reducible repeat (first | refine blk_drewN ?_ _ | refine blk_drew ?_ | refine blk_alloc ?_ _)); exact BK172.out) hb); have n1_ := Aside0.mk (below_step (by repeat (first | (with_reducible first | exact HB.out | apply below_alloc | apply pw_below_drewN | apply below_drew1 | refine below_set ?_ GE172.out | refine below_row ?_ GE172.out _) | exact HB.out)) hb); clear BK172; clear HB; have BK172 := n0_; have HB := n1_; clear n0_ n1_; (try clear hb); (try clear hb2); (try clear hk); (try clear hi)) | ((with_reducible refine gate_dst (N := 5) rfl ?_); refine box_event ?hg (N := 5) ?hd (cs := (csBay 0 0 (fun _ => 0 : Nat → Int))) (t := 28) ?hr ?_; (case hd => rfl); (case hg => rfl); (case hr => first | (go_simp; done) | (go_simp; rfl)); intro gb177 hg w13 hbox hb; have n0_ := Aside0.mk (blk_below (g := gb172) (o := .cells (csBay t168 t169 t170) 28 (0, 0)) (by (with_reducible repeat (first | refine blk_drewN ?_ _ | refine blk_drew ?_ | refine blk_alloc ?_ _)); exact BK172.out) hb); have n1_ := Aside0.mk (below_step (by repeat (first | (with_reducible first | exact HB.out | apply below_alloc | apply pw_below_drewN | apply below_drew1 | refine below_set ?_ GE172.out | refine below_row ?_ GE172.out _) | exact HB.out)) hb); have n2_ := Aside0.mk (hbox); have n3_ := Aside0.mk ((by rw [hg]; exact (below_size (by repeat (first | (with_reducible first | exact HB.out | apply below_alloc | apply pw_below_drewN | apply below_drew1 | refine below_set ?_ GE172.out | refine below_row ?_ GE172.out _) | exact HB.out))) : w.heap.size ≤ gb177)); have n4_ := Aside0.mk ((by rw [hg]; exact (below_size (by repeat (first | (with_reducible first | exact HB.out | apply below_alloc | apply pw_below_drewN | apply below_drew1 | refine below_set ?_ GE172.out | refine below_row ?_ GE172.out _) | exact HB.out))) : w.heap.size ≤ gb177)); have n5_ := Aside0.mk ((by rw [hg]; exact Nat.ne_of_lt (blk_lt (g := gb172) (o := .cells (csBay t168 t169 t170) 28 (0, 0)) (by (with_reducible repeat (first | refine blk_drewN ?_ _ | refine blk_drew ?_ | refine blk_alloc ?_ _)); exact BK172.out)) : gb172 ≠ gb177)); have n6_ := Aside0.mk ((by rw [hg]; exact Nat.ne_of_gt (blk_lt (g := gb172) (o := .cells (csBay t168 t169 t170) 28 (0, 0)) (by (with_reducible repeat (first | refine blk_drewN ?_ _ | refine blk_drew ?_ | refine blk_alloc ?_ _)); exact BK172.out)) : gb177 ≠ gb172)); clear BK172; clear HB; have BK172 := n0_; have HB := n1_; have BK177 := n2_; have GW177 := n3_; have GE177 := n4_; have NB172_177 := n5_; have NB177_172 := n6_; clear n0_ n1_ n2_ n3_ n4_ n5_ n6_; clear hb hbox hg; have hnb14 := NB177_172.out; have hnc14 := NB172_177.out; have hcz15_0 : w13.cell? ⟨gb177, 0, none⟩ = some (.int .i8 0) := (blk_cell BK177.out 0).trans rfl; have hcz15_1 : w13.cell? ⟨gb177, 1, none⟩ = some (.int .i8 0) := (blk_cell BK177.out 1).trans rfl; have hwz15 := lv28_at BK177.out; have haz15 := at_cells BK177.out; have hyz15 := BayAt28_of BK177.out; have hvz15 := lvv_of BK177.out; have hzz15 := fun q_ => blk_frozen BK177.out q_; have hfz15_0 := blk_frozen BK177.out 0; have hfz15_1 := blk_frozen BK177.out 1; have hfz15_2 := blk_frozen BK177.out 2) | ((with_reducible refine gate_store (t := 28) (p := 5) rfl ?_); refine bay_event (T := 28) (p := 5) (v := ?vo_w16) (g := gb177) (a1 := t173) (b1 := t174) (d1 := t175) ?hg ?ho ?hn info28s ?hp ?hv (by (with_reducible repeat (first | refine blk_drewN ?_ _ | refine blk_drew ?_ | refine blk_alloc ?_ _)); exact BK177.out) ?_; (case ho => rfl); (case hg => rfl); (case hn => rfl); (case hp => rfl); (case hv => rfl); intro w16 hw; have n0_ : Aside0 (w16.heap[gb172]? = some (.cells (csBay t168 t169 t170) 28 (0, 0))) := ⟨(by rw [hw]; exact (by (with_reducible repeat (first | refine blk_drewN ?_ _ | refine blk_drew ?_ | refine blk_alloc ?_ _)); refine blk_row_far ?_ NB172_177.out _; (with_reducible repeat (first | refine blk_drewN ?_ _ | refine blk_drew ?_ | refine blk_alloc ?_ _)); exact BK172.out))⟩; have n1_ : Aside0 (w16.heap[gb177]? = some (.cells (csBay t173 t174 t175) 28 (0, 0))) := ⟨(by rw [hw]; exact (by (with_reducible repeat (first | refine blk_drewN ?_ _ | refine blk_drew ?_ | refine blk_alloc ?_ _)); refine blk_row (old := (csBay 0 0 (fun _ => 0 : Nat → Int))) ?_ _; (with_reducible repeat (first | refine blk_drewN ?_ _ | refine blk_drew ?_ | refine blk_alloc ?_ _)); exact BK177.out))⟩; have n2_ : Aside0 (Below w.heap.size w w16) := ⟨(by rw [hw]; exact (by repeat (first | (with_reducible first | exact HB.out | apply below_alloc | apply pw_below_drewN | apply below_drew1 | refine below_set ?_ GE172.out | refine below_set ?_ GE177.out | refine below_row ?_ GE172.out _ | refine below_row ?_ GE177.out _) | exact HB.out)))⟩; clear hw; clear BK172; clear BK177; clear HB; have BK172 := n0_; have BK177 := n1_; have HB := n2_; clear n0_ n1_ n2_; have hcz17_0 : w16.cell? ⟨gb177, 0, none⟩ = some (.int .i8 t173) := (blk_cell BK177.out 0).trans rfl; have hcz17_1 : w16.cell? ⟨gb177, 1, none⟩ = some (.int .i8 t174) := (blk_cell BK177.out 1).trans rfl; have hwz17 := lv28_at BK177.out; have haz17 := at_cells BK177.out; have hyz17 := BayAt28_of BK177.out; have hvz17 := lvv_of BK177.out; have hzz17 := fun q_ => blk_frozen BK177.out q_; have hfz17_0 := blk_frozen BK177.out 0; have hfz17_1 := blk_frozen BK177.out 1; have hfz17_2 := blk_frozen BK177.out 2; have hcz18_0 : w16.cell? ⟨gb172, 0, none⟩ = some (.int .i8 t168) := (blk_cell BK172.out 0).trans rfl; have hcz18_1 : w16.cell? ⟨gb172, 1, none⟩ = some (.int .i8 t169) := (blk_cell BK172.out 1).trans rfl; have hwz18 := lv28_at BK172.out; have haz18 := at_cells BK172.out; have hyz18 := BayAt28_of BK172.out; have hvz18 := lvv_of BK172.out; have hzz18 := fun q_ => blk_frozen BK172.out q_; have hfz18_0 := blk_frozen BK172.out 0; have hfz18_1 := blk_frozen BK172.out 1; have hfz18_2 := blk_frozen BK172.out 2) | ((with_reducible refine gate_callee (f := 17) rfl ?_); refine goesL_ (some 22) rfl rfl Tryd.func17 (by kernel_rfl) rfl #[.agg (csBay t173 t174 t175), .agg (csBay t168 t169 t170)] rfl (by (try simp only [List.map_toArray, List.map_cons, List.map_nil]); first | done | rfl | (simp only [List.length_drop, List.length_take]; rfl)) ?_; (with_reducible refine (laws_eqBay.calls t173 t174 t175 t168 t169 t170 true _ A5.out).mono ?_); rintro e w19 ⟨rfl, hb⟩; refine ⟨_, rfl, ?_⟩; have n0_ := Aside0.mk (blk_below (g := gb172) (o := .cells (csBay t168 t169 t170) 28 (0, 0)) (by (with_reducible repeat (first | refine blk_drewN ?_ _ | refine blk_drew ?_ | refine blk_alloc ?_ _)); exact BK172.out) hb); have n1_ := Aside0.mk (blk_below (g := gb177) (o := .cells (csBay t173 t174 t175) 28 (0, 0)) (by (with_reducible repeat (first | refine blk_drewN ?_ _ | refine blk_drew ?_ | refine blk_alloc ?_ _)); exact BK177.out) hb); have n2_ := Aside0.mk (below_step (by repeat (first | (with_reducible first | exact HB.out | apply below_alloc | apply pw_below_drewN | apply below_drew1 | refine below_set ?_ GE172.out | refine below_set ?_ GE177.out | refine below_row ?_ GE172.out _ | refine below_row ?_ GE177.out _) | exact HB.out)) hb); clear BK172; clear BK177; clear HB; have BK172 := n0_; have BK177 := n1_; have HB := n2_; clear n0_ n1_ n2_; (try clear hb); (try clear hb2); (try clear hk); (try clear hi)))
        go_ret
        exact ⟨by first | rfl | (simp [errW_none, errW_some] <;> rfl) | (simp [*, errW_none, errW_some] <;> rfl), by repeat (first | (with_reducible first | exact HB.out | apply below_alloc | apply pw_below_drewN | apply below_drew1 | refine below_set ?_ GE172.out | refine below_set ?_ GE177.out | refine below_row ?_ GE172.out _ | refine below_row ?_ GE177.out _) | exact HB.out)⟩
      · rw [if_neg c7] at H
        have c7b0 : (t176 == t171) = false := beq_eq_false_iff_ne.mpr c7
        have c7b1 : (t176 != t171) = true := bne_iff_ne.mpr c7
        obtain rfl := Option.some.inj H
        go_enter Tryd.func5, Tryd.ntmps5
        go_wp2_with (first | ((with_reducible refine gate_callee (f := 15) rfl ?_); refine goesL_ (some 12) rfl rfl Tryd.func15 (by kernel_rfl) rfl #[.string a0] rfl (by (try simp only [List.map_toArray, List.map_cons, List.map_nil]); first | done | rfl | (simp only [List.length_drop, List.length_take]; rfl)) ?_; (with_reducible refine (spec_ReadBay.calls k a0 t168 t169 t170 t171 _ A3.out).mono ?_); rintro e w20 ⟨rfl, hb⟩; refine ⟨_, rfl, ?_⟩; have n0_ := Aside0.mk (below_step (by repeat (first | (with_reducible first | exact HB.out | apply below_alloc | apply pw_below_drewN | apply below_drew1) | exact HB.out)) hb); clear HB; have HB := n0_; clear n0_; (try clear hb); (try clear hb2); (try clear hk); (try clear hi)) | ((with_reducible refine gate_dst (N := 3) rfl ?_); refine box_event ?hg (N := 3) ?hd (cs := (csBay 0 0 (fun _ => 0 : Nat → Int))) (t := 28) ?hr ?_; (case hd => rfl); (case hg => rfl); (case hr => first | (go_simp; done) | (go_simp; rfl)); intro gb172 hg w21 hbox hb; have n0_ := Aside0.mk (below_step (by repeat (first | (with_reducible first | exact HB.out | apply below_alloc | apply pw_below_drewN | apply below_drew1) | exact HB.out)) hb); have n1_ := Aside0.mk (hbox); have n2_ := Aside0.mk ((by rw [hg]; exact (below_size (by repeat (first | (with_reducible first | exact HB.out | apply below_alloc | apply pw_below_drewN | apply below_drew1) | exact HB.out))) : w.heap.size ≤ gb172)); have n3_ := Aside0.mk ((by rw [hg]; exact (below_size (by repeat (first | (with_reducible first | exact HB.out | apply below_alloc | apply pw_below_drewN | apply below_drew1) | exact HB.out))) : w.heap.size ≤ gb172)); clear HB; have HB := n0_; have BK172 := n1_; have GW172 := n2_; have GE172 := n3_; clear n0_ n1_ n2_ n3_; clear hb hbox hg; have hcz22_0 : w21.cell? ⟨gb172, 0, none⟩ = some (.int .i8 0) := (blk_cell BK172.out 0).trans rfl; have hcz22_1 : w21.cell? ⟨gb172, 1, none⟩ = some (.int .i8 0) := (blk_cell BK172.out 1).trans rfl; have hwz22 := lv28_at BK172.out; have haz22 := at_cells BK172.out; have hyz22 := BayAt28_of BK172.out; have hvz22 := lvv_of BK172.out; have hzz22 := fun q_ => blk_frozen BK172.out q_; have hfz22_0 := blk_frozen BK172.out 0; have hfz22_1 := blk_frozen BK172.out 1; have hfz22_2 := blk_frozen BK172.out 2) | ((with_reducible refine gate_store (t := 28) (p := 3) rfl ?_); refine bay_event (T := 28) (p := 3) (v := ?vo_w23) (g := gb172) (a1 := t168) (b1 := t169) (d1 := t170) ?hg ?ho ?hn info28s ?hp ?hv (by (with_reducible repeat (first | refine blk_drewN ?_ _ | refine blk_drew ?_ | refine blk_alloc ?_ _)); exact BK172.out) ?_; (case ho => rfl); (case hg => rfl); (case hn => rfl); (case hp => rfl); (case hv => rfl); intro w23 hw; have n0_ : Aside0 (w23.heap[gb172]? = some (.cells (csBay t168 t169 t170) 28 (0, 0))) := ⟨(by rw [hw]; exact (by (with_reducible repeat (first | refine blk_drewN ?_ _ | refine blk_drew ?_ | refine blk_alloc ?_ _)); refine blk_row (old := (csBay 0 0 (fun _ => 0 : Nat → Int))) ?_ _; (with_reducible repeat (first | refine blk_drewN ?_ _ | refine blk_drew ?_ | refine blk_alloc ?_ _)); exact BK172.out))⟩; have n1_ : Aside0 (Below w.heap.size w w23) := ⟨(by rw [hw]; exact (by repeat (first | (with_reducible first | exact HB.out | apply below_alloc | apply pw_below_drewN | apply below_drew1 | refine below_set ?_ GE172.out | refine below_row ?_ GE172.out _) | exact HB.out)))⟩; clear hw; clear BK172; clear HB; have BK172 := n0_; have HB := n1_; clear n0_ n1_) | ((with_reducible refine gate_callee (f := 16) rfl ?_); refine goesL_ (some 17) rfl rfl Tryd.func16 (by kernel_rfl) rfl #[.string a0] rfl (by (try simp only [List.map_toArray, List.map_cons, List.map_nil]); first | done | rfl | (simp only [List.length_drop, List.length_take]; rfl)) ?_; (with_reducible refine (impl_ReadBay.calls k a0 t173 t174 t175 t176 _ A4.out ?htbb).mono ?_); (case htbb => exact Go.Proofs.YteffdjfiialdfaaDoor.Shelf.TBb.below HTBb.out (by repeat (first | (with_reducible first | exact HB.out | apply below_alloc | apply pw_below_drewN | apply below_drew1 | refine below_set ?_ (Aside0.out (by assumption))) | exact HB.out))); rintro e w24 ⟨rfl, hb⟩; refine ⟨_, rfl, ?_⟩; have n0_ := Aside0.mk (blk_below (g := gb172) (o := .cells (csBay t168 t169 t170) 28 (0, 0)) (by (with_reducible repeat (first | refine blk_drewN ?_ _ | refine blk_drew ?_ | refine blk_alloc ?_ _)); exact BK172.out) hb); have n1_ := Aside0.mk (below_step (by repeat (first | (with_reducible first | exact HB.out | apply below_alloc | apply pw_below_drewN | apply below_drew1 | refine below_set ?_ GE172.out | refine below_row ?_ GE172.out _) | exact HB.out)) hb); clear BK172; clear HB; have BK172 := n0_; have HB := n1_; clear n0_ n1_; (try clear hb); (try clear hb2); (try clear hk); (try clear hi)) | ((with_reducible refine gate_dst (N := 5) rfl ?_); refine box_event ?hg (N := 5) ?hd (cs := (csBay 0 0 (fun _ => 0 : Nat → Int))) (t := 28) ?hr ?_; (case hd => rfl); (case hg => rfl); (case hr => first | (go_simp; done) | (go_simp; rfl)); intro gb177 hg w25 hbox hb; have n0_ := Aside0.mk (blk_below (g := gb172) (o := .cells (csBay t168 t169 t170) 28 (0, 0)) (by (with_reducible repeat (first | refine blk_drewN ?_ _ | refine blk_drew ?_ | refine blk_alloc ?_ _)); exact BK172.out) hb); have n1_ := Aside0.mk (below_step (by repeat (first | (with_reducible first | exact HB.out | apply below_alloc | apply pw_below_drewN | apply below_drew1 | refine below_set ?_ GE172.out | refine below_row ?_ GE172.out _) | exact HB.out)) hb); have n2_ := Aside0.mk (hbox); have n3_ := Aside0.mk ((by rw [hg]; exact (below_size (by repeat (first | (with_reducible first | exact HB.out | apply below_alloc | apply pw_below_drewN | apply below_drew1 | refine below_set ?_ GE172.out | refine below_row ?_ GE172.out _) | exact HB.out))) : w.heap.size ≤ gb177)); have n4_ := Aside0.mk ((by rw [hg]; exact (below_size (by repeat (first | (with_reducible first | exact HB.out | apply below_alloc | apply pw_below_drewN | apply below_drew1 | refine below_set ?_ GE172.out | refine below_row ?_ GE172.out _) | exact HB.out))) : w.heap.size ≤ gb177)); have n5_ := Aside0.mk ((by rw [hg]; exact Nat.ne_of_lt (blk_lt (g := gb172) (o := .cells (csBay t168 t169 t170) 28 (0, 0)) (by (with_reducible repeat (first | refine blk_drewN ?_ _ | refine blk_drew ?_ | refine blk_alloc ?_ _)); exact BK172.out)) : gb172 ≠ gb177)); have n6_ := Aside0.mk ((by rw [hg]; exact Nat.ne_of_gt (blk_lt (g := gb172) (o := .cells (csBay t168 t169 t170) 28 (0, 0)) (by (with_reducible repeat (first | refine blk_drewN ?_ _ | refine blk_drew ?_ | refine blk_alloc ?_ _)); exact BK172.out)) : gb177 ≠ gb172)); clear BK172; clear HB; have BK172 := n0_; have HB := n1_; have BK177 := n2_; have GW177 := n3_; have GE177 := n4_; have NB172_177 := n5_; have NB177_172 := n6_; clear n0_ n1_ n2_ n3_ n4_ n5_ n6_; clear hb hbox hg; have hnb26 := NB177_172.out; have hnc26 := NB172_177.out; have hcz27_0 : w25.cell? ⟨gb177, 0, none⟩ = some (.int .i8 0) := (blk_cell BK177.out 0).trans rfl; have hcz27_1 : w25.cell? ⟨gb177, 1, none⟩ = some (.int .i8 0) := (blk_cell BK177.out 1).trans rfl; have hwz27 := lv28_at BK177.out; have haz27 := at_cells BK177.out; have hyz27 := BayAt28_of BK177.out; have hvz27 := lvv_of BK177.out; have hzz27 := fun q_ => blk_frozen BK177.out q_; have hfz27_0 := blk_frozen BK177.out 0; have hfz27_1 := blk_frozen BK177.out 1; have hfz27_2 := blk_frozen BK177.out 2) | ((with_reducible refine gate_store (t := 28) (p := 5) rfl ?_); refine bay_event (T := 28) (p := 5) (v := ?vo_w28) (g := gb177) (a1 := t173) (b1 := t174) (d1 := t175) ?hg ?ho ?hn info28s ?hp ?hv (by (with_reducible repeat (first | refine blk_drewN ?_ _ | refine blk_drew ?_ | refine blk_alloc ?_ _)); exact BK177.out) ?_; (case ho => rfl); (case hg => rfl); (case hn => rfl); (case hp => rfl); (case hv => rfl); intro w28 hw; have n0_ : Aside0 (w28.heap[gb172]? = some (.cells (csBay t168 t169 t170) 28 (0, 0))) := ⟨(by rw [hw]; exact (by (with_reducible repeat (first | refine blk_drewN ?_ _ | refine blk_drew ?_ | refine blk_alloc ?_ _)); refine blk_row_far ?_ NB172_177.out _; (with_reducible repeat (first | refine blk_drewN ?_ _ | refine blk_drew ?_ | refine blk_alloc ?_ _)); exact BK172.out))⟩; have n1_ : Aside0 (w28.heap[gb177]? = some (.cells (csBay t173 t174 t175) 28 (0, 0))) := ⟨(by rw [hw]; exact (by (with_reducible repeat (first | refine blk_drewN ?_ _ | refine blk_drew ?_ | refine blk_alloc ?_ _)); refine blk_row (old := (csBay 0 0 (fun _ => 0 : Nat → Int))) ?_ _; (with_reducible repeat (first | refine blk_drewN ?_ _ | refine blk_drew ?_ | refine blk_alloc ?_ _)); exact BK177.out))⟩; have n2_ : Aside0 (Below w.heap.size w w28) := ⟨(by rw [hw]; exact (by repeat (first | (with_reducible first | exact HB.out | apply below_alloc | apply pw_below_drewN | apply below_drew1 | refine below_set ?_ GE172.out | refine below_set ?_ GE177.out | refine below_row ?_ GE172.out _ | refine below_row ?_ GE177.out _) | exact HB.out)))⟩; clear hw; clear BK172; clear BK177; clear HB; have BK172 := n0_; have BK177 := n1_; have HB := n2_; clear n0_ n1_ n2_; have hcz29_0 : w28.cell? ⟨gb177, 0, none⟩ = some (.int .i8 t173) := (blk_cell BK177.out 0).trans rfl; have hcz29_1 : w28.cell? ⟨gb177, 1, none⟩ = some (.int .i8 t174) := (blk_cell BK177.out 1).trans rfl; have hwz29 := lv28_at BK177.out; have haz29 := at_cells BK177.out; have hyz29 := BayAt28_of BK177.out; have hvz29 := lvv_of BK177.out; have hzz29 := fun q_ => blk_frozen BK177.out q_; have hfz29_0 := blk_frozen BK177.out 0; have hfz29_1 := blk_frozen BK177.out 1; have hfz29_2 := blk_frozen BK177.out 2; have hcz30_0 : w28.cell? ⟨gb172, 0, none⟩ = some (.int .i8 t168) := (blk_cell BK172.out 0).trans rfl; have hcz30_1 : w28.cell? ⟨gb172, 1, none⟩ = some (.int .i8 t169) := (blk_cell BK172.out 1).trans rfl; have hwz30 := lv28_at BK172.out; have haz30 := at_cells BK172.out; have hyz30 := BayAt28_of BK172.out; have hvz30 := lvv_of BK172.out; have hzz30 := fun q_ => blk_frozen BK172.out q_; have hfz30_0 := blk_frozen BK172.out 0; have hfz30_1 := blk_frozen BK172.out 1; have hfz30_2 := blk_frozen BK172.out 2) | ((with_reducible refine gate_callee (f := 17) rfl ?_); refine goesL_ (some 22) rfl rfl Tryd.func17 (by kernel_rfl) rfl #[.agg (csBay t173 t174 t175), .agg (csBay t168 t169 t170)] rfl (by (try simp only [List.map_toArray, List.map_cons, List.map_nil]); first | done | rfl | (simp only [List.length_drop, List.length_take]; rfl)) ?_; (with_reducible refine (laws_eqBay.calls t173 t174 t175 t168 t169 t170 true _ A5.out).mono ?_); rintro e w31 ⟨rfl, hb⟩; refine ⟨_, rfl, ?_⟩; have n0_ := Aside0.mk (blk_below (g := gb172) (o := .cells (csBay t168 t169 t170) 28 (0, 0)) (by (with_reducible repeat (first | refine blk_drewN ?_ _ | refine blk_drew ?_ | refine blk_alloc ?_ _)); exact BK172.out) hb); have n1_ := Aside0.mk (blk_below (g := gb177) (o := .cells (csBay t173 t174 t175) 28 (0, 0)) (by (with_reducible repeat (first | refine blk_drewN ?_ _ | refine blk_drew ?_ | refine blk_alloc ?_ _)); exact BK177.out) hb); have n2_ := Aside0.mk (below_step (by repeat (first | (with_reducible first | exact HB.out | apply below_alloc | apply pw_below_drewN | apply below_drew1 | refine below_set ?_ GE172.out | refine below_set ?_ GE177.out | refine below_row ?_ GE172.out _ | refine below_row ?_ GE177.out _) | exact HB.out)) hb); clear BK172; clear BK177; clear HB; have BK172 := n0_; have BK177 := n1_; have HB := n2_; clear n0_ n1_ n2_; (try clear hb); (try clear hb2); (try clear hk); (try clear hi)))
        go_ret
        exact ⟨by first | rfl | (simp [errW_none, errW_some] <;> rfl) | (simp [*, errW_none, errW_some] <;> rfl), by repeat (first | (with_reducible first | exact HB.out | apply below_alloc | apply pw_below_drewN | apply below_drew1 | refine below_set ?_ GE172.out | refine below_set ?_ GE177.out | refine below_row ?_ GE172.out _ | refine below_row ?_ GE177.out _) | exact HB.out)⟩
    · replace c6 := Bool.eq_false_iff.mpr c6
      subst c6
      have H1 : (some false) = some r := by rw [if_neg (show ¬ (false = true) by decide)] at H; exact H
      clear H
      have H := H1
      clear H1
      obtain rfl := Option.some.inj H
      go_enter Tryd.func5, Tryd.ntmps5
      go_wp2_with (first | ((with_reducible refine gate_callee (f := 15) rfl ?_); refine goesL_ (some 12) rfl rfl Tryd.func15 (by kernel_rfl) rfl #[.string a0] rfl (by (try simp only [List.map_toArray, List.map_cons, List.map_nil]); first | done | rfl | (simp only [List.length_drop, List.length_take]; rfl)) ?_; (with_reducible refine (spec_ReadBay.calls k a0 t168 t169 t170 t171 _ A3.out).mono ?_); rintro e w32 ⟨rfl, hb⟩; refine ⟨_, rfl, ?_⟩; have n0_ := Aside0.mk (below_step (by repeat (first | (with_reducible first | exact HB.out | apply below_alloc | apply pw_below_drewN | apply below_drew1) | exact HB.out)) hb); clear HB; have HB := n0_; clear n0_; (try clear hb); (try clear hb2); (try clear hk); (try clear hi)) | ((with_reducible refine gate_dst (N := 3) rfl ?_); refine box_event ?hg (N := 3) ?hd (cs := (csBay 0 0 (fun _ => 0 : Nat → Int))) (t := 28) ?hr ?_; (case hd => rfl); (case hg => rfl); (case hr => first | (go_simp; done) | (go_simp; rfl)); intro gb172 hg w33 hbox hb; have n0_ := Aside0.mk (below_step (by repeat (first | (with_reducible first | exact HB.out | apply below_alloc | apply pw_below_drewN | apply below_drew1) | exact HB.out)) hb); have n1_ := Aside0.mk (hbox); have n2_ := Aside0.mk ((by rw [hg]; exact (below_size (by repeat (first | (with_reducible first | exact HB.out | apply below_alloc | apply pw_below_drewN | apply below_drew1) | exact HB.out))) : w.heap.size ≤ gb172)); have n3_ := Aside0.mk ((by rw [hg]; exact (below_size (by repeat (first | (with_reducible first | exact HB.out | apply below_alloc | apply pw_below_drewN | apply below_drew1) | exact HB.out))) : w.heap.size ≤ gb172)); clear HB; have HB := n0_; have BK172 := n1_; have GW172 := n2_; have GE172 := n3_; clear n0_ n1_ n2_ n3_; clear hb hbox hg; have hcz34_0 : w33.cell? ⟨gb172, 0, none⟩ = some (.int .i8 0) := (blk_cell BK172.out 0).trans rfl; have hcz34_1 : w33.cell? ⟨gb172, 1, none⟩ = some (.int .i8 0) := (blk_cell BK172.out 1).trans rfl; have hwz34 := lv28_at BK172.out; have haz34 := at_cells BK172.out; have hyz34 := BayAt28_of BK172.out; have hvz34 := lvv_of BK172.out; have hzz34 := fun q_ => blk_frozen BK172.out q_; have hfz34_0 := blk_frozen BK172.out 0; have hfz34_1 := blk_frozen BK172.out 1; have hfz34_2 := blk_frozen BK172.out 2) | ((with_reducible refine gate_store (t := 28) (p := 3) rfl ?_); refine bay_event (T := 28) (p := 3) (v := ?vo_w35) (g := gb172) (a1 := t168) (b1 := t169) (d1 := t170) ?hg ?ho ?hn info28s ?hp ?hv (by (with_reducible repeat (first | refine blk_drewN ?_ _ | refine blk_drew ?_ | refine blk_alloc ?_ _)); exact BK172.out) ?_; (case ho => rfl); (case hg => rfl); (case hn => rfl); (case hp => rfl); (case hv => rfl); intro w35 hw; have n0_ : Aside0 (w35.heap[gb172]? = some (.cells (csBay t168 t169 t170) 28 (0, 0))) := ⟨(by rw [hw]; exact (by (with_reducible repeat (first | refine blk_drewN ?_ _ | refine blk_drew ?_ | refine blk_alloc ?_ _)); refine blk_row (old := (csBay 0 0 (fun _ => 0 : Nat → Int))) ?_ _; (with_reducible repeat (first | refine blk_drewN ?_ _ | refine blk_drew ?_ | refine blk_alloc ?_ _)); exact BK172.out))⟩; have n1_ : Aside0 (Below w.heap.size w w35) := ⟨(by rw [hw]; exact (by repeat (first | (with_reducible first | exact HB.out | apply below_alloc | apply pw_below_drewN | apply below_drew1 | refine below_set ?_ GE172.out | refine below_row ?_ GE172.out _) | exact HB.out)))⟩; clear hw; clear BK172; clear HB; have BK172 := n0_; have HB := n1_; clear n0_ n1_) | ((with_reducible refine gate_callee (f := 16) rfl ?_); refine goesL_ (some 17) rfl rfl Tryd.func16 (by kernel_rfl) rfl #[.string a0] rfl (by (try simp only [List.map_toArray, List.map_cons, List.map_nil]); first | done | rfl | (simp only [List.length_drop, List.length_take]; rfl)) ?_; (with_reducible refine (impl_ReadBay.calls k a0 t173 t174 t175 t176 _ A4.out ?htbb).mono ?_); (case htbb => exact Go.Proofs.YteffdjfiialdfaaDoor.Shelf.TBb.below HTBb.out (by repeat (first | (with_reducible first | exact HB.out | apply below_alloc | apply pw_below_drewN | apply below_drew1 | refine below_set ?_ (Aside0.out (by assumption))) | exact HB.out))); rintro e w36 ⟨rfl, hb⟩; refine ⟨_, rfl, ?_⟩; have n0_ := Aside0.mk (blk_below (g := gb172) (o := .cells (csBay t168 t169 t170) 28 (0, 0)) (by (with_reducible repeat (first | refine blk_drewN ?_ _ | refine blk_drew ?_ | refine blk_alloc ?_ _)); exact BK172.out) hb); have n1_ := Aside0.mk (below_step (by repeat (first | (with_reducible first | exact HB.out | apply below_alloc | apply pw_below_drewN | apply below_drew1 | refine below_set ?_ GE172.out | refine below_row ?_ GE172.out _) | exact HB.out)) hb); clear BK172; clear HB; have BK172 := n0_; have HB := n1_; clear n0_ n1_; (try clear hb); (try clear hb2); (try clear hk); (try clear hi)) | ((with_reducible refine gate_dst (N := 5) rfl ?_); refine box_event ?hg (N := 5) ?hd (cs := (csBay 0 0 (fun _ => 0 : Nat → Int))) (t := 28) ?hr ?_; (case hd => rfl); (case hg => rfl); (case hr => first | (go_simp; done) | (go_simp; rfl)); intro gb177 hg w37 hbox hb; have n0_ := Aside0.mk (blk_below (g := gb172) (o := .cells (csBay t168 t169 t170) 28 (0, 0)) (by (with_reducible repeat (first | refine blk_drewN ?_ _ | refine blk_drew ?_ | refine blk_alloc ?_ _)); exact BK172.out) hb); have n1_ := Aside0.mk (below_step (by repeat (first | (with_reducible first | exact HB.out | apply below_alloc | apply pw_below_drewN | apply below_drew1 | refine below_set ?_ GE172.out | refine below_row ?_ GE172.out _) | exact HB.out)) hb); have n2_ := Aside0.mk (hbox); have n3_ := Aside0.mk ((by rw [hg]; exact (below_size (by repeat (first | (with_reducible first | exact HB.out | apply below_alloc | apply pw_below_drewN | apply below_drew1 | refine below_set ?_ GE172.out | refine below_row ?_ GE172.out _) | exact HB.out))) : w.heap.size ≤ gb177)); have n4_ := Aside0.mk ((by rw [hg]; exact (below_size (by repeat (first | (with_reducible first | exact HB.out | apply below_alloc | apply pw_below_drewN | apply below_drew1 | refine below_set ?_ GE172.out | refine below_row ?_ GE172.out _) | exact HB.out))) : w.heap.size ≤ gb177)); have n5_ := Aside0.mk ((by rw [hg]; exact Nat.ne_of_lt (blk_lt (g := gb172) (o := .cells (csBay t168 t169 t170) 28 (0, 0)) (by (with_reducible repeat (first | refine blk_drewN ?_ _ | refine blk_drew ?_ | refine blk_alloc ?_ _)); exact BK172.out)) : gb172 ≠ gb177)); have n6_ := Aside0.mk ((by rw [hg]; exact Nat.ne_of_gt (blk_lt (g := gb172) (o := .cells (csBay t168 t169 t170) 28 (0, 0)) (by (with_reducible repeat (first | refine blk_drewN ?_ _ | refine blk_drew ?_ | refine blk_alloc ?_ _)); exact BK172.out)) : gb177 ≠ gb172)); clear BK172; clear HB; have BK172 := n0_; have HB := n1_; have BK177 := n2_; have GW177 := n3_; have GE177 := n4_; have NB172_177 := n5_; have NB177_172 := n6_; clear n0_ n1_ n2_ n3_ n4_ n5_ n6_; clear hb hbox hg; have hnb38 := NB177_172.out; have hnc38 := NB172_177.out; have hcz39_0 : w37.cell? ⟨gb177, 0, none⟩ = some (.int .i8 0) := (blk_cell BK177.out 0).trans rfl; have hcz39_1 : w37.cell? ⟨gb177, 1, none⟩ = some (.int .i8 0) := (blk_cell BK177.out 1).trans rfl; have hwz39 := lv28_at BK177.out; have haz39 := at_cells BK177.out; have hyz39 := BayAt28_of BK177.out; have hvz39 := lvv_of BK177.out; have hzz39 := fun q_ => blk_frozen BK177.out q_; have hfz39_0 := blk_frozen BK177.out 0; have hfz39_1 := blk_frozen BK177.out 1; have hfz39_2 := blk_frozen BK177.out 2) | ((with_reducible refine gate_store (t := 28) (p := 5) rfl ?_); refine bay_event (T := 28) (p := 5) (v := ?vo_w40) (g := gb177) (a1 := t173) (b1 := t174) (d1 := t175) ?hg ?ho ?hn info28s ?hp ?hv (by (with_reducible repeat (first | refine blk_drewN ?_ _ | refine blk_drew ?_ | refine blk_alloc ?_ _)); exact BK177.out) ?_; (case ho => rfl); (case hg => rfl); (case hn => rfl); (case hp => rfl); (case hv => rfl); intro w40 hw; have n0_ : Aside0 (w40.heap[gb172]? = some (.cells (csBay t168 t169 t170) 28 (0, 0))) := ⟨(by rw [hw]; exact (by (with_reducible repeat (first | refine blk_drewN ?_ _ | refine blk_drew ?_ | refine blk_alloc ?_ _)); refine blk_row_far ?_ NB172_177.out _; (with_reducible repeat (first | refine blk_drewN ?_ _ | refine blk_drew ?_ | refine blk_alloc ?_ _)); exact BK172.out))⟩; have n1_ : Aside0 (w40.heap[gb177]? = some (.cells (csBay t173 t174 t175) 28 (0, 0))) := ⟨(by rw [hw]; exact (by (with_reducible repeat (first | refine blk_drewN ?_ _ | refine blk_drew ?_ | refine blk_alloc ?_ _)); refine blk_row (old := (csBay 0 0 (fun _ => 0 : Nat → Int))) ?_ _; (with_reducible repeat (first | refine blk_drewN ?_ _ | refine blk_drew ?_ | refine blk_alloc ?_ _)); exact BK177.out))⟩; have n2_ : Aside0 (Below w.heap.size w w40) := ⟨(by rw [hw]; exact (by repeat (first | (with_reducible first | exact HB.out | apply below_alloc | apply pw_below_drewN | apply below_drew1 | refine below_set ?_ GE172.out | refine below_set ?_ GE177.out | refine below_row ?_ GE172.out _ | refine below_row ?_ GE177.out _) | exact HB.out)))⟩; clear hw; clear BK172; clear BK177; clear HB; have BK172 := n0_; have BK177 := n1_; have HB := n2_; clear n0_ n1_ n2_; have hcz41_0 : w40.cell? ⟨gb177, 0, none⟩ = some (.int .i8 t173) := (blk_cell BK177.out 0).trans rfl; have hcz41_1 : w40.cell? ⟨gb177, 1, none⟩ = some (.int .i8 t174) := (blk_cell BK177.out 1).trans rfl; have hwz41 := lv28_at BK177.out; have haz41 := at_cells BK177.out; have hyz41 := BayAt28_of BK177.out; have hvz41 := lvv_of BK177.out; have hzz41 := fun q_ => blk_frozen BK177.out q_; have hfz41_0 := blk_frozen BK177.out 0; have hfz41_1 := blk_frozen BK177.out 1; have hfz41_2 := blk_frozen BK177.out 2; have hcz42_0 : w40.cell? ⟨gb172, 0, none⟩ = some (.int .i8 t168) := (blk_cell BK172.out 0).trans rfl; have hcz42_1 : w40.cell? ⟨gb172, 1, none⟩ = some (.int .i8 t169) := (blk_cell BK172.out 1).trans rfl; have hwz42 := lv28_at BK172.out; have haz42 := at_cells BK172.out; have hyz42 := BayAt28_of BK172.out; have hvz42 := lvv_of BK172.out; have hzz42 := fun q_ => blk_frozen BK172.out q_; have hfz42_0 := blk_frozen BK172.out 0; have hfz42_1 := blk_frozen BK172.out 1; have hfz42_2 := blk_frozen BK172.out 2) | ((with_reducible refine gate_callee (f := 17) rfl ?_); refine goesL_ (some 22) rfl rfl Tryd.func17 (by kernel_rfl) rfl #[.agg (csBay t173 t174 t175), .agg (csBay t168 t169 t170)] rfl (by (try simp only [List.map_toArray, List.map_cons, List.map_nil]); first | done | rfl | (simp only [List.length_drop, List.length_take]; rfl)) ?_; (with_reducible refine (laws_eqBay.calls t173 t174 t175 t168 t169 t170 false _ A5.out).mono ?_); rintro e w43 ⟨rfl, hb⟩; refine ⟨_, rfl, ?_⟩; have n0_ := Aside0.mk (blk_below (g := gb172) (o := .cells (csBay t168 t169 t170) 28 (0, 0)) (by (with_reducible repeat (first | refine blk_drewN ?_ _ | refine blk_drew ?_ | refine blk_alloc ?_ _)); exact BK172.out) hb); have n1_ := Aside0.mk (blk_below (g := gb177) (o := .cells (csBay t173 t174 t175) 28 (0, 0)) (by (with_reducible repeat (first | refine blk_drewN ?_ _ | refine blk_drew ?_ | refine blk_alloc ?_ _)); exact BK177.out) hb); have n2_ := Aside0.mk (below_step (by repeat (first | (with_reducible first | exact HB.out | apply below_alloc | apply pw_below_drewN | apply below_drew1 | refine below_set ?_ GE172.out | refine below_set ?_ GE177.out | refine below_row ?_ GE172.out _ | refine below_row ?_ GE177.out _) | exact HB.out)) hb); clear BK172; clear BK177; clear HB; have BK172 := n0_; have BK177 := n1_; have HB := n2_; clear n0_ n1_ n2_; (try clear hb); (try clear hb2); (try clear hk); (try clear hi)))
      go_ret
      exact ⟨by first | rfl | (simp [errW_none, errW_some] <;> rfl) | (simp [*, errW_none, errW_some] <;> rfl), by repeat (first | (with_reducible first | exact HB.out | apply below_alloc | apply pw_below_drewN | apply below_drew1 | refine below_set ?_ GE172.out | refine below_set ?_ GE177.out | refine below_row ?_ GE172.out _ | refine below_row ?_ GE177.out _) | exact HB.out)⟩

/-- THE ONE PURE STATEMENT of laws_FnExactReadBay: yours. -/
def laws_FnExactReadBay.Pure : Prop := ∀ (a0 : ByteArray), a0.size ≤ 140737488351232 → ∃ k, laws_FnExactReadBay.f k a0 = some true

end Go.Proofs.YteffdjfiialdfaaDoor.PFnExactReadBay
