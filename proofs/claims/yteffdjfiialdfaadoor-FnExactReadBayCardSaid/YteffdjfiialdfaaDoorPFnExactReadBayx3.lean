-- Written by a program out of this seat's translation (functions, and that the code comes to them).
import Derived.Test.YteffdjfiialdfaaDoorPFnExactReadBayx0
import Derived.Test.YteffdjfiialdfaaDoorPFnExactReadBayx1
import Derived.Test.YteffdjfiialdfaaDoorPFnExactReadBayx2
namespace Go.Proofs.YteffdjfiialdfaaDoor.PFnExactReadBay
open Go.RowKit Go.Proofs.YteffdjfiialdfaaDoorW.PrintWords Go.Proofs.YteffdjfiialdfaaDoorW.PrintLast Go.Proofs.YteffdjfiialdfaaDoorW.PrintMore
attribute [local go_sem] max2_int min2_int max_two min_two max_three min_three max_four min_four   -- for this text's walks alone
open Go.Proofs.YteffdjfiialdfaaDoor.Bay
attribute [local go_sem ↓] lv26_eq al26_eq bd26_eq lv28_eq al28_eq bd28_eq
attribute [local go_sem] lvv_set lvv_drewN lvv_drew lv26_run BayAt26_set BayAt26_drewN BayAt26_drew al26_run bd26_run0 bd26_run1 bd26_run2 lv28_run BayAt28_set BayAt28_drewN BayAt28_drew al28_run bd28_run0 bd28_run1 bd28_run2
set_option linter.unusedVariables false
set_option linter.unusedSimpArgs false

def spec_ReadBay_bay.f (k : Nat) (a b : Int) (d : Nat → Int) : Option Bool := (spec_l01Bay.f k a b d).bind fun t => if t.2.1 = a ∧ t.2.2.1 = b ∧ (List.range 256).all (fun i => t.2.2.2 i == d i) = true then some t.1 else none
theorem spec_ReadBay_bay.of {k : Nat} {a b : Int} {d : Nat → Int} {r : Bool} (h : spec_ReadBay_bay.f k a b d = some r) : ∃ e : Nat → Int, spec_l01Bay.f k a b d = some (r, a, b, e) ∧ ∀ i, i < 256 → e i = d i := by
  unfold spec_ReadBay_bay.f at h
  obtain ⟨⟨t1, t2, t3, t4⟩, h1, h⟩ := Option.bind_eq_some_iff.1 h
  split at h
  · rename_i c
    obtain ⟨c1, c2, c3⟩ := c
    obtain rfl : t1 = r := by injection h
    obtain rfl : t2 = a := c1
    obtain rfl : t3 = b := c2
    exact ⟨t4, h1, fun i hi => by simpa using List.all_eq_true.1 c3 i (List.mem_range.2 hi)⟩
  · cases h
theorem spec_ReadBay_bay.to {k : Nat} {a b : Int} {d e : Nat → Int} {r : Bool} (h : spec_l01Bay.f k a b d = some (r, a, b, e)) (he : ∀ i, i < 256 → e i = d i) : spec_ReadBay_bay.f k a b d = some r := by
  unfold spec_ReadBay_bay.f
  rw [h]
  show (if a = a ∧ b = b ∧ (List.range 256).all (fun i => e i == d i) = true then some r else none) = some r
  rw [if_pos ⟨rfl, rfl, List.all_eq_true.2 fun i hi => by simpa using he i (List.mem_range.1 hi)⟩]
theorem spec_ReadBay_bay.mono : ∀ a b d k, LeO (spec_ReadBay_bay.f k a b d) (spec_ReadBay_bay.f (k + 1) a b d) := fun a b d k r h => (spec_ReadBay_bay.of h).elim fun e he => spec_ReadBay_bay.to (spec_l01Bay.mono a b d k _ he.1) he.2
theorem spec_ReadBay_bay.calls (k g : Nat) (a b : Int) (d : Nat → Int) (r : Bool) (w0 w : World) (hb : w.heap[g]? = some (.cells (csBay a b d) 28 (0, 0))) (hg : w0.heap.size ≤ g) (hB : Below w0.heap.size w0 w) (h : spec_ReadBay_bay.f k a b d = some r) :
    Calls Tryd.prog 22 #[.pointer (some ⟨g, 0, none⟩)] w fun e w' => e = .returned (.bool r) ∧ Below w.heap.size w w' := by
  obtain ⟨d2, hs, hd⟩ := spec_ReadBay_bay.of h
  refine (spec_l01Bay.calls k g a b d r a b d2 w0 w ⟨hb, hg⟩ hB hs).mono fun e w' ⟨he, hI, hL, hk⟩ => ?_
  have h1 := hI.1
  rw [csBay_congr hd] at h1
  exact ⟨he, hL.os.trans hB.os.symm, hL.tape.trans hB.tape.symm, hL.output.trans hB.output.symm, hk.1, fun i hi => if c : i = g then c ▸ h1.trans hb.symm else hk.2 i hi c (by simp)⟩
/-! ### spec_ReadBay: function 15 -/
mutual
def spec_ReadBay.j0 : Nat → List ByteArray → Int → Bool → Option (Int × Int × (Nat → Int) × Int)
  | 0, _, _, _ => none
  | k + 1, x4, x5, x25 => if x25 = true then (some (0, 0, (fun _ => 0 : Nat → Int), 5)) else (spec_ReadBay.l0 k x4 x5 0 0 (IntKind.i8.wrap (x5)) (fun _ => 0 : Nat → Int))
def spec_ReadBay.l0 : Nat → List ByteArray → Int → Int → Int → Int → (Nat → Int) → Option (Int × Int × (Nat → Int) × Int)
  | 0, _, _, _, _, _, _ => none
  | k + 1, x4, x5, x7, x145000, x145001, x145002 => if x7 < x5 then (if 0 ≤ x7 then (if x7 < (x4.length : Int) then ((spec_l01Words.f k (rdOf ByteArray.empty x4 x7)).bind fun bt147 => (if bt147.2 = true then (if (bt147.1.length : Int) > 16 then (spec_ReadBay.j2 k x4 x5 x7 bt147.1 true x145000 x145001 x145002) else (if x7 > 0 then (spec_ReadBay.j2 k x4 x5 x7 bt147.1 ((bt147.1.length : Int) != (wrap64 (x145000))) x145000 x145001 x145002) else (spec_ReadBay.j2 k x4 x5 x7 bt147.1 false x145000 x145001 x145002))) else (spec_ReadBay.j2 k x4 x5 x7 bt147.1 true x145000 x145001 x145002))) else (none)) else (none)) else ((spec_ReadBay_bay.f k x145000 x145001 x145002).bind fun t145 => (if t145 = true then (some (x145000, x145001, x145002, 0)) else (some (0, 0, (fun _ => 0 : Nat → Int), 5))))
def spec_ReadBay.j2 : Nat → List ByteArray → Int → Int → List Int → Bool → Int → Int → (Nat → Int) → Option (Int × Int × (Nat → Int) × Int)
  | 0, _, _, _, _, _, _, _, _ => none
  | k + 1, x4, x5, x7, x8, x61, x145000, x145001, x145002 => if x61 = true then (some (0, 0, (fun _ => 0 : Nat → Int), 5)) else (spec_ReadBay.l1 k x4 x5 x7 x8 0 (IntKind.i8.wrap ((x8.length : Int))) x145001 x145002)
def spec_ReadBay.l1 : Nat → List ByteArray → Int → Int → List Int → Int → Int → Int → (Nat → Int) → Option (Int × Int × (Nat → Int) × Int)
  | 0, _, _, _, _, _, _, _, _ => none
  | k + 1, x4, x5, x7, x8, x10, x145000, x145001, x145002 => if x10 < (x8.length : Int) then (if 0 ≤ x10 then (if 0 ≤ x7 then (if x7 < 16 then (if x10 < 16 then (spec_ReadBay.l1 k x4 x5 x7 x8 (wrap64 (x10 + 1)) x145000 x145001 (setD x145002 (16 * (x7 : Int).toNat + (x10 : Int).toNat) (IntKind.i8.wrap (rd x8 x10)))) else (none)) else (none)) else (none)) else (none)) else (spec_ReadBay.l0 k x4 x5 (wrap64 (x7 + 1)) x145000 x145001 x145002)
end
def spec_ReadBay.f (k : Nat) (a0 : ByteArray) : Option (Int × Int × (Nat → Int) × Int) := (spec_l01Split.f k a0 10).bind fun t139 => (if 0 ≤ (wrap64 ((t139.length : Int) - 1)) then (if (wrap64 ((t139.length : Int) - 1)) < (t139.length : Int) then (if (rdOf ByteArray.empty t139 (wrap64 ((t139.length : Int) - 1))).toList = ([] : List UInt8) then ((spec_l00In.f (wrap64 ((t139.length : Int) - 1)) 1 16).bind fun t143 => (spec_ReadBay.j0 k t139 (wrap64 ((t139.length : Int) - 1)) (!t143))) else (spec_ReadBay.j0 k t139 (wrap64 ((t139.length : Int) - 1)) true)) else (none)) else (none))
theorem spec_ReadBay.mono_l : ∀ k, (∀ y0 y1 y2, LeO (spec_ReadBay.j0 k y0 y1 y2) (spec_ReadBay.j0 (k + 1) y0 y1 y2)) ∧ (∀ y0 y1 y2 y3 y4 y5, LeO (spec_ReadBay.l0 k y0 y1 y2 y3 y4 y5) (spec_ReadBay.l0 (k + 1) y0 y1 y2 y3 y4 y5)) ∧ (∀ y0 y1 y2 y3 y4 y5 y6 y7, LeO (spec_ReadBay.j2 k y0 y1 y2 y3 y4 y5 y6 y7) (spec_ReadBay.j2 (k + 1) y0 y1 y2 y3 y4 y5 y6 y7)) ∧ (∀ y0 y1 y2 y3 y4 y5 y6 y7, LeO (spec_ReadBay.l1 k y0 y1 y2 y3 y4 y5 y6 y7) (spec_ReadBay.l1 (k + 1) y0 y1 y2 y3 y4 y5 y6 y7))
  | 0 => ⟨fun _ _ _ r h => by simp [spec_ReadBay.j0] at h, fun _ _ _ _ _ _ r h => by simp [spec_ReadBay.l0] at h, fun _ _ _ _ _ _ _ _ r h => by simp [spec_ReadBay.j2] at h, fun _ _ _ _ _ _ _ _ r h => by simp [spec_ReadBay.l1] at h⟩
  | k + 1 => by
    obtain ⟨ih0, ih1, ih2, ih3⟩ := spec_ReadBay.mono_l k
    refine ⟨?_, ?_, ?_, ?_⟩
    · intro y0 y1 y2
      unfold spec_ReadBay.j0
      repeat' first
      | (with_reducible exact ih0 _ _ _)
      | (with_reducible exact ih1 _ _ _ _ _ _)
      | (with_reducible exact ih2 _ _ _ _ _ _ _ _)
      | (with_reducible exact ih3 _ _ _ _ _ _ _ _)
      | (with_reducible exact spec_ReadBay_bay.mono _ _ _ _)
      | (with_reducible exact spec_l01Split.mono _ _ _)
      | (with_reducible exact spec_l01Words.mono _ _)
      | (with_reducible exact LeO.refl _)
      | (with_reducible exact LeO.none _)
      | (with_reducible refine LeO.ite ?_ ?_)
      | (with_reducible refine LeO.bind ?_ (fun _ => ?_))
      | exact ih0 _ _ _
      | exact ih1 _ _ _ _ _ _
      | exact ih2 _ _ _ _ _ _ _ _
      | exact ih3 _ _ _ _ _ _ _ _
      | exact spec_ReadBay_bay.mono _ _ _ _
      | exact spec_l01Split.mono _ _ _
      | exact spec_l01Words.mono _ _
      | exact LeO.none _
      | refine LeO.ite ?_ ?_
      | refine LeO.bind ?_ (fun _ => ?_)
    · intro y0 y1 y2 y3 y4 y5
      unfold spec_ReadBay.l0
      repeat' first
      | (with_reducible exact ih0 _ _ _)
      | (with_reducible exact ih1 _ _ _ _ _ _)
      | (with_reducible exact ih2 _ _ _ _ _ _ _ _)
      | (with_reducible exact ih3 _ _ _ _ _ _ _ _)
      | (with_reducible exact spec_ReadBay_bay.mono _ _ _ _)
      | (with_reducible exact spec_l01Split.mono _ _ _)
      | (with_reducible exact spec_l01Words.mono _ _)
      | (with_reducible exact LeO.refl _)
      | (with_reducible exact LeO.none _)
      | (with_reducible refine LeO.ite ?_ ?_)
      | (with_reducible refine LeO.bind ?_ (fun _ => ?_))
      | exact ih0 _ _ _
      | exact ih1 _ _ _ _ _ _
      | exact ih2 _ _ _ _ _ _ _ _
      | exact ih3 _ _ _ _ _ _ _ _
      | exact spec_ReadBay_bay.mono _ _ _ _
      | exact spec_l01Split.mono _ _ _
      | exact spec_l01Words.mono _ _
      | exact LeO.none _
      | refine LeO.ite ?_ ?_
      | refine LeO.bind ?_ (fun _ => ?_)
    · intro y0 y1 y2 y3 y4 y5 y6 y7
      unfold spec_ReadBay.j2
      repeat' first
      | (with_reducible exact ih0 _ _ _)
      | (with_reducible exact ih1 _ _ _ _ _ _)
      | (with_reducible exact ih2 _ _ _ _ _ _ _ _)
      | (with_reducible exact ih3 _ _ _ _ _ _ _ _)
      | (with_reducible exact spec_ReadBay_bay.mono _ _ _ _)
      | (with_reducible exact spec_l01Split.mono _ _ _)
      | (with_reducible exact spec_l01Words.mono _ _)
      | (with_reducible exact LeO.refl _)
      | (with_reducible exact LeO.none _)
      | (with_reducible refine LeO.ite ?_ ?_)
      | (with_reducible refine LeO.bind ?_ (fun _ => ?_))
      | exact ih0 _ _ _
      | exact ih1 _ _ _ _ _ _
      | exact ih2 _ _ _ _ _ _ _ _
      | exact ih3 _ _ _ _ _ _ _ _
      | exact spec_ReadBay_bay.mono _ _ _ _
      | exact spec_l01Split.mono _ _ _
      | exact spec_l01Words.mono _ _
      | exact LeO.none _
      | refine LeO.ite ?_ ?_
      | refine LeO.bind ?_ (fun _ => ?_)
    · intro y0 y1 y2 y3 y4 y5 y6 y7
      unfold spec_ReadBay.l1
      repeat' first
      | (with_reducible exact ih0 _ _ _)
      | (with_reducible exact ih1 _ _ _ _ _ _)
      | (with_reducible exact ih2 _ _ _ _ _ _ _ _)
      | (with_reducible exact ih3 _ _ _ _ _ _ _ _)
      | (with_reducible exact spec_ReadBay_bay.mono _ _ _ _)
      | (with_reducible exact spec_l01Split.mono _ _ _)
      | (with_reducible exact spec_l01Words.mono _ _)
      | (with_reducible exact LeO.refl _)
      | (with_reducible exact LeO.none _)
      | (with_reducible refine LeO.ite ?_ ?_)
      | (with_reducible refine LeO.bind ?_ (fun _ => ?_))
      | exact ih0 _ _ _
      | exact ih1 _ _ _ _ _ _
      | exact ih2 _ _ _ _ _ _ _ _
      | exact ih3 _ _ _ _ _ _ _ _
      | exact spec_ReadBay_bay.mono _ _ _ _
      | exact spec_l01Split.mono _ _ _
      | exact spec_l01Words.mono _ _
      | exact LeO.none _
      | refine LeO.ite ?_ ?_
      | refine LeO.bind ?_ (fun _ => ?_)
theorem spec_ReadBay.mono : ∀ a0 k, LeO (spec_ReadBay.f k a0) (spec_ReadBay.f (k + 1) a0) := by
  intro a0 k
  obtain ⟨ih0, ih1, ih2, ih3⟩ := spec_ReadBay.mono_l k
  unfold spec_ReadBay.f
  repeat' first
      | (with_reducible exact ih0 _ _ _)
      | (with_reducible exact ih1 _ _ _ _ _ _)
      | (with_reducible exact ih2 _ _ _ _ _ _ _ _)
      | (with_reducible exact ih3 _ _ _ _ _ _ _ _)
      | (with_reducible exact spec_ReadBay_bay.mono _ _ _ _)
      | (with_reducible exact spec_l01Split.mono _ _ _)
      | (with_reducible exact spec_l01Words.mono _ _)
      | (with_reducible exact LeO.refl _)
      | (with_reducible exact LeO.none _)
      | (with_reducible refine LeO.ite ?_ ?_)
      | (with_reducible refine LeO.bind ?_ (fun _ => ?_))
      | exact ih0 _ _ _
      | exact ih1 _ _ _ _ _ _
      | exact ih2 _ _ _ _ _ _ _ _
      | exact ih3 _ _ _ _ _ _ _ _
      | exact spec_ReadBay_bay.mono _ _ _ _
      | exact spec_l01Split.mono _ _ _
      | exact spec_l01Words.mono _ _
      | exact LeO.none _
      | refine LeO.ite ?_ ?_
      | refine LeO.bind ?_ (fun _ => ?_)
def spec_ReadBay.T16 : Bool × List (List Nat × List Nat) := (true, [([], []), ([], []), ([], []), ([], []), ([2, 3], [2, 3]), ([4], [4]), ([5], [5]), ([], []), ([7, 0], [0, 7]), ([8, 1, 0, 1, 2, 3, 4, 5, 6], [1, 8]), ([9, 6, 0, 1, 2, 3, 4, 5, 6], [6, 9])])
def spec_ReadBay.B16 : List Nat := [0, 0, 0, 0, 12, 28, 60, 0, 129, 511, 1023]
theorem spec_ReadBay.tab16 : rtab .any (opsOf Tryd.f15 16) = spec_ReadBay.T16 := by kernel_rfl
theorem spec_ReadBay.bits16 : waitsOk spec_ReadBay.T16.2 spec_ReadBay.B16 = true := by kernel_rfl
set_option maxHeartbeats 8000000 in
set_option maxRecDepth 100000 in
theorem spec_ReadBay.calls (k : Nat) (a0 : ByteArray) (r1 : Int) (r2 : Int) (r3 : (Nat → Int)) (r4 : Int) (w : World) (h : spec_ReadBay.f k a0 = some (r1, r2, r3, r4)) :
    Calls Tryd.prog 15 #[.string a0] w fun e w' => e = .returned (.tuple #[.agg (csBay r1 r2 r3), .int .i64 r4]) ∧ Below w.heap.size w w' := by
  have hu28 := Tryd.underlying28
  have HB := Aside0.mk (Below.refl w.heap.size w)
  have H : ((spec_l01Split.f k a0 10).bind fun t139 => (if 0 ≤ (wrap64 ((t139.length : Int) - 1)) then (if (wrap64 ((t139.length : Int) - 1)) < (t139.length : Int) then (if (rdOf ByteArray.empty t139 (wrap64 ((t139.length : Int) - 1))).toList = ([] : List UInt8) then ((spec_l00In.f (wrap64 ((t139.length : Int) - 1)) 1 16).bind fun t143 => (spec_ReadBay.j0 k t139 (wrap64 ((t139.length : Int) - 1)) (!t143))) else (spec_ReadBay.j0 k t139 (wrap64 ((t139.length : Int) - 1)) true)) else (none)) else (none))) = some (r1, r2, r3, r4) := h
  clear h
  replace H := Option.bind_eq_some_iff.mp H
  obtain ⟨t139, A20, H⟩ := H
  replace H : (if 0 ≤ (wrap64 ((t139.length : Int) - 1)) then (if (wrap64 ((t139.length : Int) - 1)) < (t139.length : Int) then (if (rdOf ByteArray.empty t139 (wrap64 ((t139.length : Int) - 1))).toList = ([] : List UInt8) then ((spec_l00In.f (wrap64 ((t139.length : Int) - 1)) 1 16).bind fun t143 => (spec_ReadBay.j0 k t139 (wrap64 ((t139.length : Int) - 1)) (!t143))) else (spec_ReadBay.j0 k t139 (wrap64 ((t139.length : Int) - 1)) true)) else (none)) else (none)) = some (r1, r2, r3, r4) := H
  have A2 := Aside0.mk A20
  clear A20
  have HC3 := Aside0.mk H
  clear H
  go_enter Tryd.func15, Tryd.ntmps15
  go_upto_region 3 with (first | ((with_reducible refine gate_dst (N := 2) rfl ?_); (try (refine gate_guard (by rfl) ?_; dsimp only)); refine box_event ?hg (N := 2) ?hd (cs := (csBay 0 0 (fun _ => 0 : Nat → Int))) (t := 28) ?hr ?_; (case hd => rfl); (case hg => rfl); (case hr => first | (go_simp; done) | (go_simp; rfl)); intro gb138 hg w4 hbox hb; have n0_ := Aside0.mk (below_step (by repeat (first | (with_reducible first | exact HB.out | apply below_alloc | apply pw_below_drewN | apply below_drew1) | exact HB.out)) hb); have n1_ := Aside0.mk (hbox); have n2_ := Aside0.mk ((by rw [hg]; exact (below_size (by repeat (first | (with_reducible first | exact HB.out | apply below_alloc | apply pw_below_drewN | apply below_drew1) | exact HB.out))) : w.heap.size ≤ gb138)); have n3_ := Aside0.mk ((by rw [hg]; exact (below_size (by repeat (first | (with_reducible first | exact HB.out | apply below_alloc | apply pw_below_drewN | apply below_drew1) | exact HB.out))) : w.heap.size ≤ gb138)); clear HB; have HB := n0_; have BK138 := n1_; have GW138 := n2_; have GE138 := n3_; clear n0_ n1_ n2_ n3_; clear hb hbox hg) | ((with_reducible refine gate_callee (f := 34) rfl ?_); refine goesL_ (some 12) rfl rfl Tryd.func34 (by kernel_rfl) rfl #[.string a0, .int .u8 10] rfl (by (try simp only [List.map_toArray, List.map_cons, List.map_nil]); first | done | rfl | (simp only [List.length_drop, List.length_take]; rfl)) ?_; (with_reducible refine (spec_l01Split.calls k a0 10 t139 _ A2.out).mono ?_); rintro e w5 ⟨v140, rfl, ho0, hb⟩; refine ⟨_, rfl, ?_⟩; have n0_ := Aside0.mk (Kd.R_lower ho0 (below_size (by repeat (first | (with_reducible first | exact HB.out | apply below_alloc | apply pw_below_drewN | apply below_drew1 | refine below_set ?_ GE138.out | refine below_row ?_ GE138.out _) | exact HB.out)))); have n1_ := Aside0.mk (blk_below (g := gb138) (o := .cells (csBay 0 0 (fun _ => 0 : Nat → Int)) 28 (0, 0)) (by (with_reducible repeat (first | refine blk_drewN ?_ _ | refine blk_drew ?_ | refine blk_alloc ?_ _)); exact BK138.out) hb); have n2_ := Aside0.mk (below_step (by repeat (first | (with_reducible first | exact HB.out | apply below_alloc | apply pw_below_drewN | apply below_drew1 | refine below_set ?_ GE138.out | refine below_row ?_ GE138.out _) | exact HB.out)) hb); clear BK138; clear HB; have HO141 := n0_; have BK138 := n1_; have HB := n2_; clear n0_ n1_ n2_; (try clear hb); (try clear hb2); (try clear hk); (try clear hi); (try clear ho0); obtain ⟨Ao6, co6, eo6⟩ := Kd.R_slice HO141.out; subst eo6))
  (try simp only [Act.put, List.setIfInBounds_toArray, List.set_cons_zero, List.set_cons_succ])
  go_cut [25] (fun v25 wc => ∃ (kq : Nat) (x25_2 : Bool), v25 = .bool x25_2 ∧ Aside0 (spec_ReadBay.j0 kq t139 (wrap64 ((t139.length : Int) - 1)) x25_2 = some (r1, r2, r3, r4)) ∧ Aside0 (kq ≤ k) ∧ Aside0 (Kd.R Kd.string 9 wc w.heap.size (fun _ => True) (.slice Ao6 t139.length co6) t139) ∧ Aside0 (wc.heap[gb138]? = some (.cells (csBay 0 0 (fun _ => 0 : Nat → Int)) 28 (0, 0))) ∧ Aside0 (Below w.heap.size w wc))
  case first =>
    have H := HC3.out
    clear HC3
    obtain ⟨ji7, hji7⟩ : ∃ j_ : Int, (wrap64 ((t139.length : Int) - 1)) = j_ := ⟨_, rfl⟩
    replace H : (if 0 ≤ (ji7) then (if (ji7) < (t139.length : Int) then (if (rdOf ByteArray.empty t139 (ji7)).toList = ([] : List UInt8) then ((spec_l00In.f (ji7) 1 16).bind fun t143 => (spec_ReadBay.j0 k t139 ji7 (!t143))) else (spec_ReadBay.j0 k t139 ji7 true)) else (none)) else (none)) = some (r1, r2, r3, r4) := by first | (rw [hji7] at H; exact H) | (simp only [hji7] at H ⊢; exact H)
    have hji7w : (IntKind.i64.wrap ((t139.length : Int) - 1)) = ji7 := (i64_w _).trans hji7
    by_cases c8 : 0 ≤ (ji7)
    · rw [if_pos c8] at H
      have c8b0 : decide (0 ≤ (ji7)) = true := decide_eq_true c8
      have c8b1 : 0 ≤ (ji7) := c8
      clear c8
      (first | rw [c8b0] | (simp only [i64_w, i32_w]; rw [c8b0]) | skip)
      by_cases c9 : (ji7) < (t139.length : Int)
      · rw [if_pos c9] at H
        have c9b0 : decide ((ji7) < (t139.length : Int)) = true := decide_eq_true c9
        clear c9
        by_cases c10 : (rdOf ByteArray.empty t139 (ji7)).toList = ([] : List UInt8)
        · rw [if_pos c10] at H
          have c10b0 : ((rdOf ByteArray.empty t139 (ji7)).toList == ([] : List UInt8)) = true := beq_iff_eq.mpr c10
          have c10b1 : ((rdOf ByteArray.empty t139 (ji7)).toList != ([] : List UInt8)) = false := bne_eq_false_iff_eq.mpr c10
          clear c10
          replace H := Option.bind_eq_some_iff.mp H
          obtain ⟨t143, A110, H⟩ := H
          replace H : (spec_ReadBay.j0 k t139 ji7 (!t143)) = some (r1, r2, r3, r4) := H
          have A11 := Aside0.mk A110
          clear A110
          have H' := Aside0.mk H
          clear H
          have p142 : 0 ≤ ((ji7) : Int) := of_decide_eq_true (by first | (with_reducible assumption) | assumption)
          have q142 : (ji7) < (t139.length : Int) := of_decide_eq_true (by first | (with_reducible assumption) | assumption)
          obtain ⟨ad142, e142, hx142_0⟩ := Kd.at_string (Kd.R_reads' HO141.out).2.2 (ji7) p142 q142
          cases e142
          replace p142 := eq_true p142
          replace q142 := eq_true q142
          go_wp2_with (first | (go_at_call 35; (with_reducible refine (spec_l00In.calls ji7 1 16 t143 _ A11.out).mono ?_); rintro e w' ⟨rfl, ⟨nd, rfl⟩⟩))
          (try subst hji7)
          go_meet
          case rel => exact ⟨_, (!t143), (by first | rfl | (simp; done) | (simp [*]; done) | (rw [i8_wrap_le] <;> first | rfl | omega) | (congr 1; unfold wrap64; omega)), H', ⟨by first | omega | exact Nat.le_refl _⟩, ⟨by (with_reducible repeat (first | apply Kd.R_alloc | apply Kd.R_drewN | apply Kd.R_drew)); exact HO141.out⟩, ⟨by (with_reducible repeat (first | refine blk_drewN ?_ _ | refine blk_drew ?_ | refine blk_alloc ?_ _)); exact BK138.out⟩, ⟨by repeat (first | (with_reducible first | exact HB.out | apply below_alloc | apply pw_below_drewN | apply below_drew1 | refine below_set ?_ GE138.out | refine below_row ?_ GE138.out _) | exact HB.out)⟩⟩
        · rw [if_neg c10] at H
          have c10b0 : ((rdOf ByteArray.empty t139 (ji7)).toList == ([] : List UInt8)) = false := beq_eq_false_iff_ne.mpr c10
          have c10b1 : ((rdOf ByteArray.empty t139 (ji7)).toList != ([] : List UInt8)) = true := bne_iff_ne.mpr c10
          have H' := Aside0.mk H
          clear H
          have p142 : 0 ≤ ((ji7) : Int) := of_decide_eq_true (by first | (with_reducible assumption) | assumption)
          have q142 : (ji7) < (t139.length : Int) := of_decide_eq_true (by first | (with_reducible assumption) | assumption)
          obtain ⟨ad142, e142, hx142_0⟩ := Kd.at_string (Kd.R_reads' HO141.out).2.2 (ji7) p142 q142
          cases e142
          replace p142 := eq_true p142
          replace q142 := eq_true q142
          go_wp2
          (try subst hji7)
          go_meet
          case rel => exact ⟨_, (true), (by first | rfl | (simp; done) | (simp [*]; done) | (rw [i8_wrap_le] <;> first | rfl | omega) | (congr 1; unfold wrap64; omega)), H', ⟨by first | omega | exact Nat.le_refl _⟩, ⟨by (with_reducible repeat (first | apply Kd.R_alloc | apply Kd.R_drewN | apply Kd.R_drew)); exact HO141.out⟩, ⟨by (with_reducible repeat (first | refine blk_drewN ?_ _ | refine blk_drew ?_ | refine blk_alloc ?_ _)); exact BK138.out⟩, ⟨by repeat (first | (with_reducible first | exact HB.out | apply below_alloc | apply pw_below_drewN | apply below_drew1 | refine below_set ?_ GE138.out | refine below_row ?_ GE138.out _) | exact HB.out)⟩⟩
      · rw [if_neg c9] at H
        exact absurd H (by simp)
    · rw [if_neg c8] at H
      exact absurd H (by simp)
  case rest =>
    clear HC3
    try clear c1
    try clear p1
    try clear q1
    try clear hx1
    try clear p2
    try clear c3
    try clear p6
    try clear c8
    try clear c8b0
    try clear c8b1
    try clear c9
    try clear c9b0
    try clear c10
    try clear c10b0
    try clear c10b1
    try clear hx142_0
    try clear p142
    try clear q142
    obtain ⟨kq, x25_2, rfl, HA, HJ2, HO_4, BK138, HB⟩ := hcut
    cases kq with
    | zero => exact absurd HA.out (by simp [spec_ReadBay.j0])
    | succ kj2 =>
      have H := HA.out
      clear HA
      simp only [spec_ReadBay.j0] at H
      by_cases c12 : x25_2 = true
      · subst c12
        have H1 : (some (0, 0, (fun _ => 0 : Nat → Int), 5)) = some (r1, r2, r3, r4) := by rw [if_pos rfl] at H; exact H
        clear H
        have H := H1
        clear H1
        simp only [Option.some.injEq, Prod.mk.injEq] at H
        obtain ⟨rfl, rfl, rfl, rfl⟩ := H
        have hcz13_0 : wc.cell? ⟨gb138, 0, none⟩ = some (.int .i8 0) := (blk_cell BK138.out 0).trans rfl
        have hcz13_1 : wc.cell? ⟨gb138, 1, none⟩ = some (.int .i8 0) := (blk_cell BK138.out 1).trans rfl
        have hwz13 := lv28_at BK138.out; have haz13 := at_cells BK138.out; have hyz13 := BayAt28_of BK138.out; have hvz13 := lvv_of BK138.out; have hzz13 := fun q_ => blk_frozen BK138.out q_
        have hfz13_0 := blk_frozen BK138.out 0
        have hfz13_1 := blk_frozen BK138.out 1
        have hfz13_2 := blk_frozen BK138.out 2
        go_wp2_with (first | ((with_reducible refine gate_store (t := 28) (p := 2) rfl ?_); refine bay_event (T := 28) (p := 2) (v := ?vo_w14) (g := gb138) (a1 := 0) (b1 := 0) (d1 := (fun _ => 0 : Nat → Int)) ?hg ?ho ?hn info28s ?hp ?hv (by (with_reducible repeat (first | refine blk_drewN ?_ _ | refine blk_drew ?_ | refine blk_alloc ?_ _)); exact BK138.out) ?_; (case ho => rfl); (case hg => rfl); (case hn => rfl); (case hp => rfl); (case hv => rfl); intro w14 hw; have n0_ : Aside0 (Kd.R Kd.string 9 w14 w.heap.size (fun _ => True) (.slice Ao6 t139.length co6) t139) := ⟨(by rw [hw]; exact (by (with_reducible repeat (first | apply Kd.R_alloc | apply Kd.R_drewN | apply Kd.R_drew)); exact Kd.R_mono (Kd.R_keep (Kd.R_types HO_4.out BK138.out (by decide)) (setRow_keep _ _ _) (fun _ hk => hk.2)) (fun _ hk => trivial)))⟩; have n1_ : Aside0 (w14.heap[gb138]? = some (.cells (csBay 0 0 (fun _ => 0 : Nat → Int)) 28 (0, 0))) := ⟨(by rw [hw]; exact (by (with_reducible repeat (first | refine blk_drewN ?_ _ | refine blk_drew ?_ | refine blk_alloc ?_ _)); refine blk_row (old := (csBay 0 0 (fun _ => 0 : Nat → Int))) ?_ _; (with_reducible repeat (first | refine blk_drewN ?_ _ | refine blk_drew ?_ | refine blk_alloc ?_ _)); exact BK138.out))⟩; have n2_ : Aside0 (Below w.heap.size w w14) := ⟨(by rw [hw]; exact (by repeat (first | (with_reducible first | exact HB.out | apply below_alloc | apply pw_below_drewN | apply below_drew1 | refine below_set ?_ GE138.out | refine below_row ?_ GE138.out _) | exact HB.out)))⟩; clear hw; clear HO_4; clear BK138; clear HB; have HO_4 := n0_; have BK138 := n1_; have HB := n2_; clear n0_ n1_ n2_))
        refine bodyPost_ret (results_ct rfl _ _ gb138 28 (csBay 0 0 (fun _ => 0 : Nat → Int)) (0, 0) _ rfl (by (with_reducible repeat (first | refine blk_drewN ?_ _ | refine blk_drew ?_ | refine blk_alloc ?_ _)); exact BK138.out) Tryd.underlying28 rfl (by kernel_rfl)) rfl ?_
        exact ⟨by first | rfl | (simp [errW_none, errW_some] <;> rfl) | (simp [*, errW_none, errW_some] <;> rfl), by repeat (first | (with_reducible first | exact HB.out | apply below_alloc | apply pw_below_drewN | apply below_drew1 | refine below_set ?_ GE138.out | refine below_row ?_ GE138.out _) | exact HB.out)⟩
      · replace c12 := Bool.eq_false_iff.mpr c12
        subst c12
        have H1 : (spec_ReadBay.l0 kj2 t139 (wrap64 ((t139.length : Int) - 1)) 0 0 (IntKind.i8.wrap ((wrap64 ((t139.length : Int) - 1)))) (fun _ => 0 : Nat → Int)) = some (r1, r2, r3, r4) := by rw [if_neg (show ¬ (false = true) by decide)] at H; exact H
        clear H
        have H := H1
        clear H1
        have H' := Aside0.mk H
        clear H
        go_wp2_with (first | ((with_reducible refine gate_dst (N := 6) rfl ?_); (try (refine gate_guard (by rfl) ?_; dsimp only)); refine box_event ?hg (N := 6) ?hd (cs := (csBay 0 0 (fun _ => 0 : Nat → Int))) (t := 28) ?hr ?_; (case hd => rfl); (case hg => rfl); (case hr => first | (go_simp; done) | (go_simp; rfl)); intro gb144 hg w15 hbox hb; have n0_ := Aside0.mk (Kd.R_below (by (with_reducible repeat (first | apply Kd.R_alloc | apply Kd.R_drewN | apply Kd.R_drew)); exact HO_4.out) hb); have n1_ := Aside0.mk (blk_below (g := gb138) (o := .cells (csBay 0 0 (fun _ => 0 : Nat → Int)) 28 (0, 0)) (by (with_reducible repeat (first | refine blk_drewN ?_ _ | refine blk_drew ?_ | refine blk_alloc ?_ _)); exact BK138.out) hb); have n2_ := Aside0.mk (below_step (by repeat (first | (with_reducible first | exact HB.out | apply below_alloc | apply pw_below_drewN | apply below_drew1 | refine below_set ?_ GE138.out | refine below_row ?_ GE138.out _) | exact HB.out)) hb); have n3_ := Aside0.mk (hbox); have n4_ := Aside0.mk ((by rw [hg]; exact (below_size (by repeat (first | (with_reducible first | exact HB.out | apply below_alloc | apply pw_below_drewN | apply below_drew1 | refine below_set ?_ GE138.out | refine below_row ?_ GE138.out _) | exact HB.out))) : w.heap.size ≤ gb144)); have n5_ := Aside0.mk ((by rw [hg]; exact (below_size (by repeat (first | (with_reducible first | exact HB.out | apply below_alloc | apply pw_below_drewN | apply below_drew1 | refine below_set ?_ GE138.out | refine below_row ?_ GE138.out _) | exact HB.out))) : w.heap.size ≤ gb144)); have n6_ := Aside0.mk ((by rw [hg]; exact Nat.ne_of_lt (blk_lt (g := gb138) (o := .cells (csBay 0 0 (fun _ => 0 : Nat → Int)) 28 (0, 0)) (by (with_reducible repeat (first | refine blk_drewN ?_ _ | refine blk_drew ?_ | refine blk_alloc ?_ _)); exact BK138.out)) : gb138 ≠ gb144)); have n7_ := Aside0.mk ((by rw [hg]; exact Nat.ne_of_gt (blk_lt (g := gb138) (o := .cells (csBay 0 0 (fun _ => 0 : Nat → Int)) 28 (0, 0)) (by (with_reducible repeat (first | refine blk_drewN ?_ _ | refine blk_drew ?_ | refine blk_alloc ?_ _)); exact BK138.out)) : gb144 ≠ gb138)); clear HO_4; clear BK138; clear HB; have HO_4 := n0_; have BK138 := n1_; have HB := n2_; have BK144 := n3_; have GW144 := n4_; have GE144 := n5_; have NB138_144 := n6_; have NB144_138 := n7_; clear n0_ n1_ n2_ n3_ n4_ n5_ n6_ n7_; clear hb hbox hg; have hnb16 := NB144_138.out; have hnc16 := NB138_144.out; have hcz17_0 : w15.cell? ⟨gb144, 0, none⟩ = some (.int .i8 0) := (blk_cell BK144.out 0).trans rfl; have hcz17_1 : w15.cell? ⟨gb144, 1, none⟩ = some (.int .i8 0) := (blk_cell BK144.out 1).trans rfl; have hwz17 := lv28_at BK144.out; have haz17 := at_cells BK144.out; have hyz17 := BayAt28_of BK144.out; have hvz17 := lvv_of BK144.out; have hzz17 := fun q_ => blk_frozen BK144.out q_; have hfz17_0 := blk_frozen BK144.out 0; have hfz17_1 := blk_frozen BK144.out 1; have hfz17_2 := blk_frozen BK144.out 2) | ((with_reducible refine gate_store (t := 28) (p := 6) rfl ?_); refine bay_event (T := 28) (p := 6) (v := ?vo_w18) (g := gb144) (a1 := 0) (b1 := IntKind.i8.wrap ((wrap64 ((t139.length : Int) - 1)))) (d1 := (fun _ => 0 : Nat → Int)) ?hg ?ho ?hn info28s ?hp ?hv (by (with_reducible repeat (first | refine blk_drewN ?_ _ | refine blk_drew ?_ | refine blk_alloc ?_ _)); exact BK144.out) ?_; (case ho => rfl); (case hg => rfl); (case hn => rfl); (case hp => rfl); (case hv => rfl); intro w18 hw; have n0_ : Aside0 (Kd.R Kd.string 9 w18 w.heap.size (fun _ => True) (.slice Ao6 t139.length co6) t139) := ⟨(by rw [hw]; exact (by (with_reducible repeat (first | apply Kd.R_alloc | apply Kd.R_drewN | apply Kd.R_drew)); exact Kd.R_mono (Kd.R_keep (Kd.R_types HO_4.out BK144.out (by decide)) (setRow_keep _ _ _) (fun _ hk => hk.2)) (fun _ hk => trivial)))⟩; have n1_ : Aside0 (w18.heap[gb138]? = some (.cells (csBay 0 0 (fun _ => 0 : Nat → Int)) 28 (0, 0))) := ⟨(by rw [hw]; exact (by (with_reducible repeat (first | refine blk_drewN ?_ _ | refine blk_drew ?_ | refine blk_alloc ?_ _)); refine blk_row_far ?_ NB138_144.out _; (with_reducible repeat (first | refine blk_drewN ?_ _ | refine blk_drew ?_ | refine blk_alloc ?_ _)); exact BK138.out))⟩; have n2_ : Aside0 (w18.heap[gb144]? = some (.cells (csBay 0 (IntKind.i8.wrap ((wrap64 ((t139.length : Int) - 1)))) (fun _ => 0 : Nat → Int)) 28 (0, 0))) := ⟨(by rw [hw]; exact (by (with_reducible repeat (first | refine blk_drewN ?_ _ | refine blk_drew ?_ | refine blk_alloc ?_ _)); refine blk_row (old := (csBay 0 0 (fun _ => 0 : Nat → Int))) ?_ _; (with_reducible repeat (first | refine blk_drewN ?_ _ | refine blk_drew ?_ | refine blk_alloc ?_ _)); exact BK144.out))⟩; have n3_ : Aside0 (Below w.heap.size w w18) := ⟨(by rw [hw]; exact (by repeat (first | (with_reducible first | exact HB.out | apply below_alloc | apply pw_below_drewN | apply below_drew1 | refine below_set ?_ GE138.out | refine below_set ?_ GE144.out | refine below_row ?_ GE138.out _ | refine below_row ?_ GE144.out _) | exact HB.out)))⟩; clear hw; clear HO_4; clear BK138; clear BK144; clear HB; have HO_4 := n0_; have BK138 := n1_; have BK144 := n2_; have HB := n3_; clear n0_ n1_ n2_ n3_))
        go_loopg [7] kj2 (fun kq v7 w' => ∃ (x7_2 : Int) (x139000_2 : Int) (x139001_2 : Int) (x139002_2 : (Nat → Int)) (x145000_2 : Int) (x145002_2 : (Nat → Int)), v7 = .int .i64 x7_2 ∧ Aside0 (spec_ReadBay.l0 kq t139 (wrap64 ((t139.length : Int) - 1)) x7_2 x145000_2 (IntKind.i8.wrap ((wrap64 ((t139.length : Int) - 1)))) x145002_2 = some (r1, r2, r3, r4)) ∧ Aside0 (kq ≤ kj2) ∧ Aside0 (Kd.R Kd.string 9 w' w.heap.size (fun _ => True) (.slice Ao6 t139.length co6) t139) ∧ Aside0 (w'.heap[gb138]? = some (.cells (csBay x139000_2 x139001_2 x139002_2) 28 (0, 0))) ∧ Aside0 (w'.heap[gb144]? = some (.cells (csBay x145000_2 (IntKind.i8.wrap ((wrap64 ((t139.length : Int) - 1)))) x145002_2) 28 (0, 0))) ∧ Aside0 (Below w.heap.size w w'))
        case atStart => exact ⟨(0), (0), (0), ((fun _ => 0 : Nat → Int)), (0), ((fun _ => 0 : Nat → Int)), (by first | rfl | (simp; done) | (simp [*]; done) | (rw [i8_wrap_le] <;> first | rfl | omega) | (congr 1; unfold wrap64; omega)), H', ⟨Nat.le_refl _⟩, ⟨by (with_reducible repeat (first | apply Kd.R_alloc | apply Kd.R_drewN | apply Kd.R_drew)); exact HO_4.out⟩, ⟨by (with_reducible repeat (first | refine blk_drewN ?_ _ | refine blk_drew ?_ | refine blk_alloc ?_ _)); exact BK138.out⟩, ⟨by (with_reducible repeat (first | refine blk_drewN ?_ _ | refine blk_drew ?_ | refine blk_alloc ?_ _)); exact BK144.out⟩, ⟨by repeat (first | (with_reducible first | exact HB.out | apply below_alloc | apply pw_below_drewN | apply below_drew1 | refine below_set ?_ GE138.out | refine below_set ?_ GE144.out | refine below_row ?_ GE138.out _ | refine below_row ?_ GE144.out _) | exact HB.out)⟩⟩
        case round =>
          clear H'
          try clear c1
          try clear p1
          try clear q1
          try clear hx1
          try clear p2
          try clear c3
          try clear p6
          try clear c8
          try clear c8b0
          try clear c8b1
          try clear c9
          try clear c9b0
          try clear c10
          try clear c10b0
          try clear c10b1
          try clear c12
          try clear p14
          try clear q14
          try clear hx14
          try clear c15
          try clear c16
          try clear hcz13_0
          try clear hcz13_1
          try clear hcz17_0
          try clear hcz17_1
          try clear hfz13_0
          try clear hfz13_1
          try clear hfz13_2
          try clear hfz17_0
          try clear hfz17_1
          try clear hfz17_2
          try clear hx142_0
          try clear p1
          try clear p142
          try clear p2
          try clear p6
          try clear q1
          try clear q142
          obtain ⟨x7_2, x139000_2, x139001_2, x139002_2, x145000_2, x145002_2, rfl, HA, HK2, HO_4, BK138, BK144, HB⟩ := hrel
          cases gk with
          | zero => exact absurd HA.out (by simp [spec_ReadBay.l0])
          | succ k2 =>
            have H := HA.out
            clear HA
            simp only [spec_ReadBay.l0] at H
            by_cases c19 : x7_2 < (wrap64 ((t139.length : Int) - 1))
            · rw [if_pos c19] at H
              have c19b0 : decide (x7_2 < (wrap64 ((t139.length : Int) - 1))) = true := decide_eq_true c19
              clear c19
              by_cases c20 : 0 ≤ x7_2
              · rw [if_pos c20] at H
                have c20b0 : decide (0 ≤ x7_2) = true := decide_eq_true c20
                have c20b1 : 0 ≤ x7_2 := c20
                clear c20
                by_cases c21 : x7_2 < (t139.length : Int)
                · rw [if_pos c21] at H
                  have c21b0 : decide (x7_2 < (t139.length : Int)) = true := decide_eq_true c21
                  clear c21
                  replace H := Option.bind_eq_some_iff.mp H
                  obtain ⟨⟨t147, t148⟩, A220, H⟩ := H
                  replace H : (if t148 = true then (if (t147.length : Int) > 16 then (spec_ReadBay.j2 k2 t139 (wrap64 ((t139.length : Int) - 1)) x7_2 t147 true x145000_2 (IntKind.i8.wrap ((wrap64 ((t139.length : Int) - 1)))) x145002_2) else (if x7_2 > 0 then (spec_ReadBay.j2 k2 t139 (wrap64 ((t139.length : Int) - 1)) x7_2 t147 ((t147.length : Int) != (wrap64 (x145000_2))) x145000_2 (IntKind.i8.wrap ((wrap64 ((t139.length : Int) - 1)))) x145002_2) else (spec_ReadBay.j2 k2 t139 (wrap64 ((t139.length : Int) - 1)) x7_2 t147 false x145000_2 (IntKind.i8.wrap ((wrap64 ((t139.length : Int) - 1)))) x145002_2))) else (spec_ReadBay.j2 k2 t139 (wrap64 ((t139.length : Int) - 1)) x7_2 t147 true x145000_2 (IntKind.i8.wrap ((wrap64 ((t139.length : Int) - 1)))) x145002_2)) = some (r1, r2, r3, r4) := H
                  have A22 := Aside0.mk A220
                  clear A220
                  have HC23 := Aside0.mk H
                  clear H
                  have p146 : 0 ≤ (x7_2 : Int) := of_decide_eq_true (by first | (with_reducible assumption) | assumption)
                  have q146 : x7_2 < (t139.length : Int) := of_decide_eq_true (by first | (with_reducible assumption) | assumption)
                  obtain ⟨ad146, e146, hx146_0⟩ := Kd.at_string (Kd.R_reads' HO_4.out).2.2 x7_2 p146 q146
                  cases e146
                  replace p146 := eq_true p146
                  replace q146 := eq_true q146
                  go_upto_region 10 with (first | ((with_reducible refine gate_callee (f := 36) rfl ?_); refine goesL_ (some 40) rfl rfl Tryd.func36 (by kernel_rfl) rfl #[.string (rdOf ByteArray.empty t139 x7_2)] rfl (by (try simp only [List.map_toArray, List.map_cons, List.map_nil]); first | done | rfl | (simp only [List.length_drop, List.length_take]; rfl)) ?_; (with_reducible refine (spec_l01Words.calls k2 (rdOf ByteArray.empty t139 x7_2) t147 t148 _ A22.out).mono ?_); rintro e w24 ⟨v149, rfl, ho0, hb⟩; refine ⟨_, rfl, ?_⟩; have n0_ := Aside0.mk (Kd.R_below (by (with_reducible repeat (first | apply Kd.R_alloc | apply Kd.R_drewN | apply Kd.R_drew)); exact HO_4.out) hb); have n1_ := Aside0.mk (Kd.R_lower ho0 (below_size (by repeat (first | (with_reducible first | exact HB.out | apply below_alloc | apply pw_below_drewN | apply below_drew1 | refine below_set ?_ GE138.out | refine below_set ?_ GE144.out | refine below_row ?_ GE138.out _ | refine below_row ?_ GE144.out _) | exact HB.out)))); have n2_ := Aside0.mk (blk_below (g := gb138) (o := .cells (csBay x139000_2 x139001_2 x139002_2) 28 (0, 0)) (by (with_reducible repeat (first | refine blk_drewN ?_ _ | refine blk_drew ?_ | refine blk_alloc ?_ _)); exact BK138.out) hb); have n3_ := Aside0.mk (blk_below (g := gb144) (o := .cells (csBay x145000_2 (IntKind.i8.wrap ((wrap64 ((t139.length : Int) - 1)))) x145002_2) 28 (0, 0)) (by (with_reducible repeat (first | refine blk_drewN ?_ _ | refine blk_drew ?_ | refine blk_alloc ?_ _)); exact BK144.out) hb); have n4_ := Aside0.mk (below_step (by repeat (first | (with_reducible first | exact HB.out | apply below_alloc | apply pw_below_drewN | apply below_drew1 | refine below_set ?_ GE138.out | refine below_set ?_ GE144.out | refine below_row ?_ GE138.out _ | refine below_row ?_ GE144.out _) | exact HB.out)) hb); clear HO_4; clear BK138; clear BK144; clear HB; have HO_4 := n0_; have HO150 := n1_; have BK138 := n2_; have BK144 := n3_; have HB := n4_; clear n0_ n1_ n2_ n3_ n4_; (try clear hb); (try clear hb2); (try clear hk); (try clear hi); (try clear ho0)))
                  (try simp only [Act.put, List.setIfInBounds_toArray, List.set_cons_zero, List.set_cons_succ])
                  go_cut [61] (fun v61 wc => ∃ (kq : Nat) (x61_22 : Bool), v61 = .bool x61_22 ∧ Aside0 (spec_ReadBay.j2 kq t139 (wrap64 ((t139.length : Int) - 1)) x7_2 t147 x61_22 x145000_2 (IntKind.i8.wrap ((wrap64 ((t139.length : Int) - 1)))) x145002_2 = some (r1, r2, r3, r4)) ∧ Aside0 (kq ≤ k2) ∧ Aside0 (Kd.R Kd.string 9 wc w.heap.size (fun _ => True) (.slice (some ad146) t139.length co6) t139) ∧ Aside0 (Kd.R (Kd.int .i64) 2 wc w.heap.size (fun _ => True) v149 t147) ∧ Aside0 (wc.heap[gb138]? = some (.cells (csBay x139000_2 x139001_2 x139002_2) 28 (0, 0))) ∧ Aside0 (wc.heap[gb144]? = some (.cells (csBay x145000_2 (IntKind.i8.wrap ((wrap64 ((t139.length : Int) - 1)))) x145002_2) 28 (0, 0))) ∧ Aside0 (Below w.heap.size w wc))
                  case first =>
                    have H := HC23.out
                    clear HC23
                    by_cases c25 : t148 = true
                    · subst c25
                      have H1 : (if (t147.length : Int) > 16 then (spec_ReadBay.j2 k2 t139 (wrap64 ((t139.length : Int) - 1)) x7_2 t147 true x145000_2 (IntKind.i8.wrap ((wrap64 ((t139.length : Int) - 1)))) x145002_2) else (if x7_2 > 0 then (spec_ReadBay.j2 k2 t139 (wrap64 ((t139.length : Int) - 1)) x7_2 t147 ((t147.length : Int) != (wrap64 (x145000_2))) x145000_2 (IntKind.i8.wrap ((wrap64 ((t139.length : Int) - 1)))) x145002_2) else (spec_ReadBay.j2 k2 t139 (wrap64 ((t139.length : Int) - 1)) x7_2 t147 false x145000_2 (IntKind.i8.wrap ((wrap64 ((t139.length : Int) - 1)))) x145002_2))) = some (r1, r2, r3, r4) := by rw [if_pos rfl] at H; exact H
                      clear H
                      have H := H1
                      clear H1
                      by_cases c26 : (t147.length : Int) > 16
                      · rw [if_pos c26] at H
                        have c26b0 : decide (16 < (t147.length : Int)) = true := decide_eq_true c26
                        have c26b1 : decide (16 < t147.length) = true := decide_eq_true (by omega)
                        clear c26
                        (first | rw [c26b0] | (simp only [i64_w, i32_w]; rw [c26b0]) | skip)
                        have H' := Aside0.mk H
                        clear H
                        obtain ⟨Ao27, co27, eo27⟩ := Kd.R_slice HO150.out
                        subst eo27
                        go_wp2
                        (try subst hji7)
                        go_meet
                        case rel => exact ⟨_, (true), (by first | rfl | (simp; done) | (simp [*]; done) | (rw [i8_wrap_le] <;> first | rfl | omega) | (congr 1; unfold wrap64; omega)), H', ⟨by have := HJ2.out; have := HK2.out; first | omega | exact Nat.le_refl _⟩, ⟨by (with_reducible repeat (first | apply Kd.R_alloc | apply Kd.R_drewN | apply Kd.R_drew)); exact HO_4.out⟩, ⟨by (with_reducible repeat (first | apply Kd.R_alloc | apply Kd.R_drewN | apply Kd.R_drew)); exact HO150.out⟩, ⟨by (with_reducible repeat (first | refine blk_drewN ?_ _ | refine blk_drew ?_ | refine blk_alloc ?_ _)); exact BK138.out⟩, ⟨by (with_reducible repeat (first | refine blk_drewN ?_ _ | refine blk_drew ?_ | refine blk_alloc ?_ _)); exact BK144.out⟩, ⟨by repeat (first | (with_reducible first | exact HB.out | apply below_alloc | apply pw_below_drewN | apply below_drew1 | refine below_set ?_ GE138.out | refine below_set ?_ GE144.out | refine below_row ?_ GE138.out _ | refine below_row ?_ GE144.out _) | exact HB.out)⟩⟩
                      · rw [if_neg c26] at H
                        have c26b0 : decide (16 < (t147.length : Int)) = false := decide_eq_false c26
                        have c26b1 : decide (16 < t147.length) = false := decide_eq_false (by omega)
                        clear c26
                        (first | rw [c26b0] | (simp only [i64_w, i32_w]; rw [c26b0]) | skip)
                        by_cases c28 : x7_2 > 0
                        · rw [if_pos c28] at H
                          have c28b0 : decide (0 < x7_2) = true := decide_eq_true c28
                          clear c28
                          have H' := Aside0.mk H
                          clear H
                          obtain ⟨Ao29, co29, eo29⟩ := Kd.R_slice HO150.out
                          subst eo29
                          have hnb30 := NB144_138.out
                          have hnc30 := NB138_144.out
                          have hcz31_0 : w24.cell? ⟨gb144, 0, none⟩ = some (.int .i8 x145000_2) := (blk_cell BK144.out 0).trans rfl
                          have hcz31_1 : w24.cell? ⟨gb144, 1, none⟩ = some (.int .i8 (IntKind.i8.wrap ((wrap64 ((t139.length : Int) - 1))))) := (blk_cell BK144.out 1).trans rfl
                          have hwz31 := lv28_at BK144.out; have haz31 := at_cells BK144.out; have hyz31 := BayAt28_of BK144.out; have hvz31 := lvv_of BK144.out; have hzz31 := fun q_ => blk_frozen BK144.out q_
                          have hfz31_0 := blk_frozen BK144.out 0
                          have hfz31_1 := blk_frozen BK144.out 1
                          have hfz31_2 := blk_frozen BK144.out 2
                          go_wp2
                          (try subst hji7)
                          go_meet
                          case rel => exact ⟨_, (((t147.length : Int) != (wrap64 (x145000_2)))), (by first | rfl | (simp; done) | (simp [*]; done) | (rw [i8_wrap_le] <;> first | rfl | omega) | (congr 1; unfold wrap64; omega)), H', ⟨by have := HJ2.out; have := HK2.out; first | omega | exact Nat.le_refl _⟩, ⟨by (with_reducible repeat (first | apply Kd.R_alloc | apply Kd.R_drewN | apply Kd.R_drew)); exact HO_4.out⟩, ⟨by (with_reducible repeat (first | apply Kd.R_alloc | apply Kd.R_drewN | apply Kd.R_drew)); exact HO150.out⟩, ⟨by (with_reducible repeat (first | refine blk_drewN ?_ _ | refine blk_drew ?_ | refine blk_alloc ?_ _)); exact BK138.out⟩, ⟨by (with_reducible repeat (first | refine blk_drewN ?_ _ | refine blk_drew ?_ | refine blk_alloc ?_ _)); exact BK144.out⟩, ⟨by repeat (first | (with_reducible first | exact HB.out | apply below_alloc | apply pw_below_drewN | apply below_drew1 | refine below_set ?_ GE138.out | refine below_set ?_ GE144.out | refine below_row ?_ GE138.out _ | refine below_row ?_ GE144.out _) | exact HB.out)⟩⟩
                        · rw [if_neg c28] at H
                          have c28b0 : decide (0 < x7_2) = false := decide_eq_false c28
                          clear c28
                          have H' := Aside0.mk H
                          clear H
                          obtain ⟨Ao32, co32, eo32⟩ := Kd.R_slice HO150.out
                          subst eo32
                          go_wp2
                          (try subst hji7)
                          go_meet
                          case rel => exact ⟨_, (false), (by first | rfl | (simp; done) | (simp [*]; done) | (rw [i8_wrap_le] <;> first | rfl | omega) | (congr 1; unfold wrap64; omega)), H', ⟨by have := HJ2.out; have := HK2.out; first | omega | exact Nat.le_refl _⟩, ⟨by (with_reducible repeat (first | apply Kd.R_alloc | apply Kd.R_drewN | apply Kd.R_drew)); exact HO_4.out⟩, ⟨by (with_reducible repeat (first | apply Kd.R_alloc | apply Kd.R_drewN | apply Kd.R_drew)); exact HO150.out⟩, ⟨by (with_reducible repeat (first | refine blk_drewN ?_ _ | refine blk_drew ?_ | refine blk_alloc ?_ _)); exact BK138.out⟩, ⟨by (with_reducible repeat (first | refine blk_drewN ?_ _ | refine blk_drew ?_ | refine blk_alloc ?_ _)); exact BK144.out⟩, ⟨by repeat (first | (with_reducible first | exact HB.out | apply below_alloc | apply pw_below_drewN | apply below_drew1 | refine below_set ?_ GE138.out | refine below_set ?_ GE144.out | refine below_row ?_ GE138.out _ | refine below_row ?_ GE144.out _) | exact HB.out)⟩⟩
                    · replace c25 := Bool.eq_false_iff.mpr c25
                      subst c25
                      have H1 : (spec_ReadBay.j2 k2 t139 (wrap64 ((t139.length : Int) - 1)) x7_2 t147 true x145000_2 (IntKind.i8.wrap ((wrap64 ((t139.length : Int) - 1)))) x145002_2) = some (r1, r2, r3, r4) := by rw [if_neg (show ¬ (false = true) by decide)] at H; exact H
                      clear H
                      have H := H1
                      clear H1
                      have H' := Aside0.mk H
                      clear H
                      go_wp2
                      (try subst hji7)
                      go_meet
                      case rel => exact ⟨_, (true), (by first | rfl | (simp; done) | (simp [*]; done) | (rw [i8_wrap_le] <;> first | rfl | omega) | (congr 1; unfold wrap64; omega)), H', ⟨by have := HJ2.out; have := HK2.out; first | omega | exact Nat.le_refl _⟩, ⟨by (with_reducible repeat (first | apply Kd.R_alloc | apply Kd.R_drewN | apply Kd.R_drew)); exact HO_4.out⟩, ⟨by (with_reducible repeat (first | apply Kd.R_alloc | apply Kd.R_drewN | apply Kd.R_drew)); exact HO150.out⟩, ⟨by (with_reducible repeat (first | refine blk_drewN ?_ _ | refine blk_drew ?_ | refine blk_alloc ?_ _)); exact BK138.out⟩, ⟨by (with_reducible repeat (first | refine blk_drewN ?_ _ | refine blk_drew ?_ | refine blk_alloc ?_ _)); exact BK144.out⟩, ⟨by repeat (first | (with_reducible first | exact HB.out | apply below_alloc | apply pw_below_drewN | apply below_drew1 | refine below_set ?_ GE138.out | refine below_set ?_ GE144.out | refine below_row ?_ GE138.out _ | refine below_row ?_ GE144.out _) | exact HB.out)⟩⟩
                  case rest =>
                    clear HC23
                    try clear c1
                    try clear p1
                    try clear q1
                    try clear hx1
                    try clear c2
                    try clear p2
                    try clear c3
                    try clear p6
                    try clear c8
                    try clear c8b0
                    try clear c8b1
                    try clear c9
                    try clear c9b0
                    try clear c10
                    try clear c10b0
                    try clear c10b1
                    try clear c12
                    try clear p14
                    try clear q14
                    try clear hx14
                    try clear c15
                    try clear c16
                    try clear c19
                    try clear c19b0
                    try clear c20
                    try clear c20b0
                    try clear c20b1
                    try clear c21
                    try clear c21b0
                    try clear c25
                    try clear c26
                    try clear c26b0
                    try clear c26b1
                    try clear c28
                    try clear c28b0
                    try clear c30
                    try clear hcz13_0
                    try clear hcz13_1
                    try clear hcz17_0
                    try clear hcz17_1
                    try clear hcz31_0
                    try clear hcz31_1
                    try clear hfz13_0
                    try clear hfz13_1
                    try clear hfz13_2
                    try clear hfz17_0
                    try clear hfz17_1
                    try clear hfz17_2
                    try clear hfz31_0
                    try clear hfz31_1
                    try clear hfz31_2
                    try clear hx142_0
                    try clear hx146_0
                    try clear p1
                    try clear p14
                    try clear p142
                    try clear p146
                    try clear p2
                    try clear p6
                    try clear q1
                    try clear q14
                    try clear q142
                    try clear q146
                    obtain ⟨kq, x61_22, rfl, HA, HJ22, HO_4, HO_8, BK138, BK144, HB⟩ := hcut
                    cases kq with
                    | zero => exact absurd HA.out (by simp [spec_ReadBay.j2])
                    | succ kj22 =>
                      have H := HA.out
                      clear HA
                      simp only [spec_ReadBay.j2] at H
                      by_cases c33 : x61_22 = true
                      · subst c33
                        have H1 : (some (0, 0, (fun _ => 0 : Nat → Int), 5)) = some (r1, r2, r3, r4) := by rw [if_pos rfl] at H; exact H
                        clear H
                        have H := H1
                        clear H1
                        simp only [Option.some.injEq, Prod.mk.injEq] at H
                        obtain ⟨rfl, rfl, rfl, rfl⟩ := H
                        have hnb34 := NB138_144.out
                        have hnc34 := NB144_138.out
                        have hcz35_0 : wc.cell? ⟨gb138, 0, none⟩ = some (.int .i8 x139000_2) := (blk_cell BK138.out 0).trans rfl
                        have hcz35_1 : wc.cell? ⟨gb138, 1, none⟩ = some (.int .i8 x139001_2) := (blk_cell BK138.out 1).trans rfl
                        have hwz35 := lv28_at BK138.out; have haz35 := at_cells BK138.out; have hyz35 := BayAt28_of BK138.out; have hvz35 := lvv_of BK138.out; have hzz35 := fun q_ => blk_frozen BK138.out q_
                        have hfz35_0 := blk_frozen BK138.out 0
                        have hfz35_1 := blk_frozen BK138.out 1
                        have hfz35_2 := blk_frozen BK138.out 2
                        go_wp2_with (first | ((with_reducible refine gate_store (t := 28) (p := 2) rfl ?_); refine bay_event (T := 28) (p := 2) (v := ?vo_w36) (g := gb138) (a1 := 0) (b1 := 0) (d1 := (fun _ => 0 : Nat → Int)) ?hg ?ho ?hn info28s ?hp ?hv (by (with_reducible repeat (first | refine blk_drewN ?_ _ | refine blk_drew ?_ | refine blk_alloc ?_ _)); exact BK138.out) ?_; (case ho => rfl); (case hg => rfl); (case hn => rfl); (case hp => rfl); (case hv => rfl); intro w36 hw; have n0_ : Aside0 (Kd.R Kd.string 9 w36 w.heap.size (fun _ => True) (.slice (some ad146) t139.length co6) t139) := ⟨(by rw [hw]; exact (by (with_reducible repeat (first | apply Kd.R_alloc | apply Kd.R_drewN | apply Kd.R_drew)); exact Kd.R_mono (Kd.R_keep (Kd.R_types HO_4.out BK138.out (by decide)) (setRow_keep _ _ _) (fun _ hk => hk.2)) (fun _ hk => trivial)))⟩; have n1_ : Aside0 (Kd.R (Kd.int .i64) 2 w36 w.heap.size (fun _ => True) v149 t147) := ⟨(by rw [hw]; exact (by (with_reducible repeat (first | apply Kd.R_alloc | apply Kd.R_drewN | apply Kd.R_drew)); exact Kd.R_mono (Kd.R_keep (Kd.R_types HO_8.out BK138.out (by decide)) (setRow_keep _ _ _) (fun _ hk => hk.2)) (fun _ hk => trivial)))⟩; have n2_ : Aside0 (w36.heap[gb138]? = some (.cells (csBay 0 0 (fun _ => 0 : Nat → Int)) 28 (0, 0))) := ⟨(by rw [hw]; exact (by (with_reducible repeat (first | refine blk_drewN ?_ _ | refine blk_drew ?_ | refine blk_alloc ?_ _)); refine blk_row (old := (csBay x139000_2 x139001_2 x139002_2)) ?_ _; (with_reducible repeat (first | refine blk_drewN ?_ _ | refine blk_drew ?_ | refine blk_alloc ?_ _)); exact BK138.out))⟩; have n3_ : Aside0 (w36.heap[gb144]? = some (.cells (csBay x145000_2 (IntKind.i8.wrap ((wrap64 ((t139.length : Int) - 1)))) x145002_2) 28 (0, 0))) := ⟨(by rw [hw]; exact (by (with_reducible repeat (first | refine blk_drewN ?_ _ | refine blk_drew ?_ | refine blk_alloc ?_ _)); refine blk_row_far ?_ NB144_138.out _; (with_reducible repeat (first | refine blk_drewN ?_ _ | refine blk_drew ?_ | refine blk_alloc ?_ _)); exact BK144.out))⟩; have n4_ : Aside0 (Below w.heap.size w w36) := ⟨(by rw [hw]; exact (by repeat (first | (with_reducible first | exact HB.out | apply below_alloc | apply pw_below_drewN | apply below_drew1 | refine below_set ?_ GE138.out | refine below_set ?_ GE144.out | refine below_row ?_ GE138.out _ | refine below_row ?_ GE144.out _) | exact HB.out)))⟩; clear hw; clear HO_4; clear HO_8; clear BK138; clear BK144; clear HB; have HO_4 := n0_; have HO_8 := n1_; have BK138 := n2_; have BK144 := n3_; have HB := n4_; clear n0_ n1_ n2_ n3_ n4_))
                        refine bodyPost_ret (results_ct rfl _ _ gb138 28 (csBay 0 0 (fun _ => 0 : Nat → Int)) (0, 0) _ rfl (by (with_reducible repeat (first | refine blk_drewN ?_ _ | refine blk_drew ?_ | refine blk_alloc ?_ _)); exact BK138.out) Tryd.underlying28 rfl (by kernel_rfl)) rfl ?_
                        exact ⟨by first | rfl | (simp [errW_none, errW_some] <;> rfl) | (simp [*, errW_none, errW_some] <;> rfl), by repeat (first | (with_reducible first | exact HB.out | apply below_alloc | apply pw_below_drewN | apply below_drew1 | refine below_set ?_ GE138.out | refine below_set ?_ GE144.out | refine below_row ?_ GE138.out _ | refine below_row ?_ GE144.out _) | exact HB.out)⟩
                      · replace c33 := Bool.eq_false_iff.mpr c33
                        subst c33
                        have H1 : (spec_ReadBay.l1 kj22 t139 (wrap64 ((t139.length : Int) - 1)) x7_2 t147 0 (IntKind.i8.wrap ((t147.length : Int))) (IntKind.i8.wrap ((wrap64 ((t139.length : Int) - 1)))) x145002_2) = some (r1, r2, r3, r4) := by rw [if_neg (show ¬ (false = true) by decide)] at H; exact H
                        clear H
                        have H := H1
                        clear H1
                        have H' := Aside0.mk H
                        clear H
                        obtain ⟨Ao37, co37, eo37⟩ := Kd.R_slice HO_8.out
                        subst eo37
                        have hnb38 := NB144_138.out
                        have hnc38 := NB138_144.out
                        have hcz39_0 : wc.cell? ⟨gb144, 0, none⟩ = some (.int .i8 x145000_2) := (blk_cell BK144.out 0).trans rfl
                        have hcz39_1 : wc.cell? ⟨gb144, 1, none⟩ = some (.int .i8 (IntKind.i8.wrap ((wrap64 ((t139.length : Int) - 1))))) := (blk_cell BK144.out 1).trans rfl
                        have hwz39 := lv28_at BK144.out; have haz39 := at_cells BK144.out; have hyz39 := BayAt28_of BK144.out; have hvz39 := lvv_of BK144.out; have hzz39 := fun q_ => blk_frozen BK144.out q_
                        have hfz39_0 := blk_frozen BK144.out 0
                        have hfz39_1 := blk_frozen BK144.out 1
                        have hfz39_2 := blk_frozen BK144.out 2
                        go_wp2
                        go_loopg [10] kj22 (fun kq v10 w' => ∃ (x10_4 : Int) (x145002_4 : (Nat → Int)), v10 = .int .i64 x10_4 ∧ Aside0 (spec_ReadBay.l1 kq t139 (wrap64 ((t139.length : Int) - 1)) x7_2 t147 x10_4 (IntKind.i8.wrap ((t147.length : Int))) (IntKind.i8.wrap ((wrap64 ((t139.length : Int) - 1)))) x145002_4 = some (r1, r2, r3, r4)) ∧ Aside0 (kq ≤ kj22) ∧ Aside0 (Kd.R Kd.string 9 w' w.heap.size (fun _ => True) (.slice (some ad146) t139.length co6) t139) ∧ Aside0 (Kd.R (Kd.int .i64) 2 w' w.heap.size (fun _ => True) (.slice Ao37 t147.length co37) t147) ∧ Aside0 (w'.heap[gb138]? = some (.cells (csBay x139000_2 x139001_2 x139002_2) 28 (0, 0))) ∧ Aside0 (w'.heap[gb144]? = some (.cells (csBay (IntKind.i8.wrap ((t147.length : Int))) (IntKind.i8.wrap ((wrap64 ((t139.length : Int) - 1)))) x145002_4) 28 (0, 0))) ∧ Aside0 (Below w.heap.size w w'))
                        case atStart => exact ⟨(0), (x145002_2), (by first | rfl | (simp; done) | (simp [*]; done) | (rw [i8_wrap_le] <;> first | rfl | omega) | (congr 1; unfold wrap64; omega)), H', ⟨Nat.le_refl _⟩, ⟨by (with_reducible repeat (first | apply Kd.R_alloc | apply Kd.R_drewN | apply Kd.R_drew)); exact Kd.R_mono (Kd.R_far (p := ⟨gb144, 0, none⟩) (Kd.R_types HO_4.out BK144.out (by decide)) (fun _ hk => hk.2) (.int .i8 (IntKind.i8.wrap ((t147.length : Int))))) (fun _ hk => trivial)⟩, ⟨by (with_reducible repeat (first | apply Kd.R_alloc | apply Kd.R_drewN | apply Kd.R_drew)); exact Kd.R_mono (Kd.R_far (p := ⟨gb144, 0, none⟩) (Kd.R_types HO_8.out BK144.out (by decide)) (fun _ hk => hk.2) (.int .i8 (IntKind.i8.wrap ((t147.length : Int))))) (fun _ hk => trivial)⟩, ⟨by (with_reducible repeat (first | refine blk_drewN ?_ _ | refine blk_drew ?_ | refine blk_alloc ?_ _)); refine blk_far ?_ NB138_144.out _; (with_reducible repeat (first | refine blk_drewN ?_ _ | refine blk_drew ?_ | refine blk_alloc ?_ _)); exact BK138.out⟩, ⟨by (with_reducible repeat (first | refine blk_drewN ?_ _ | refine blk_drew ?_ | refine blk_alloc ?_ _)); refine blk_put (cs := (csBay x145000_2 (IntKind.i8.wrap ((wrap64 ((t139.length : Int) - 1)))) x145002_2)) ?_ 0 _ rfl; (with_reducible repeat (first | refine blk_drewN ?_ _ | refine blk_drew ?_ | refine blk_alloc ?_ _)); exact BK144.out⟩, ⟨by repeat (first | (with_reducible first | exact HB.out | apply below_alloc | apply pw_below_drewN | apply below_drew1 | refine below_set ?_ GE138.out | refine below_set ?_ GE144.out | refine below_row ?_ GE138.out _ | refine below_row ?_ GE144.out _) | exact HB.out)⟩⟩
                        case round =>
                          clear H'
                          try clear c1
                          try clear p1
                          try clear q1
                          try clear hx1
                          try clear c2
                          try clear p2
                          try clear c3
                          try clear p6
                          try clear c8
                          try clear c8b0
                          try clear c8b1
                          try clear c9
                          try clear c9b0
                          try clear c10
                          try clear c10b0
                          try clear c10b1
                          try clear c12
                          try clear p14
                          try clear q14
                          try clear hx14
                          try clear c15
                          try clear c16
                          try clear c19
                          try clear c19b0
                          try clear c20
                          try clear c20b0
                          try clear c20b1
                          try clear c21
                          try clear c21b0
                          try clear c25
                          try clear c26
                          try clear c26b0
                          try clear c26b1
                          try clear c28
                          try clear c28b0
                          try clear c30
                          try clear c33
                          try clear c34
                          try clear c36
                          try clear c38
                          try clear hcz13_0
                          try clear hcz13_1
                          try clear hcz17_0
                          try clear hcz17_1
                          try clear hcz31_0
                          try clear hcz31_1
                          try clear hcz35_0
                          try clear hcz35_1
                          try clear hcz39_0
                          try clear hcz39_1
                          try clear hfz13_0
                          try clear hfz13_1
                          try clear hfz13_2
                          try clear hfz17_0
                          try clear hfz17_1
                          try clear hfz17_2
                          try clear hfz31_0
                          try clear hfz31_1
                          try clear hfz31_2
                          try clear hfz35_0
                          try clear hfz35_1
                          try clear hfz35_2
                          try clear hfz39_0
                          try clear hfz39_1
                          try clear hfz39_2
                          try clear hx142_0
                          try clear hx146_0
                          try clear p1
                          try clear p14
                          try clear p142
                          try clear p146
                          try clear p2
                          try clear p6
                          try clear q1
                          try clear q14
                          try clear q142
                          try clear q146
                          obtain ⟨x10_4, x145002_4, rfl, HA, HK4, HO_4, HO_8, BK138, BK144, HB⟩ := hrel
                          cases gk with
                          | zero => exact absurd HA.out (by simp [spec_ReadBay.l1])
                          | succ k4 =>
                            have H := HA.out
                            clear HA
                            simp only [spec_ReadBay.l1] at H
                            by_cases c40 : x10_4 < (t147.length : Int)
                            · rw [if_pos c40] at H
                              have c40b0 : decide (x10_4 < (t147.length : Int)) = true := decide_eq_true c40
                              clear c40
                              by_cases c41 : 0 ≤ x10_4
                              · rw [if_pos c41] at H
                                have c41b0 : decide (0 ≤ x10_4) = true := decide_eq_true c41
                                have c41b1 : 0 ≤ x10_4 := c41
                                clear c41
                                by_cases c42 : 0 ≤ x7_2
                                · rw [if_pos c42] at H
                                  have c42b0 : decide (0 ≤ x7_2) = true := decide_eq_true c42
                                  have c42b1 : 0 ≤ x7_2 := c42
                                  clear c42
                                  by_cases c43 : x7_2 < 16
                                  · rw [if_pos c43] at H
                                    have c43b0 : decide (x7_2 < 16) = true := decide_eq_true c43
                                    have c43b1 : x7_2 < 16 := c43
                                    clear c43
                                    by_cases c44 : x10_4 < 16
                                    · rw [if_pos c44] at H
                                      have c44b0 : decide (x10_4 < 16) = true := decide_eq_true c44
                                      have c44b1 : x10_4 < 16 := c44
                                      clear c44
                                      have H' := Aside0.mk H
                                      clear H
                                      try go_wp2
                                      have n0_ := Aside0.mk (Kd.R_drew HO_4.out)
                                      have n1_ := Aside0.mk (Kd.R_drew HO_8.out)
                                      have n2_ := Aside0.mk (blk_drew BK138.out)
                                      have n3_ := Aside0.mk (blk_drew BK144.out)
                                      have n4_ := Aside0.mk (below_drew1 HB.out)
                                      clear HO_4
                                      clear HO_8
                                      clear BK138
                                      clear BK144
                                      clear HB
                                      have HO_4 := n0_
                                      have HO_8 := n1_
                                      have BK138 := n2_
                                      have BK144 := n3_
                                      have HB := n4_
                                      clear n0_ n1_ n2_ n3_ n4_
                                      have p151 : 0 ≤ (x10_4 : Int) := of_decide_eq_true (by first | (with_reducible assumption) | assumption)
                                      have q151 : x10_4 < (t147.length : Int) := of_decide_eq_true (by first | (with_reducible assumption) | assumption)
                                      obtain ⟨ad151, e151, hx151_0⟩ := Kd.at_int (Kd.R_reads' HO_8.out).2.2 x10_4 p151 q151
                                      cases e151
                                      replace p151 := eq_true p151
                                      replace q151 := eq_true q151
                                      refine start_ (n := 11) (S := fun w' => w'.cell? (ad151.add (x10_4).toNat) = some (.int .i64 (rd t147 x10_4))) (ds := [10]) #[false, false, false, false, false, false, false, false, false, false, false] (by kernel_rfl) rfl rfl (hx151_0) (fun hHeld => ?_); refine with_tabW spec_ReadBay.tab16 spec_ReadBay.bits16 (fun HT_ HW_ => ?_)
                                      generalize wr.drew = w45 at HO_4 HO_8 BK138 BK144 HB hx151_0 hHeld ⊢
                                      refine pure_ (i := 0) (N := some 73) (v := ?_) (a' := ?_) #[true, false, false, false, false, false, false, false, false, false, false] rfl rfl (any_of HT_.out (by kernel_rfl)) (fun _ _ _ h => h) (Or.inl ⟨by rfl, ?_⟩) ?_ ?_
                                      rotate_left
                                      · intro w'
                                        go_simp
                                        with_reducible rfl
                                      rotate_left
                                      · simp only [Act.put, List.setIfInBounds_toArray, List.set_cons_zero, List.set_cons_succ, i64_w, i32_w]
                                        rfl
                                      refine pure_ (i := 1) (N := some 74) (v := ?_) (a' := ?_) #[true, true, false, false, false, false, false, false, false, false, false] rfl rfl (any_of HT_.out (by kernel_rfl)) (fun _ _ _ h => h) (Or.inl ⟨by rfl, ?_⟩) ?_ ?_
                                      rotate_left
                                      · intro w'
                                        go_simp
                                        with_reducible rfl
                                      rotate_left
                                      · simp only [Act.put, List.setIfInBounds_toArray, List.set_cons_zero, List.set_cons_succ, i64_w, i32_w]
                                        rfl
                                      refine pure_ (i := 2) (N := some 75) (v := ?_) (a' := ?_) #[true, true, true, false, false, false, false, false, false, false, false] rfl rfl (any_of HT_.out (by kernel_rfl)) (fun _ _ _ h => h) (Or.inl ⟨by rfl, ?_⟩) ?_ ?_
                                      rotate_left
                                      · intro w'
                                        go_simp
                                        with_reducible rfl
                                      rotate_left
                                      · simp only [Act.put, List.setIfInBounds_toArray, List.set_cons_zero, List.set_cons_succ, i64_w, i32_w]
                                        rfl
                                      refine pure_ (i := 3) (N := some 76) (v := ?_) (a' := ?_) #[true, true, true, true, false, false, false, false, false, false, false] rfl rfl (any_of HT_.out (by kernel_rfl)) (fun _ _ _ h => h) (Or.inl ⟨by rfl, ?_⟩) ?_ ?_
                                      rotate_left
                                      · intro w'
                                        go_simp
                                        with_reducible rfl
                                      rotate_left
                                      · simp only [Act.put, List.setIfInBounds_toArray, List.set_cons_zero, List.set_cons_succ, i64_w, i32_w]
                                        rfl
                                      refine pure_ (i := 4) (N := some 77) (v := ?_) (a' := ?_) #[true, true, true, true, true, false, false, false, false, false, false] rfl rfl (any_of HT_.out (by kernel_rfl)) (fun _ _ _ h => h) (Or.inl ⟨by rfl, ?_⟩) ?_ ?_
                                      rotate_left
                                      · intro w'
                                        go_simp
                                        with_reducible rfl
                                      rotate_left
                                      · simp only [Act.put, List.setIfInBounds_toArray, List.set_cons_zero, List.set_cons_succ, i64_w, i32_w]
                                        rfl
                                      refine pure_ (i := 7) (N := some 80) (v := ?_) (a' := ?_) #[true, true, true, true, true, false, false, true, false, false, false] rfl rfl (any_of HT_.out (by kernel_rfl)) (fun _ _ _ h => h) (Or.inl ⟨by rfl, ?_⟩) ?_ ?_
                                      rotate_left
                                      · intro w'
                                        go_simp
                                        with_reducible rfl
                                      rotate_left
                                      · simp only [Act.put, List.setIfInBounds_toArray, List.set_cons_zero, List.set_cons_succ, i64_w, i32_w]
                                        rfl
                                      refine pure_ (i := 8) (N := some 81) (v := ?_) (a' := ?_) #[true, true, true, true, true, false, false, true, true, false, false] rfl rfl (any_of HT_.out (by kernel_rfl)) (fun _ _ _ h => h) (Or.inl ⟨by rfl, ?_⟩) ?_ ?_
                                      rotate_left
                                      · intro w'
                                        go_simp
                                        with_reducible rfl
                                      rotate_left
                                      · simp only [Act.put, List.setIfInBounds_toArray, List.set_cons_zero, List.set_cons_succ, i64_w, i32_w]
                                        rfl
                                      refine take_ (i := 5) (N := some 78) (v := ?_) (a' := ?_) #[true, true, true, true, true, true, false, true, true, false, false] rfl rfl (take_ofW HT_.out HW_.out (by kernel_rfl)) (fun _ _ _ h => h) (Or.inl ⟨by rfl, ?_⟩) hHeld ?_ ?_
                                      rotate_left
                                      · intro w' s0
                                        go_simp
                                        with_reducible rfl
                                      rotate_left
                                      · simp only [Act.put, List.setIfInBounds_toArray, List.set_cons_zero, List.set_cons_succ, i64_w, i32_w]
                                        rfl
                                      refine pure_ (i := 6) (N := some 79) (v := ?_) (a' := ?_) #[true, true, true, true, true, true, true, true, true, false, false] rfl rfl (any_of HT_.out (by kernel_rfl)) (fun _ _ _ h => h) (Or.inl ⟨by rfl, ?_⟩) ?_ ?_
                                      rotate_left
                                      · intro w'
                                        go_simp
                                        with_reducible rfl
                                      rotate_left
                                      · simp only [Act.put, List.setIfInBounds_toArray, List.set_cons_zero, List.set_cons_succ, i64_w, i32_w]
                                        rfl
                                      refine pure_ (i := 9) (N := some 82) (v := ?_) (a' := ?_) #[true, true, true, true, true, true, true, true, true, true, false] rfl rfl (any_of HT_.out (by kernel_rfl)) (fun _ _ _ h => h) (Or.inl ⟨by rfl, ?_⟩) ?_ ?_
                                      rotate_left
                                      · intro w'
                                        go_simp
                                        with_reducible rfl
                                      rotate_left
                                      · simp only [Act.put, List.setIfInBounds_toArray, List.set_cons_zero, List.set_cons_succ, i64_w, i32_w]
                                        rfl
                                      refine last_ (i := 10) (N := none) #[true, true, true, true, true, true, true, true, true, true, true] rfl rfl (one_of HT_.out (by kernel_rfl)) (by decide) (fun K hK => ?_)
                                      have haz46 := at_cells BK144.out
                                      have hzz46 := fun q_ => blk_frozen BK144.out q_
                                      refine skip_ (w1 := ?_) (by rfl) rfl ?_ ?_
                                      rotate_left
                                      · go_simp
                                        rfl
                                      refine hK.out _ _ ?_
                                      clear hK K
                                      refine done_ (done_of HT_.out (by kernel_rfl)) ?_
                                      try go_wp2
                                      go_roundg k4
                                      case measure => have := HJ2.out; have := HK2.out; have := HJ22.out; have := HK4.out; omega
                                      case rel => exact ⟨(wrap64 (x10_4 + 1)), (setD x145002_4 (16 * (x7_2 : Int).toNat + (x10_4 : Int).toNat) (IntKind.i8.wrap (rd t147 x10_4))), (by first | rfl | (simp; done) | (simp [*]; done) | (rw [i8_wrap_le] <;> first | rfl | omega) | (congr 1; unfold wrap64; omega)), H', ⟨by have := HJ2.out; have := HK2.out; have := HJ22.out; have := HK4.out; omega⟩, ⟨by (with_reducible repeat (first | apply Kd.R_alloc | apply Kd.R_drewN | apply Kd.R_drew)); exact Kd.R_mono (Kd.R_far (p := ⟨gb144, 2 + (x7_2 : Int).toNat * 16 + (x10_4 : Int).toNat, none⟩) (Kd.R_types HO_4.out BK144.out (by decide)) (fun _ hk => hk.2) (.int .i8 (IntKind.i8.wrap (rd t147 x10_4)))) (fun _ hk => trivial)⟩, ⟨by (with_reducible repeat (first | apply Kd.R_alloc | apply Kd.R_drewN | apply Kd.R_drew)); exact Kd.R_mono (Kd.R_far (p := ⟨gb144, 2 + (x7_2 : Int).toNat * 16 + (x10_4 : Int).toNat, none⟩) (Kd.R_types HO_8.out BK144.out (by decide)) (fun _ hk => hk.2) (.int .i8 (IntKind.i8.wrap (rd t147 x10_4)))) (fun _ hk => trivial)⟩, ⟨by (with_reducible repeat (first | refine blk_drewN ?_ _ | refine blk_drew ?_ | refine blk_alloc ?_ _)); refine blk_far ?_ NB138_144.out _; (with_reducible repeat (first | refine blk_drewN ?_ _ | refine blk_drew ?_ | refine blk_alloc ?_ _)); exact BK138.out⟩, ⟨by (with_reducible repeat (first | refine blk_drewN ?_ _ | refine blk_drew ?_ | refine blk_alloc ?_ _)); refine blk_setD ?_ (by first | (with_reducible assumption) | (with_unfolding_all decide)) (by first | (with_reducible assumption) | (with_unfolding_all decide)) (by first | (with_reducible assumption) | (with_unfolding_all decide)) (by first | (with_reducible assumption) | (with_unfolding_all decide)) _; (with_reducible repeat (first | refine blk_drewN ?_ _ | refine blk_drew ?_ | refine blk_alloc ?_ _)); exact BK144.out⟩, ⟨by repeat (first | (with_reducible first | exact HB.out | apply below_alloc | apply pw_below_drewN | apply below_drew1 | refine below_set ?_ GE138.out | refine below_set ?_ GE144.out | refine below_row ?_ GE138.out _ | refine below_row ?_ GE144.out _) | exact HB.out)⟩⟩
                                    · rw [if_neg c44] at H
                                      exact absurd H (by simp)
                                  · rw [if_neg c43] at H
                                    exact absurd H (by simp)
                                · rw [if_neg c42] at H
                                  exact absurd H (by simp)
                              · rw [if_neg c41] at H
                                exact absurd H (by simp)
                            · rw [if_neg c40] at H
                              have c40b0 : decide (x10_4 < (t147.length : Int)) = false := decide_eq_false c40
                              clear c40
                              have H' := Aside0.mk H
                              clear H
                              go_wp2
                              go_roundg k4
                              case measure => have := HJ2.out; have := HK2.out; have := HJ22.out; have := HK4.out; omega
                              case rel => exact ⟨(wrap64 (x7_2 + 1)), (x139000_2), (x139001_2), (x139002_2), ((IntKind.i8.wrap ((t147.length : Int)))), (x145002_4), (by first | rfl | (simp; done) | (simp [*]; done) | (rw [i8_wrap_le] <;> first | rfl | omega) | (congr 1; unfold wrap64; omega)), H', ⟨by have := HJ2.out; have := HK2.out; have := HJ22.out; have := HK4.out; omega⟩, ⟨by (with_reducible repeat (first | apply Kd.R_alloc | apply Kd.R_drewN | apply Kd.R_drew)); exact HO_4.out⟩, ⟨by (with_reducible repeat (first | refine blk_drewN ?_ _ | refine blk_drew ?_ | refine blk_alloc ?_ _)); exact BK138.out⟩, ⟨by (with_reducible repeat (first | refine blk_drewN ?_ _ | refine blk_drew ?_ | refine blk_alloc ?_ _)); exact BK144.out⟩, ⟨by repeat (first | (with_reducible first | exact HB.out | apply below_alloc | apply pw_below_drewN | apply below_drew1 | refine below_set ?_ GE138.out | refine below_set ?_ GE144.out | refine below_row ?_ GE138.out _ | refine below_row ?_ GE144.out _) | exact HB.out)⟩⟩
                · rw [if_neg c21] at H
                  exact absurd H (by simp)
              · rw [if_neg c20] at H
                exact absurd H (by simp)
            · rw [if_neg c19] at H
              have c19b0 : decide (x7_2 < (wrap64 ((t139.length : Int) - 1))) = false := decide_eq_false c19
              clear c19
              replace H := Option.bind_eq_some_iff.mp H
              obtain ⟨t145, A470, H⟩ := H
              replace H : (if t145 = true then (some (x145000_2, (IntKind.i8.wrap ((wrap64 ((t139.length : Int) - 1)))), x145002_2, 0)) else (some (0, 0, (fun _ => 0 : Nat → Int), 5))) = some (r1, r2, r3, r4) := H
              have A47 := Aside0.mk A470
              clear A470
              by_cases c48 : t145 = true
              · subst c48
                have H1 : (some (x145000_2, (IntKind.i8.wrap ((wrap64 ((t139.length : Int) - 1)))), x145002_2, 0)) = some (r1, r2, r3, r4) := by rw [if_pos rfl] at H; exact H
                clear H
                have H := H1
                clear H1
                simp only [Option.some.injEq, Prod.mk.injEq] at H
                obtain ⟨rfl, rfl, rfl, rfl⟩ := H
                have hnb49 := NB144_138.out
                have hnc49 := NB138_144.out
                have hcz50_0 : wr.cell? ⟨gb144, 0, none⟩ = some (.int .i8 x145000_2) := (blk_cell BK144.out 0).trans rfl
                have hcz50_1 : wr.cell? ⟨gb144, 1, none⟩ = some (.int .i8 (IntKind.i8.wrap ((wrap64 ((t139.length : Int) - 1))))) := (blk_cell BK144.out 1).trans rfl
                have hwz50 := lv28_at BK144.out; have haz50 := at_cells BK144.out; have hyz50 := BayAt28_of BK144.out; have hvz50 := lvv_of BK144.out; have hzz50 := fun q_ => blk_frozen BK144.out q_
                have hfz50_0 := blk_frozen BK144.out 0
                have hfz50_1 := blk_frozen BK144.out 1
                have hfz50_2 := blk_frozen BK144.out 2
                go_wp2_with (first | ((with_reducible refine gate_callee (f := 22) rfl ?_); refine goesL_ (some 83) rfl rfl Tryd.func22 (by kernel_rfl) rfl #[.pointer (some ⟨gb144, 0, none⟩)] rfl (by (try simp only [List.map_toArray, List.map_cons, List.map_nil]); first | done | rfl | (simp only [List.length_drop, List.length_take]; rfl)) ?_; (with_reducible refine (spec_ReadBay_bay.calls k2 gb144 x145000_2 (IntKind.i8.wrap ((wrap64 ((t139.length : Int) - 1)))) x145002_2 true w _ (by (with_reducible repeat (first | refine blk_drewN ?_ _ | refine blk_drew ?_ | refine blk_alloc ?_ _)); exact BK144.out) GE144.out (by repeat (first | (with_reducible first | exact HB.out | apply below_alloc | apply pw_below_drewN | apply below_drew1) | exact HB.out)) A47.out).mono ?_); rintro e w51 ⟨rfl, hb⟩; refine ⟨_, rfl, ?_⟩; have n0_ := Aside0.mk (Kd.R_below (by (with_reducible repeat (first | apply Kd.R_alloc | apply Kd.R_drewN | apply Kd.R_drew)); exact HO_4.out) hb); have n1_ := Aside0.mk (blk_below (g := gb138) (o := .cells (csBay x139000_2 x139001_2 x139002_2) 28 (0, 0)) (by (with_reducible repeat (first | refine blk_drewN ?_ _ | refine blk_drew ?_ | refine blk_alloc ?_ _)); exact BK138.out) hb); have n2_ := Aside0.mk (blk_below (g := gb144) (o := .cells (csBay x145000_2 (IntKind.i8.wrap ((wrap64 ((t139.length : Int) - 1)))) x145002_2) 28 (0, 0)) (by (with_reducible repeat (first | refine blk_drewN ?_ _ | refine blk_drew ?_ | refine blk_alloc ?_ _)); exact BK144.out) hb); have n3_ := Aside0.mk (below_step (by repeat (first | (with_reducible first | exact HB.out | apply below_alloc | apply pw_below_drewN | apply below_drew1 | refine below_set ?_ GE138.out | refine below_set ?_ GE144.out | refine below_row ?_ GE138.out _ | refine below_row ?_ GE144.out _) | exact HB.out)) hb); clear HO_4; clear BK138; clear BK144; clear HB; have HO_4 := n0_; have BK138 := n1_; have BK144 := n2_; have HB := n3_; clear n0_ n1_ n2_ n3_; (try clear hb); (try clear hb2); (try clear hk); (try clear hi); have hcz52_0 : w51.cell? ⟨gb144, 0, none⟩ = some (.int .i8 x145000_2) := (blk_cell BK144.out 0).trans rfl; have hcz52_1 : w51.cell? ⟨gb144, 1, none⟩ = some (.int .i8 (IntKind.i8.wrap ((wrap64 ((t139.length : Int) - 1))))) := (blk_cell BK144.out 1).trans rfl; have hwz52 := lv28_at BK144.out; have haz52 := at_cells BK144.out; have hyz52 := BayAt28_of BK144.out; have hvz52 := lvv_of BK144.out; have hzz52 := fun q_ => blk_frozen BK144.out q_; have hfz52_0 := blk_frozen BK144.out 0; have hfz52_1 := blk_frozen BK144.out 1; have hfz52_2 := blk_frozen BK144.out 2; have hcz53_0 : w51.cell? ⟨gb138, 0, none⟩ = some (.int .i8 x139000_2) := (blk_cell BK138.out 0).trans rfl; have hcz53_1 : w51.cell? ⟨gb138, 1, none⟩ = some (.int .i8 x139001_2) := (blk_cell BK138.out 1).trans rfl; have hwz53 := lv28_at BK138.out; have haz53 := at_cells BK138.out; have hyz53 := BayAt28_of BK138.out; have hvz53 := lvv_of BK138.out; have hzz53 := fun q_ => blk_frozen BK138.out q_; have hfz53_0 := blk_frozen BK138.out 0; have hfz53_1 := blk_frozen BK138.out 1; have hfz53_2 := blk_frozen BK138.out 2) | ((with_reducible refine gate_store (t := 28) (p := 2) rfl ?_); refine bay_event (T := 28) (p := 2) (v := ?vo_w54) (g := gb138) (a1 := x145000_2) (b1 := (IntKind.i8.wrap ((wrap64 ((t139.length : Int) - 1))))) (d1 := x145002_2) ?hg ?ho ?hn info28s ?hp ?hv (by (with_reducible repeat (first | refine blk_drewN ?_ _ | refine blk_drew ?_ | refine blk_alloc ?_ _)); exact BK138.out) ?_; (case ho => rfl); (case hg => rfl); (case hn => rfl); (case hp => rfl); (case hv => rfl); intro w54 hw; have n0_ : Aside0 (Kd.R Kd.string 9 w54 w.heap.size (fun _ => True) (.slice Ao6 t139.length co6) t139) := ⟨(by rw [hw]; exact (by (with_reducible repeat (first | apply Kd.R_alloc | apply Kd.R_drewN | apply Kd.R_drew)); exact Kd.R_mono (Kd.R_keep (Kd.R_types HO_4.out BK138.out (by decide)) (setRow_keep _ _ _) (fun _ hk => hk.2)) (fun _ hk => trivial)))⟩; have n1_ : Aside0 (w54.heap[gb138]? = some (.cells (csBay x145000_2 (IntKind.i8.wrap ((wrap64 ((t139.length : Int) - 1)))) x145002_2) 28 (0, 0))) := ⟨(by rw [hw]; exact (by (with_reducible repeat (first | refine blk_drewN ?_ _ | refine blk_drew ?_ | refine blk_alloc ?_ _)); refine blk_row (old := (csBay x139000_2 x139001_2 x139002_2)) ?_ _; (with_reducible repeat (first | refine blk_drewN ?_ _ | refine blk_drew ?_ | refine blk_alloc ?_ _)); exact BK138.out))⟩; have n2_ : Aside0 (w54.heap[gb144]? = some (.cells (csBay x145000_2 (IntKind.i8.wrap ((wrap64 ((t139.length : Int) - 1)))) x145002_2) 28 (0, 0))) := ⟨(by rw [hw]; exact (by (with_reducible repeat (first | refine blk_drewN ?_ _ | refine blk_drew ?_ | refine blk_alloc ?_ _)); refine blk_row_far ?_ NB144_138.out _; (with_reducible repeat (first | refine blk_drewN ?_ _ | refine blk_drew ?_ | refine blk_alloc ?_ _)); exact BK144.out))⟩; have n3_ : Aside0 (Below w.heap.size w w54) := ⟨(by rw [hw]; exact (by repeat (first | (with_reducible first | exact HB.out | apply below_alloc | apply pw_below_drewN | apply below_drew1 | refine below_set ?_ GE138.out | refine below_set ?_ GE144.out | refine below_row ?_ GE138.out _ | refine below_row ?_ GE144.out _) | exact HB.out)))⟩; clear hw; clear HO_4; clear BK138; clear BK144; clear HB; have HO_4 := n0_; have BK138 := n1_; have BK144 := n2_; have HB := n3_; clear n0_ n1_ n2_ n3_))
                refine bodyPost_ret (results_ct rfl _ _ gb138 28 (csBay x145000_2 (IntKind.i8.wrap ((wrap64 ((t139.length : Int) - 1)))) x145002_2) (0, 0) _ rfl (by (with_reducible repeat (first | refine blk_drewN ?_ _ | refine blk_drew ?_ | refine blk_alloc ?_ _)); exact BK138.out) Tryd.underlying28 rfl (by kernel_rfl)) rfl ?_
                exact ⟨by first | rfl | (simp [errW_none, errW_some] <;> rfl) | (simp [*, errW_none, errW_some] <;> rfl), by repeat (first | (with_reducible first | exact HB.out | apply below_alloc | apply pw_below_drewN | apply below_drew1 | refine below_set ?_ GE138.out | refine below_set ?_ GE144.out | refine below_row ?_ GE138.out _ | refine below_row ?_ GE144.out _) | exact HB.out)⟩
              · replace c48 := Bool.eq_false_iff.mpr c48
                subst c48
                have H1 : (some (0, 0, (fun _ => 0 : Nat → Int), 5)) = some (r1, r2, r3, r4) := by rw [if_neg (show ¬ (false = true) by decide)] at H; exact H
                clear H
                have H := H1
                clear H1
                simp only [Option.some.injEq, Prod.mk.injEq] at H
                obtain ⟨rfl, rfl, rfl, rfl⟩ := H
                have hnb55 := NB144_138.out
                have hnc55 := NB138_144.out
                have hcz56_0 : wr.cell? ⟨gb144, 0, none⟩ = some (.int .i8 x145000_2) := (blk_cell BK144.out 0).trans rfl
                have hcz56_1 : wr.cell? ⟨gb144, 1, none⟩ = some (.int .i8 (IntKind.i8.wrap ((wrap64 ((t139.length : Int) - 1))))) := (blk_cell BK144.out 1).trans rfl
                have hwz56 := lv28_at BK144.out; have haz56 := at_cells BK144.out; have hyz56 := BayAt28_of BK144.out; have hvz56 := lvv_of BK144.out; have hzz56 := fun q_ => blk_frozen BK144.out q_
                have hfz56_0 := blk_frozen BK144.out 0
                have hfz56_1 := blk_frozen BK144.out 1
                have hfz56_2 := blk_frozen BK144.out 2
                go_wp2_with (first | ((with_reducible refine gate_callee (f := 22) rfl ?_); refine goesL_ (some 83) rfl rfl Tryd.func22 (by kernel_rfl) rfl #[.pointer (some ⟨gb144, 0, none⟩)] rfl (by (try simp only [List.map_toArray, List.map_cons, List.map_nil]); first | done | rfl | (simp only [List.length_drop, List.length_take]; rfl)) ?_; (with_reducible refine (spec_ReadBay_bay.calls k2 gb144 x145000_2 (IntKind.i8.wrap ((wrap64 ((t139.length : Int) - 1)))) x145002_2 false w _ (by (with_reducible repeat (first | refine blk_drewN ?_ _ | refine blk_drew ?_ | refine blk_alloc ?_ _)); exact BK144.out) GE144.out (by repeat (first | (with_reducible first | exact HB.out | apply below_alloc | apply pw_below_drewN | apply below_drew1) | exact HB.out)) A47.out).mono ?_); rintro e w57 ⟨rfl, hb⟩; refine ⟨_, rfl, ?_⟩; have n0_ := Aside0.mk (Kd.R_below (by (with_reducible repeat (first | apply Kd.R_alloc | apply Kd.R_drewN | apply Kd.R_drew)); exact HO_4.out) hb); have n1_ := Aside0.mk (blk_below (g := gb138) (o := .cells (csBay x139000_2 x139001_2 x139002_2) 28 (0, 0)) (by (with_reducible repeat (first | refine blk_drewN ?_ _ | refine blk_drew ?_ | refine blk_alloc ?_ _)); exact BK138.out) hb); have n2_ := Aside0.mk (blk_below (g := gb144) (o := .cells (csBay x145000_2 (IntKind.i8.wrap ((wrap64 ((t139.length : Int) - 1)))) x145002_2) 28 (0, 0)) (by (with_reducible repeat (first | refine blk_drewN ?_ _ | refine blk_drew ?_ | refine blk_alloc ?_ _)); exact BK144.out) hb); have n3_ := Aside0.mk (below_step (by repeat (first | (with_reducible first | exact HB.out | apply below_alloc | apply pw_below_drewN | apply below_drew1 | refine below_set ?_ GE138.out | refine below_set ?_ GE144.out | refine below_row ?_ GE138.out _ | refine below_row ?_ GE144.out _) | exact HB.out)) hb); clear HO_4; clear BK138; clear BK144; clear HB; have HO_4 := n0_; have BK138 := n1_; have BK144 := n2_; have HB := n3_; clear n0_ n1_ n2_ n3_; (try clear hb); (try clear hb2); (try clear hk); (try clear hi); have hcz58_0 : w57.cell? ⟨gb138, 0, none⟩ = some (.int .i8 x139000_2) := (blk_cell BK138.out 0).trans rfl; have hcz58_1 : w57.cell? ⟨gb138, 1, none⟩ = some (.int .i8 x139001_2) := (blk_cell BK138.out 1).trans rfl; have hwz58 := lv28_at BK138.out; have haz58 := at_cells BK138.out; have hyz58 := BayAt28_of BK138.out; have hvz58 := lvv_of BK138.out; have hzz58 := fun q_ => blk_frozen BK138.out q_; have hfz58_0 := blk_frozen BK138.out 0; have hfz58_1 := blk_frozen BK138.out 1; have hfz58_2 := blk_frozen BK138.out 2) | ((with_reducible refine gate_store (t := 28) (p := 2) rfl ?_); refine bay_event (T := 28) (p := 2) (v := ?vo_w59) (g := gb138) (a1 := 0) (b1 := 0) (d1 := (fun _ => 0 : Nat → Int)) ?hg ?ho ?hn info28s ?hp ?hv (by (with_reducible repeat (first | refine blk_drewN ?_ _ | refine blk_drew ?_ | refine blk_alloc ?_ _)); exact BK138.out) ?_; (case ho => rfl); (case hg => rfl); (case hn => rfl); (case hp => rfl); (case hv => rfl); intro w59 hw; have n0_ : Aside0 (Kd.R Kd.string 9 w59 w.heap.size (fun _ => True) (.slice Ao6 t139.length co6) t139) := ⟨(by rw [hw]; exact (by (with_reducible repeat (first | apply Kd.R_alloc | apply Kd.R_drewN | apply Kd.R_drew)); exact Kd.R_mono (Kd.R_keep (Kd.R_types HO_4.out BK138.out (by decide)) (setRow_keep _ _ _) (fun _ hk => hk.2)) (fun _ hk => trivial)))⟩; have n1_ : Aside0 (w59.heap[gb138]? = some (.cells (csBay 0 0 (fun _ => 0 : Nat → Int)) 28 (0, 0))) := ⟨(by rw [hw]; exact (by (with_reducible repeat (first | refine blk_drewN ?_ _ | refine blk_drew ?_ | refine blk_alloc ?_ _)); refine blk_row (old := (csBay x139000_2 x139001_2 x139002_2)) ?_ _; (with_reducible repeat (first | refine blk_drewN ?_ _ | refine blk_drew ?_ | refine blk_alloc ?_ _)); exact BK138.out))⟩; have n2_ : Aside0 (w59.heap[gb144]? = some (.cells (csBay x145000_2 (IntKind.i8.wrap ((wrap64 ((t139.length : Int) - 1)))) x145002_2) 28 (0, 0))) := ⟨(by rw [hw]; exact (by (with_reducible repeat (first | refine blk_drewN ?_ _ | refine blk_drew ?_ | refine blk_alloc ?_ _)); refine blk_row_far ?_ NB144_138.out _; (with_reducible repeat (first | refine blk_drewN ?_ _ | refine blk_drew ?_ | refine blk_alloc ?_ _)); exact BK144.out))⟩; have n3_ : Aside0 (Below w.heap.size w w59) := ⟨(by rw [hw]; exact (by repeat (first | (with_reducible first | exact HB.out | apply below_alloc | apply pw_below_drewN | apply below_drew1 | refine below_set ?_ GE138.out | refine below_set ?_ GE144.out | refine below_row ?_ GE138.out _ | refine below_row ?_ GE144.out _) | exact HB.out)))⟩; clear hw; clear HO_4; clear BK138; clear BK144; clear HB; have HO_4 := n0_; have BK138 := n1_; have BK144 := n2_; have HB := n3_; clear n0_ n1_ n2_ n3_))
                refine bodyPost_ret (results_ct rfl _ _ gb138 28 (csBay 0 0 (fun _ => 0 : Nat → Int)) (0, 0) _ rfl (by (with_reducible repeat (first | refine blk_drewN ?_ _ | refine blk_drew ?_ | refine blk_alloc ?_ _)); exact BK138.out) Tryd.underlying28 rfl (by kernel_rfl)) rfl ?_
                exact ⟨by first | rfl | (simp [errW_none, errW_some] <;> rfl) | (simp [*, errW_none, errW_some] <;> rfl), by repeat (first | (with_reducible first | exact HB.out | apply below_alloc | apply pw_below_drewN | apply below_drew1 | refine below_set ?_ GE138.out | refine below_set ?_ GE144.out | refine below_row ?_ GE138.out _ | refine below_row ?_ GE144.out _) | exact HB.out)⟩

/-! ### impl_ValidBay: function 25 -/
def impl_ValidBay.f (a0_0 : Int) (a0_1 : Int) (a0_2 : (Nat → Int)) : Option (Bool) := some (decide (Go.Proofs.YteffdjfiialdfaaDoor.BayIn.okBay a0_0 a0_1 a0_2))
theorem impl_ValidBay.calls (a0_0 : Int) (a0_1 : Int) (a0_2 : (Nat → Int)) (r : Bool) (w : World) (h : impl_ValidBay.f a0_0 a0_1 a0_2 = some r) :
    Calls Tryd.prog 25 #[.agg (csBay a0_0 a0_1 a0_2)] w fun e w' => e = .returned (.bool r) ∧ Below w.heap.size w w' := by
  obtain rfl := Option.some.inj h
  exact Go.Proofs.YteffdjfiialdfaaDoor.BayIn.validBay_calls _ _ _ w

/-! ### strings_Split: function 38 -/
def strings_Split.f (a0 : ByteArray) (a1 : ByteArray) : Option (List ByteArray) := if a0.size < 4294967281 ∧ 1 ≤ a1.size then some (Go.Lib.splitB a1 0 (Go.Lib.countB a0 a1) a0) else none
theorem strings_Split.calls (a0 : ByteArray) (a1 : ByteArray) (r : List ByteArray) (w : World) (h : strings_Split.f a0 a1 = some r) (htb : Go.Proofs.YteffdjfiialdfaaDoor.Shelf.TBb w) :
    Calls Tryd.prog 38 #[.string a0, .string a1] w fun e w' => ∃ v0_ : Value, e = .returned (v0_) ∧ Kd.R Kd.string 9 w' w.heap.size (fun _ => True) v0_ r ∧ Below w.heap.size w w' :=
  Go.Proofs.YteffdjfiialdfaaDoor.Shelf.split_calls a0 a1 r w h htb

/-! ### impl_linesOf: function 37 -/
def impl_linesOf.f (a0 : ByteArray) : Option (List ByteArray × Bool) := if a0.toList = ([] : List UInt8) then some (([] : List ByteArray), true) else if a0.size < 4294967281 then some ((Go.Lib.splitB (⟨#[10]⟩ : ByteArray) 0 (Go.Lib.countB a0 (⟨#[10]⟩ : ByteArray)) a0).take (Go.Lib.countB a0 (⟨#[10]⟩ : ByteArray)), ((rdOf ByteArray.empty (Go.Lib.splitB (⟨#[10]⟩ : ByteArray) 0 (Go.Lib.countB a0 (⟨#[10]⟩ : ByteArray)) a0) (Go.Lib.countB a0 (⟨#[10]⟩ : ByteArray) : Int)).toList == ([] : List UInt8))) else none
theorem impl_linesOf.calls (a0 : ByteArray) (r1 : List ByteArray) (r2 : Bool) (w : World) (h : impl_linesOf.f a0 = some (r1, r2)) (htb : Go.Proofs.YteffdjfiialdfaaDoor.Shelf.TBb w) :
    Calls Tryd.prog 37 #[.string a0] w fun e w' => ∃ v0_ : Value, e = .returned (.tuple #[v0_, .bool r2]) ∧ Kd.R Kd.string 9 w' w.heap.size (fun _ => True) v0_ r1 ∧ Below w.heap.size w w' :=
  Go.Proofs.YteffdjfiialdfaaDoor.Lines.lines_calls a0 r1 r2 w h htb

end Go.Proofs.YteffdjfiialdfaaDoor.PFnExactReadBay
