-- Written by a program out of this seat's translation (functions, and that the code comes to them).
import Derived.Test.YteffdjfiialdfaaDoorPFnExactReadBayx0
namespace Go.Proofs.YteffdjfiialdfaaDoor.PFnExactReadBay
open Go.RowKit Go.Proofs.YteffdjfiialdfaaDoorW.PrintWords Go.Proofs.YteffdjfiialdfaaDoorW.PrintLast Go.Proofs.YteffdjfiialdfaaDoorW.PrintMore
attribute [local go_sem] max2_int min2_int max_two min_two max_three min_three max_four min_four   -- for this text's walks alone
open Go.Proofs.YteffdjfiialdfaaDoor.Bay
attribute [local go_sem ↓] lv26_eq al26_eq bd26_eq lv28_eq al28_eq bd28_eq
attribute [local go_sem] lvv_set lvv_drewN lvv_drew lv26_run BayAt26_set BayAt26_drewN BayAt26_drew al26_run bd26_run0 bd26_run1 bd26_run2 lv28_run BayAt28_set BayAt28_drewN BayAt28_drew al28_run bd28_run0 bd28_run1 bd28_run2
set_option linter.unusedVariables false
set_option linter.unusedSimpArgs false

/-! ### spec_l00In: function 35 -/
def spec_l00In.f (a0 : Int) (a1 : Int) (a2 : Int) : Option (Bool) := if a0 ≥ a1 then (some (decide (a0 ≤ a2))) else (some false)
set_option maxHeartbeats 8000000 in
set_option maxRecDepth 100000 in
theorem spec_l00In.calls (a0 : Int) (a1 : Int) (a2 : Int) (r : Bool) (w : World) (h : spec_l00In.f a0 a1 a2 = some r) :
    Calls Tryd.prog 35 #[.int .i64 a0, .int .i64 a1, .int .i64 a2] w fun e w' => e = .returned (.bool r) ∧ Drawn0 w w' := by
  have H : (if a0 ≥ a1 then (some (decide (a0 ≤ a2))) else (some false)) = some r := h
  clear h
  by_cases c4 : a0 ≥ a1
  · rw [if_pos c4] at H
    have c4b0 : decide (a1 ≤ a0) = true := decide_eq_true c4
    clear c4
    obtain rfl := Option.some.inj H
    go_enter Tryd.func35, Tryd.ntmps35
    go_wp2
    go_ret
    exact ⟨by first | rfl | (simp; done) | (simp [*]; done), by repeat (first | exact Drawn0.refl _ | apply Drawn0.step)⟩
  · rw [if_neg c4] at H
    have c4b0 : decide (a1 ≤ a0) = false := decide_eq_false c4
    clear c4
    obtain rfl := Option.some.inj H
    go_enter Tryd.func35, Tryd.ntmps35
    go_wp2
    go_ret
    exact ⟨by first | rfl | (simp; done) | (simp [*]; done), by repeat (first | exact Drawn0.refl _ | apply Drawn0.step)⟩

/-- A state of type 28 at block g of W; what its slices lead to came in by w0. -/
def IsS28 (w0 W : World) (g : Nat) (f0 : Int) (f1 : Int) (f2 : (Nat → Int)) : Prop := W.heap[g]? = some (.cells (csBay f0 f1 f2) 28 (0, 0)) ∧ w0.heap.size ≤ g
theorem IsS28.grown {w0 W : World} {g : Nat} {f0 : Int} {f1 : Int} {f2 : (Nat → Int)} {W1 : World} {row : Option Nat} (h : IsS28 w0 W g f0 f1 f2) (hw : W.grownBy W1 row) (hne : some g ≠ row) : IsS28 w0 W1 g f0 f1 f2 := by
  obtain ⟨hb, hg⟩ := h
  exact ⟨blk_grown hb hw hne, hg⟩
theorem IsS28.own_neN {w0 W : World} {g : Nat} {f0 : Int} {f1 : Int} {f2 : (Nat → Int)} {α : Type} {d : Kd α} {e : Nat} {base : Nat} {ok : Nat → Prop} {v : Value} {xs : List α} (h : IsS28 w0 W g f0 f1 f2) (ho : Kd.N d e W base ok v xs) (ht : e ≠ 28) : some g ≠ v.ownBlock := by
  obtain ⟨hb, hg⟩ := h
  exact Kd.N_ne ho hb ht
theorem IsS28.fresh {w0 W : World} {g : Nat} {f0 : Int} {f1 : Int} {f2 : (Nat → Int)} (h : IsS28 w0 W g f0 f1 f2) : ∀ k, W.heap.size ≤ k → k ≠ g := by
  obtain ⟨hb, hg⟩ := h
  exact Kd.freshB hb
theorem IsS28.kept {w0 W : World} {g : Nat} {f0 : Int} {f1 : Int} {f2 : (Nat → Int)} {W1 : World} {S : Nat → Prop} (h : IsS28 w0 W g f0 f1 f2) (hk : Kept W W1 S) (hne : ¬ S g) : IsS28 w0 W1 g f0 f1 f2 := by
  obtain ⟨hb, hg⟩ := h
  exact ⟨blk_kept hb hk hne, hg⟩
theorem IsS28.below {w0 W : World} {g : Nat} {f0 : Int} {f1 : Int} {f2 : (Nat → Int)} {W1 : World} (h : IsS28 w0 W g f0 f1 f2) (hw : Below W.heap.size W W1) : IsS28 w0 W1 g f0 f1 f2 := h.grown (grown_of_below hw none) (by simp)
theorem IsS28.alloc {w0 W : World} {g : Nat} {f0 : Int} {f1 : Int} {f2 : (Nat → Int)} (h : IsS28 w0 W g f0 f1 f2) (o : Obj) : IsS28 w0 (W.alloc o) g f0 f1 f2 := h.below (below_alloc (Below.refl _ _) o)
theorem IsS28.drewN {w0 W : World} {g : Nat} {f0 : Int} {f1 : Int} {f2 : (Nat → Int)} (h : IsS28 w0 W g f0 f1 f2) (m : Nat) : IsS28 w0 (W.drewN m) g f0 f1 f2 := h
theorem IsS28.drew {w0 W : World} {g : Nat} {f0 : Int} {f1 : Int} {f2 : (Nat → Int)} (h : IsS28 w0 W g f0 f1 f2) : IsS28 w0 W.drew g f0 f1 f2 := h
theorem IsS28.at_ {w0 W : World} {g : Nat} {f0 : Int} {f1 : Int} {f2 : (Nat → Int)} {w' : World} {m : Nat} (hq : W.drewN m = w') (h : IsS28 w0 W g f0 f1 f2) : IsS28 w0 w' g f0 f1 f2 := by subst hq; exact IsS28.drewN h m
theorem IsS28.apart {w0 W : World} {g : Nat} {f0 : Int} {f1 : Int} {f2 : (Nat → Int)} {α : Type} {d : Kd α} {e : Nat} {base : Nat} {ok : Nat → Prop} {v : Value} {xs : List α} (h : IsS28 w0 W g f0 f1 f2) (ho : d.R e W base ok v xs) (ht : ∀ q, q ∈ e :: d.E → q ≠ 28) : d.R e W base (fun k => ok k ∧ k ≠ g) v xs := by
  obtain ⟨hb, hg⟩ := h
  exact Kd.R_types ho hb ht
theorem IsS28.own_ne {w0 W : World} {g : Nat} {f0 : Int} {f1 : Int} {f2 : (Nat → Int)} {α : Type} {d : Kd α} {e : Nat} {base : Nat} {ok : Nat → Prop} {v : Value} {xs : List α} (h : IsS28 w0 W g f0 f1 f2) (ho : d.R e W base ok v xs) (ht : e ≠ 28) : some g ≠ v.ownBlock := by
  obtain ⟨hb, hg⟩ := h
  exact Kd.R_ne ho hb ht
theorem IsS28.apartQ {w0 W : World} {g : Nat} {f0 : Int} {f1 : Int} {f2 : (Nat → Int)} {α : Type} {d : Kd α} {e : Nat} {base : Nat} {ok : Nat → Prop} {v : Value} {xs : List α} (h : IsS28 w0 W g f0 f1 f2) (ho : d.Q e W base ok v xs) (ht : ∀ q, q ∈ e :: d.E → q ≠ 28) : d.Q e W base (fun k => ok k ∧ k ≠ g) v xs := by
  obtain ⟨hb, hg⟩ := h
  exact Kd.Q_types ho hb ht
theorem IsS28.own_neQ {w0 W : World} {g : Nat} {f0 : Int} {f1 : Int} {f2 : (Nat → Int)} {α : Type} {d : Kd α} {e : Nat} {base : Nat} {ok : Nat → Prop} {v : Value} {xs : List α} (h : IsS28 w0 W g f0 f1 f2) (ho : d.Q e W base ok v xs) (ht : e ≠ 28) : some g ≠ v.ownBlock := by
  obtain ⟨hb, hg⟩ := h
  exact Kd.Q_ne ho hb ht
theorem IsS28.apartS {w0 W : World} {g : Nat} {f0 : Int} {f1 : Int} {f2 : (Nat → Int)} {α : Type} {d : Kd α} {e : Nat} {base : Nat} {ok : Nat → Prop} {v : Value} {xs : List α} (h : IsS28 w0 W g f0 f1 f2) (ho : d.S e W base ok v xs) (ht : ∀ q, q ∈ e :: d.E → q ≠ 28) : d.S e W base (fun k => ok k ∧ k ≠ g) v xs := by
  obtain ⟨hb, hg⟩ := h
  exact Kd.S_types ho hb ht
theorem IsS28.own_neS {w0 W : World} {g : Nat} {f0 : Int} {f1 : Int} {f2 : (Nat → Int)} {α : Type} {d : Kd α} {e : Nat} {base : Nat} {ok : Nat → Prop} {v : Value} {xs : List α} (h : IsS28 w0 W g f0 f1 f2) (ho : d.S e W base ok v xs) (ht : e ≠ 28) : some g ≠ v.ownBlock := by
  obtain ⟨hb, hg⟩ := h
  exact Kd.S_ne ho hb ht
theorem IsS28.lt {w0 W : World} {g : Nat} {f0 : Int} {f1 : Int} {f2 : (Nat → Int)} (h : IsS28 w0 W g f0 f1 f2) : g < W.heap.size := by
  obtain ⟨hb, hg⟩ := h
  exact blk_lt hb
theorem IsS28.ge {w0 W : World} {g : Nat} {f0 : Int} {f1 : Int} {f2 : (Nat → Int)} (h : IsS28 w0 W g f0 f1 f2) : w0.heap.size ≤ g := by
  obtain ⟨hb, hg⟩ := h
  exact hg
theorem IsS28.ne_blk {w0 W : World} {g : Nat} {f0 : Int} {f1 : Int} {f2 : (Nat → Int)} {a : Nat} {cs : Array Value} {t : TypeId} {fr : Nat × Nat} (h : IsS28 w0 W g f0 f1 f2) (hb2 : W.heap[a]? = some (.cells cs t fr)) (ht : t ≠ 28) : g ≠ a := by
  obtain ⟨hb, hg⟩ := h
  rintro rfl
  rw [hb] at hb2
  injection hb2 with hb2
  injection hb2 with _ ht2
  exact ht ht2.symm
theorem IsS28.far {w0 W : World} {g : Nat} {f0 : Int} {f1 : Int} {f2 : (Nat → Int)} {p : Addr} (h : IsS28 w0 W g f0 f1 f2) (hne : g ≠ p.block) (u : Value) : IsS28 w0 (W.setCell p u) g f0 f1 f2 := by
  obtain ⟨hb, hg⟩ := h
  exact ⟨blk_far hb hne u, hg⟩
theorem cellS28_0 {W : World} {g : Nat} {f0 : Int} {f1 : Int} {f2 : (Nat → Int)} (h : W.heap[g]? = some (.cells (csBay f0 f1 f2) 28 (0, 0))) : W.cell? ⟨g, 0, none⟩ = some (.int .i8 f0) := (blk_cell h 0).trans rfl
theorem cellS28_1 {W : World} {g : Nat} {f0 : Int} {f1 : Int} {f2 : (Nat → Int)} (h : W.heap[g]? = some (.cells (csBay f0 f1 f2) 28 (0, 0))) : W.cell? ⟨g, 1, none⟩ = some (.int .i8 f1) := (blk_cell h 1).trans rfl
theorem IsS28.row_far {w0 W : World} {g : Nat} {f0 : Int} {f1 : Int} {f2 : (Nat → Int)} {g2 : Nat} (h : IsS28 w0 W g f0 f1 f2) (hne : g ≠ g2) (u : Array Value) : IsS28 w0 (W.setRow g2 u) g f0 f1 f2 := by
  obtain ⟨hb, hg⟩ := h
  exact ⟨blk_row_far hb hne u, hg⟩
theorem IsS28.setD {w0 W : World} {g : Nat} {f0 : Int} {f1 : Int} {f2 : (Nat → Int)} (h : IsS28 w0 W g f0 f1 f2) {jj kk : Int} (h1 : decide (0 ≤ jj) = true) (h2 : decide (jj < 16) = true) (h3 : decide (0 ≤ kk) = true) (h4 : decide (kk < 16) = true) (x : Int) : IsS28 w0 (W.setCell ⟨g, 2 + jj.toNat * 16 + kk.toNat, none⟩ (.int .i8 x)) g f0 f1 (setD f2 (16 * jj.toNat + kk.toNat) x) := by
  obtain ⟨hb, hg⟩ := h
  exact ⟨blk_setD hb h1 h2 h3 h4 x, hg⟩
theorem IsS28.row {w0 W : World} {g : Nat} {f0 : Int} {f1 : Int} {f2 : (Nat → Int)} (h : IsS28 w0 W g f0 f1 f2) (x y : Int) (z : Nat → Int) : IsS28 w0 (W.setRow g (csBay x y z)) g x y z := by
  obtain ⟨hb, hg⟩ := h
  exact ⟨blk_row hb _, hg⟩
theorem IsS28.blk {w0 W : World} {g : Nat} {f0 : Int} {f1 : Int} {f2 : (Nat → Int)} (h : IsS28 w0 W g f0 f1 f2) : W.heap[g]? = some (.cells (csBay f0 f1 f2) 28 (0, 0)) := by
  obtain ⟨hb, hg⟩ := h
  exact hb
theorem IsS28.set_0 {w0 W : World} {g : Nat} {f0 : Int} {f1 : Int} {f2 : (Nat → Int)} (h : IsS28 w0 W g f0 f1 f2) (x : Int) : IsS28 w0 (W.setCell ⟨g, 0, none⟩ (.int .i8 x)) g x f1 f2 := by
  obtain ⟨hb, hg⟩ := h
  exact ⟨blk_put hb 0 (.int .i8 x) (Go.Proofs.YteffdjfiialdfaaDoor.Bay.set_0 _ _ _ _), hg⟩
theorem IsS28.set_1 {w0 W : World} {g : Nat} {f0 : Int} {f1 : Int} {f2 : (Nat → Int)} (h : IsS28 w0 W g f0 f1 f2) (x : Int) : IsS28 w0 (W.setCell ⟨g, 1, none⟩ (.int .i8 x)) g f0 x f2 := by
  obtain ⟨hb, hg⟩ := h
  exact ⟨blk_put hb 1 (.int .i8 x) (Go.Proofs.YteffdjfiialdfaaDoor.Bay.set_1 _ _ _ _), hg⟩
theorem IsS28.new (w0 W : World) (f0 : Int) (f1 : Int) (f2 : (Nat → Int)) (hB : Below w0.heap.size w0 W) : IsS28 w0 (W.alloc (.cells (csBay f0 f1 f2) 28)) W.heap.size f0 f1 f2 := ⟨by simpa using heap_alloc_new W _, hB.size⟩

/-! ### spec_l01Is: function 45 -/
def spec_l01Is.f (s0_0 : Int) (s0_1 : Int) (s0_2 : (Nat → Int)) (a1_0 : Int) (a1_1 : Int) : Option (Bool × Int × Int × (Nat → Int)) := (spec_l00In.f (wrap64 (a1_0)) 0 (wrap64 ((wrap64 (s0_0)) - 1))).bind fun t102 => (if t102 = true then ((spec_l00In.f (wrap64 (a1_1)) 0 (wrap64 ((wrap64 (s0_1)) - 1))).bind fun t103 => (some (t103, s0_0, s0_1, s0_2))) else (some (false, s0_0, s0_1, s0_2)))
set_option maxHeartbeats 8000000 in
set_option maxRecDepth 100000 in
theorem spec_l01Is.calls (g : Nat) (s0_0 : Int) (s0_1 : Int) (s0_2 : (Nat → Int)) (a1_0 : Int) (a1_1 : Int) (r1 : Bool) (r2 : Int) (r3 : Int) (r4 : (Nat → Int)) (w0 w : World) (hI : IsS28 w0 w g s0_0 s0_1 s0_2) (hB : Below w0.heap.size w0 w) (h : spec_l01Is.f s0_0 s0_1 s0_2 a1_0 a1_1 = some (r1, r2, r3, r4)) :
    Calls Tryd.prog 45 #[.pointer (some ⟨g, 0, none⟩), .agg #[.int .i8 a1_0, .int .i8 a1_1]] w fun e w' => e = .returned (.bool r1) ∧ IsS28 w0 w' g r2 r3 r4 ∧ Below w0.heap.size w0 w' ∧ KeepBut w w' g none := by
  have hu57 := Tryd.underlying57
  have HI0 := Aside0.mk hI
  have HK := Aside0.mk (KeepBut.refl w g none)
  have HL := Aside0.mk hB.size
  clear hI
  have HW0 := Aside0.mk hB.size
  have HB := Aside0.mk hB
  clear hB
  have H : ((spec_l00In.f (wrap64 (a1_0)) 0 (wrap64 ((wrap64 (s0_0)) - 1))).bind fun t102 => (if t102 = true then ((spec_l00In.f (wrap64 (a1_1)) 0 (wrap64 ((wrap64 (s0_1)) - 1))).bind fun t103 => (some (t103, s0_0, s0_1, s0_2))) else (some (false, s0_0, s0_1, s0_2)))) = some (r1, r2, r3, r4) := h
  clear h
  replace H := Option.bind_eq_some_iff.mp H
  obtain ⟨t102, A30, H⟩ := H
  replace H : (if t102 = true then ((spec_l00In.f (wrap64 (a1_1)) 0 (wrap64 ((wrap64 (s0_1)) - 1))).bind fun t103 => (some (t103, s0_0, s0_1, s0_2))) else (some (false, s0_0, s0_1, s0_2))) = some (r1, r2, r3, r4) := H
  have A3 := Aside0.mk A30
  clear A30
  by_cases c4 : t102 = true
  · subst c4
    have H1 : ((spec_l00In.f (wrap64 (a1_1)) 0 (wrap64 ((wrap64 (s0_1)) - 1))).bind fun t103 => (some (t103, s0_0, s0_1, s0_2))) = some (r1, r2, r3, r4) := by rw [if_pos rfl] at H; exact H
    clear H
    have H := H1
    clear H1
    replace H := Option.bind_eq_some_iff.mp H
    obtain ⟨t103, A50, H⟩ := H
    replace H : (some (t103, s0_0, s0_1, s0_2)) = some (r1, r2, r3, r4) := H
    have A5 := Aside0.mk A50
    clear A50
    simp only [Option.some.injEq, Prod.mk.injEq] at H
    obtain ⟨rfl, rfl, rfl, rfl⟩ := H
    go_enter Tryd.func45, Tryd.ntmps45
    go_wp2_with (first | ((with_reducible refine gate_dst (N := 3) rfl ?_); refine box_event ?hg (N := 3) ?hd (cs := #[.int .i8 a1_0, .int .i8 a1_1]) (t := 57) ?hr ?_; (case hd => rfl); (case hg => rfl); (case hr => first | (go_simp; done) | (go_simp; rfl)); intro gb101 hg w6 hbox hb; have n0_ := Aside0.mk (IsS28.below (by repeat (first | (with_reducible first | exact HI0.out | apply IsS28.alloc | apply IsS28.drewN | apply IsS28.drew | refine IsS28.setD ?_ (by first | (with_reducible assumption) | (with_unfolding_all decide)) (by first | (with_reducible assumption) | (with_unfolding_all decide)) (by first | (with_reducible assumption) | (with_unfolding_all decide)) (by first | (with_reducible assumption) | (with_unfolding_all decide)) _ | apply IsS28.row | apply IsS28.set_0 | apply IsS28.set_1) | exact HI0.out)) hb); have n1_ := Aside0.mk (KeepBut.trans (by repeat (first | (with_reducible first | exact HK.out | apply KeepBut.set_ | apply keep_drewN | apply keep_drew | apply keep_alloc | apply keep_row) | exact HK.out)) (KeepBut.of_below hb g none) (.inl rfl)); have n2_ := Aside0.mk (below_step (by repeat (first | (with_reducible first | exact HB.out | apply below_alloc | apply pw_below_drewN | apply below_drew1 | refine below_set ?_ (IsS28.ge HI0.out) | refine below_row ?_ (IsS28.ge HI0.out) _) | exact HB.out)) hb); have n3_ := Aside0.mk (hbox); have n4_ := Aside0.mk ((by rw [hg]; exact (keep_size (w := w) (g := g) (row := none) (by repeat (first | (with_reducible first | exact HK.out | apply KeepBut.set_ | apply keep_drewN | apply keep_drew | apply keep_alloc | apply keep_row) | exact HK.out))) : w.heap.size ≤ gb101)); have n5_ := Aside0.mk ((Nat.le_trans HW0.out (by rw [hg]; exact (keep_size (w := w) (g := g) (row := none) (by repeat (first | (with_reducible first | exact HK.out | apply KeepBut.set_ | apply keep_drewN | apply keep_drew | apply keep_alloc | apply keep_row) | exact HK.out))) : w.heap.size ≤ gb101) : w0.heap.size ≤ gb101)); have n6_ := Aside0.mk ((by rw [hg]; exact Nat.ne_of_lt (IsS28.lt (show IsS28 w0 _ g s0_0 s0_1 s0_2 from by repeat (first | (with_reducible first | exact HI0.out | apply IsS28.alloc | apply IsS28.drewN | apply IsS28.drew | refine IsS28.setD ?_ (by first | (with_reducible assumption) | (with_unfolding_all decide)) (by first | (with_reducible assumption) | (with_unfolding_all decide)) (by first | (with_reducible assumption) | (with_unfolding_all decide)) (by first | (with_reducible assumption) | (with_unfolding_all decide)) _ | apply IsS28.row | apply IsS28.set_0 | apply IsS28.set_1) | exact HI0.out))) : g ≠ gb101)); have n7_ := Aside0.mk ((by rw [hg]; exact Nat.ne_of_gt (IsS28.lt (show IsS28 w0 _ g s0_0 s0_1 s0_2 from by repeat (first | (with_reducible first | exact HI0.out | apply IsS28.alloc | apply IsS28.drewN | apply IsS28.drew | refine IsS28.setD ?_ (by first | (with_reducible assumption) | (with_unfolding_all decide)) (by first | (with_reducible assumption) | (with_unfolding_all decide)) (by first | (with_reducible assumption) | (with_unfolding_all decide)) (by first | (with_reducible assumption) | (with_unfolding_all decide)) _ | apply IsS28.row | apply IsS28.set_0 | apply IsS28.set_1) | exact HI0.out))) : gb101 ≠ g)); clear HI0; clear HK; clear HB; have HI0 := n0_; have HK := n1_; have HB := n2_; have BK101 := n3_; have GW101 := n4_; have GE101 := n5_; have NB0_101 := n6_; have NB101_0 := n7_; clear n0_ n1_ n2_ n3_ n4_ n5_ n6_ n7_; clear hb hbox hg; have hnb7 := NB101_0.out; have hnc7 := NB0_101.out; have hcz8_0 : w6.cell? ⟨gb101, 0, none⟩ = some (.int .i8 a1_0) := (blk_cell BK101.out 0).trans rfl; have hcz8_1 : w6.cell? ⟨gb101, 1, none⟩ = some (.int .i8 a1_1) := (blk_cell BK101.out 1).trans rfl; have hfz8_0 := blk_frozen BK101.out 0; have hfz8_1 := blk_frozen BK101.out 1; obtain ⟨HGz9, hgz9⟩ := HI0.out; have hcz9_0 := cellS28_0 HGz9; have hcz9_1 := cellS28_1 HGz9; have hwz9 := lv28_at HGz9; have haz9 := at_cells HGz9; have hyz9 := BayAt28_of HGz9; have hvz9 := lvv_of HGz9; have hzz9 := fun q_ => blk_frozen HGz9 q_; have hfz9_0 := blk_frozen HGz9 0; have hfz9_1 := blk_frozen HGz9 1; have hfz9_2 := blk_frozen HGz9 2; clear HGz9 hgz9) | (go_at_call 35; (with_reducible refine (spec_l00In.calls (wrap64 (a1_0)) 0 (wrap64 ((wrap64 (s0_0)) - 1)) true _ A3.out).mono ?_); rintro e w' ⟨rfl, ⟨nd, rfl⟩⟩; (try first | exact ⟨rfl, _, World.drewN_drewN _ _ _⟩ | exact ⟨rfl, _, Eq.trans (World.drewN_drewN _ _ _) (congrArg (World.drewN _) (Nat.add_assoc _ _ _))⟩)) | (go_at_call 35; (with_reducible refine (spec_l00In.calls (wrap64 (a1_1)) 0 (wrap64 ((wrap64 (s0_1)) - 1)) t103 _ A5.out).mono ?_); rintro e w' ⟨rfl, ⟨nd, rfl⟩⟩; (try first | exact ⟨rfl, _, World.drewN_drewN _ _ _⟩ | exact ⟨rfl, _, Eq.trans (World.drewN_drewN _ _ _) (congrArg (World.drewN _) (Nat.add_assoc _ _ _))⟩)))
    repeat (go_quiet (first | ((with_reducible refine gate_dst (N := 3) rfl ?_); refine box_event ?hg (N := 3) ?hd (cs := #[.int .i8 a1_0, .int .i8 a1_1]) (t := 57) ?hr ?_; (case hd => rfl); (case hg => rfl); (case hr => first | (go_simp; done) | (go_simp; rfl)); intro gb101 hg w6 hbox hb; have n0_ := Aside0.mk (IsS28.below (by repeat (first | (with_reducible first | exact HI0.out | apply IsS28.alloc | apply IsS28.drewN | apply IsS28.drew | refine IsS28.setD ?_ (by first | (with_reducible assumption) | (with_unfolding_all decide)) (by first | (with_reducible assumption) | (with_unfolding_all decide)) (by first | (with_reducible assumption) | (with_unfolding_all decide)) (by first | (with_reducible assumption) | (with_unfolding_all decide)) _ | apply IsS28.row | apply IsS28.set_0 | apply IsS28.set_1) | exact HI0.out)) hb); have n1_ := Aside0.mk (KeepBut.trans (by repeat (first | (with_reducible first | exact HK.out | apply KeepBut.set_ | apply keep_drewN | apply keep_drew | apply keep_alloc | apply keep_row) | exact HK.out)) (KeepBut.of_below hb g none) (.inl rfl)); have n2_ := Aside0.mk (below_step (by repeat (first | (with_reducible first | exact HB.out | apply below_alloc | apply pw_below_drewN | apply below_drew1 | refine below_set ?_ (IsS28.ge HI0.out) | refine below_row ?_ (IsS28.ge HI0.out) _) | exact HB.out)) hb); have n3_ := Aside0.mk (hbox); have n4_ := Aside0.mk ((by rw [hg]; exact (keep_size (w := w) (g := g) (row := none) (by repeat (first | (with_reducible first | exact HK.out | apply KeepBut.set_ | apply keep_drewN | apply keep_drew | apply keep_alloc | apply keep_row) | exact HK.out))) : w.heap.size ≤ gb101)); have n5_ := Aside0.mk ((Nat.le_trans HW0.out (by rw [hg]; exact (keep_size (w := w) (g := g) (row := none) (by repeat (first | (with_reducible first | exact HK.out | apply KeepBut.set_ | apply keep_drewN | apply keep_drew | apply keep_alloc | apply keep_row) | exact HK.out))) : w.heap.size ≤ gb101) : w0.heap.size ≤ gb101)); have n6_ := Aside0.mk ((by rw [hg]; exact Nat.ne_of_lt (IsS28.lt (show IsS28 w0 _ g s0_0 s0_1 s0_2 from by repeat (first | (with_reducible first | exact HI0.out | apply IsS28.alloc | apply IsS28.drewN | apply IsS28.drew | refine IsS28.setD ?_ (by first | (with_reducible assumption) | (with_unfolding_all decide)) (by first | (with_reducible assumption) | (with_unfolding_all decide)) (by first | (with_reducible assumption) | (with_unfolding_all decide)) (by first | (with_reducible assumption) | (with_unfolding_all decide)) _ | apply IsS28.row | apply IsS28.set_0 | apply IsS28.set_1) | exact HI0.out))) : g ≠ gb101)); have n7_ := Aside0.mk ((by rw [hg]; exact Nat.ne_of_gt (IsS28.lt (show IsS28 w0 _ g s0_0 s0_1 s0_2 from by repeat (first | (with_reducible first | exact HI0.out | apply IsS28.alloc | apply IsS28.drewN | apply IsS28.drew | refine IsS28.setD ?_ (by first | (with_reducible assumption) | (with_unfolding_all decide)) (by first | (with_reducible assumption) | (with_unfolding_all decide)) (by first | (with_reducible assumption) | (with_unfolding_all decide)) (by first | (with_reducible assumption) | (with_unfolding_all decide)) _ | apply IsS28.row | apply IsS28.set_0 | apply IsS28.set_1) | exact HI0.out))) : gb101 ≠ g)); clear HI0; clear HK; clear HB; have HI0 := n0_; have HK := n1_; have HB := n2_; have BK101 := n3_; have GW101 := n4_; have GE101 := n5_; have NB0_101 := n6_; have NB101_0 := n7_; clear n0_ n1_ n2_ n3_ n4_ n5_ n6_ n7_; clear hb hbox hg; have hnb7 := NB101_0.out; have hnc7 := NB0_101.out; have hcz8_0 : w6.cell? ⟨gb101, 0, none⟩ = some (.int .i8 a1_0) := (blk_cell BK101.out 0).trans rfl; have hcz8_1 : w6.cell? ⟨gb101, 1, none⟩ = some (.int .i8 a1_1) := (blk_cell BK101.out 1).trans rfl; have hfz8_0 := blk_frozen BK101.out 0; have hfz8_1 := blk_frozen BK101.out 1; obtain ⟨HGz9, hgz9⟩ := HI0.out; have hcz9_0 := cellS28_0 HGz9; have hcz9_1 := cellS28_1 HGz9; have hwz9 := lv28_at HGz9; have haz9 := at_cells HGz9; have hyz9 := BayAt28_of HGz9; have hvz9 := lvv_of HGz9; have hzz9 := fun q_ => blk_frozen HGz9 q_; have hfz9_0 := blk_frozen HGz9 0; have hfz9_1 := blk_frozen HGz9 1; have hfz9_2 := blk_frozen HGz9 2; clear HGz9 hgz9) | (go_at_call 35; (with_reducible refine (spec_l00In.calls (wrap64 (a1_0)) 0 (wrap64 ((wrap64 (s0_0)) - 1)) true _ A3.out).mono ?_); rintro e w' ⟨rfl, ⟨nd, rfl⟩⟩; (try first | exact ⟨rfl, _, World.drewN_drewN _ _ _⟩ | exact ⟨rfl, _, Eq.trans (World.drewN_drewN _ _ _) (congrArg (World.drewN _) (Nat.add_assoc _ _ _))⟩)) | (go_at_call 35; (with_reducible refine (spec_l00In.calls (wrap64 (a1_1)) 0 (wrap64 ((wrap64 (s0_1)) - 1)) t103 _ A5.out).mono ?_); rintro e w' ⟨rfl, ⟨nd, rfl⟩⟩; (try first | exact ⟨rfl, _, World.drewN_drewN _ _ _⟩ | exact ⟨rfl, _, Eq.trans (World.drewN_drewN _ _ _) (congrArg (World.drewN _) (Nat.add_assoc _ _ _))⟩))); try go_wp2_with (first | ((with_reducible refine gate_dst (N := 3) rfl ?_); refine box_event ?hg (N := 3) ?hd (cs := #[.int .i8 a1_0, .int .i8 a1_1]) (t := 57) ?hr ?_; (case hd => rfl); (case hg => rfl); (case hr => first | (go_simp; done) | (go_simp; rfl)); intro gb101 hg w6 hbox hb; have n0_ := Aside0.mk (IsS28.below (by repeat (first | (with_reducible first | exact HI0.out | apply IsS28.alloc | apply IsS28.drewN | apply IsS28.drew | refine IsS28.setD ?_ (by first | (with_reducible assumption) | (with_unfolding_all decide)) (by first | (with_reducible assumption) | (with_unfolding_all decide)) (by first | (with_reducible assumption) | (with_unfolding_all decide)) (by first | (with_reducible assumption) | (with_unfolding_all decide)) _ | apply IsS28.row | apply IsS28.set_0 | apply IsS28.set_1) | exact HI0.out)) hb); have n1_ := Aside0.mk (KeepBut.trans (by repeat (first | (with_reducible first | exact HK.out | apply KeepBut.set_ | apply keep_drewN | apply keep_drew | apply keep_alloc | apply keep_row) | exact HK.out)) (KeepBut.of_below hb g none) (.inl rfl)); have n2_ := Aside0.mk (below_step (by repeat (first | (with_reducible first | exact HB.out | apply below_alloc | apply pw_below_drewN | apply below_drew1 | refine below_set ?_ (IsS28.ge HI0.out) | refine below_row ?_ (IsS28.ge HI0.out) _) | exact HB.out)) hb); have n3_ := Aside0.mk (hbox); have n4_ := Aside0.mk ((by rw [hg]; exact (keep_size (w := w) (g := g) (row := none) (by repeat (first | (with_reducible first | exact HK.out | apply KeepBut.set_ | apply keep_drewN | apply keep_drew | apply keep_alloc | apply keep_row) | exact HK.out))) : w.heap.size ≤ gb101)); have n5_ := Aside0.mk ((Nat.le_trans HW0.out (by rw [hg]; exact (keep_size (w := w) (g := g) (row := none) (by repeat (first | (with_reducible first | exact HK.out | apply KeepBut.set_ | apply keep_drewN | apply keep_drew | apply keep_alloc | apply keep_row) | exact HK.out))) : w.heap.size ≤ gb101) : w0.heap.size ≤ gb101)); have n6_ := Aside0.mk ((by rw [hg]; exact Nat.ne_of_lt (IsS28.lt (show IsS28 w0 _ g s0_0 s0_1 s0_2 from by repeat (first | (with_reducible first | exact HI0.out | apply IsS28.alloc | apply IsS28.drewN | apply IsS28.drew | refine IsS28.setD ?_ (by first | (with_reducible assumption) | (with_unfolding_all decide)) (by first | (with_reducible assumption) | (with_unfolding_all decide)) (by first | (with_reducible assumption) | (with_unfolding_all decide)) (by first | (with_reducible assumption) | (with_unfolding_all decide)) _ | apply IsS28.row | apply IsS28.set_0 | apply IsS28.set_1) | exact HI0.out))) : g ≠ gb101)); have n7_ := Aside0.mk ((by rw [hg]; exact Nat.ne_of_gt (IsS28.lt (show IsS28 w0 _ g s0_0 s0_1 s0_2 from by repeat (first | (with_reducible first | exact HI0.out | apply IsS28.alloc | apply IsS28.drewN | apply IsS28.drew | refine IsS28.setD ?_ (by first | (with_reducible assumption) | (with_unfolding_all decide)) (by first | (with_reducible assumption) | (with_unfolding_all decide)) (by first | (with_reducible assumption) | (with_unfolding_all decide)) (by first | (with_reducible assumption) | (with_unfolding_all decide)) _ | apply IsS28.row | apply IsS28.set_0 | apply IsS28.set_1) | exact HI0.out))) : gb101 ≠ g)); clear HI0; clear HK; clear HB; have HI0 := n0_; have HK := n1_; have HB := n2_; have BK101 := n3_; have GW101 := n4_; have GE101 := n5_; have NB0_101 := n6_; have NB101_0 := n7_; clear n0_ n1_ n2_ n3_ n4_ n5_ n6_ n7_; clear hb hbox hg; have hnb7 := NB101_0.out; have hnc7 := NB0_101.out; have hcz8_0 : w6.cell? ⟨gb101, 0, none⟩ = some (.int .i8 a1_0) := (blk_cell BK101.out 0).trans rfl; have hcz8_1 : w6.cell? ⟨gb101, 1, none⟩ = some (.int .i8 a1_1) := (blk_cell BK101.out 1).trans rfl; have hfz8_0 := blk_frozen BK101.out 0; have hfz8_1 := blk_frozen BK101.out 1; obtain ⟨HGz9, hgz9⟩ := HI0.out; have hcz9_0 := cellS28_0 HGz9; have hcz9_1 := cellS28_1 HGz9; have hwz9 := lv28_at HGz9; have haz9 := at_cells HGz9; have hyz9 := BayAt28_of HGz9; have hvz9 := lvv_of HGz9; have hzz9 := fun q_ => blk_frozen HGz9 q_; have hfz9_0 := blk_frozen HGz9 0; have hfz9_1 := blk_frozen HGz9 1; have hfz9_2 := blk_frozen HGz9 2; clear HGz9 hgz9) | (go_at_call 35; (with_reducible refine (spec_l00In.calls (wrap64 (a1_0)) 0 (wrap64 ((wrap64 (s0_0)) - 1)) true _ A3.out).mono ?_); rintro e w' ⟨rfl, ⟨nd, rfl⟩⟩; (try first | exact ⟨rfl, _, World.drewN_drewN _ _ _⟩ | exact ⟨rfl, _, Eq.trans (World.drewN_drewN _ _ _) (congrArg (World.drewN _) (Nat.add_assoc _ _ _))⟩)) | (go_at_call 35; (with_reducible refine (spec_l00In.calls (wrap64 (a1_1)) 0 (wrap64 ((wrap64 (s0_1)) - 1)) t103 _ A5.out).mono ?_); rintro e w' ⟨rfl, ⟨nd, rfl⟩⟩; (try first | exact ⟨rfl, _, World.drewN_drewN _ _ _⟩ | exact ⟨rfl, _, Eq.trans (World.drewN_drewN _ _ _) (congrArg (World.drewN _) (Nat.add_assoc _ _ _))⟩))))
    go_ret
    exact ⟨by first | rfl | (simp [errW_none, errW_some] <;> rfl) | (simp [*, errW_none, errW_some] <;> rfl), by repeat (first | (with_reducible first | exact HI0.out | apply IsS28.alloc | apply IsS28.drewN | apply IsS28.drew | refine IsS28.setD ?_ (by first | (with_reducible assumption) | (with_unfolding_all decide)) (by first | (with_reducible assumption) | (with_unfolding_all decide)) (by first | (with_reducible assumption) | (with_unfolding_all decide)) (by first | (with_reducible assumption) | (with_unfolding_all decide)) _ | apply IsS28.row | apply IsS28.set_0 | apply IsS28.set_1 | refine IsS28.row_far ?_ NB0_101.out _ | refine IsS28.far ?_ NB0_101.out _) | exact HI0.out), by repeat (first | (with_reducible first | exact HB.out | apply below_alloc | apply pw_below_drewN | apply below_drew1 | refine below_set ?_ (IsS28.ge HI0.out) | refine below_set ?_ GE101.out | refine below_row ?_ (IsS28.ge HI0.out) _ | refine below_row ?_ GE101.out _) | exact HB.out), by repeat (first | (with_reducible first | exact HK.out | apply KeepBut.set_ | apply keep_drewN | apply keep_drew | apply keep_alloc | refine keep_far ?_ GW101.out _ | apply keep_row | refine keep_row_far ?_ GW101.out _) | exact HK.out)⟩
  · replace c4 := Bool.eq_false_iff.mpr c4
    subst c4
    have H1 : (some (false, s0_0, s0_1, s0_2)) = some (r1, r2, r3, r4) := by rw [if_neg (show ¬ (false = true) by decide)] at H; exact H
    clear H
    have H := H1
    clear H1
    simp only [Option.some.injEq, Prod.mk.injEq] at H
    obtain ⟨rfl, rfl, rfl, rfl⟩ := H
    go_enter Tryd.func45, Tryd.ntmps45
    go_wp2_with (first | ((with_reducible refine gate_dst (N := 3) rfl ?_); refine box_event ?hg (N := 3) ?hd (cs := #[.int .i8 a1_0, .int .i8 a1_1]) (t := 57) ?hr ?_; (case hd => rfl); (case hg => rfl); (case hr => first | (go_simp; done) | (go_simp; rfl)); intro gb101 hg w10 hbox hb; have n0_ := Aside0.mk (IsS28.below (by repeat (first | (with_reducible first | exact HI0.out | apply IsS28.alloc | apply IsS28.drewN | apply IsS28.drew | refine IsS28.setD ?_ (by first | (with_reducible assumption) | (with_unfolding_all decide)) (by first | (with_reducible assumption) | (with_unfolding_all decide)) (by first | (with_reducible assumption) | (with_unfolding_all decide)) (by first | (with_reducible assumption) | (with_unfolding_all decide)) _ | apply IsS28.row | apply IsS28.set_0 | apply IsS28.set_1) | exact HI0.out)) hb); have n1_ := Aside0.mk (KeepBut.trans (by repeat (first | (with_reducible first | exact HK.out | apply KeepBut.set_ | apply keep_drewN | apply keep_drew | apply keep_alloc | apply keep_row) | exact HK.out)) (KeepBut.of_below hb g none) (.inl rfl)); have n2_ := Aside0.mk (below_step (by repeat (first | (with_reducible first | exact HB.out | apply below_alloc | apply pw_below_drewN | apply below_drew1 | refine below_set ?_ (IsS28.ge HI0.out) | refine below_row ?_ (IsS28.ge HI0.out) _) | exact HB.out)) hb); have n3_ := Aside0.mk (hbox); have n4_ := Aside0.mk ((by rw [hg]; exact (keep_size (w := w) (g := g) (row := none) (by repeat (first | (with_reducible first | exact HK.out | apply KeepBut.set_ | apply keep_drewN | apply keep_drew | apply keep_alloc | apply keep_row) | exact HK.out))) : w.heap.size ≤ gb101)); have n5_ := Aside0.mk ((Nat.le_trans HW0.out (by rw [hg]; exact (keep_size (w := w) (g := g) (row := none) (by repeat (first | (with_reducible first | exact HK.out | apply KeepBut.set_ | apply keep_drewN | apply keep_drew | apply keep_alloc | apply keep_row) | exact HK.out))) : w.heap.size ≤ gb101) : w0.heap.size ≤ gb101)); have n6_ := Aside0.mk ((by rw [hg]; exact Nat.ne_of_lt (IsS28.lt (show IsS28 w0 _ g s0_0 s0_1 s0_2 from by repeat (first | (with_reducible first | exact HI0.out | apply IsS28.alloc | apply IsS28.drewN | apply IsS28.drew | refine IsS28.setD ?_ (by first | (with_reducible assumption) | (with_unfolding_all decide)) (by first | (with_reducible assumption) | (with_unfolding_all decide)) (by first | (with_reducible assumption) | (with_unfolding_all decide)) (by first | (with_reducible assumption) | (with_unfolding_all decide)) _ | apply IsS28.row | apply IsS28.set_0 | apply IsS28.set_1) | exact HI0.out))) : g ≠ gb101)); have n7_ := Aside0.mk ((by rw [hg]; exact Nat.ne_of_gt (IsS28.lt (show IsS28 w0 _ g s0_0 s0_1 s0_2 from by repeat (first | (with_reducible first | exact HI0.out | apply IsS28.alloc | apply IsS28.drewN | apply IsS28.drew | refine IsS28.setD ?_ (by first | (with_reducible assumption) | (with_unfolding_all decide)) (by first | (with_reducible assumption) | (with_unfolding_all decide)) (by first | (with_reducible assumption) | (with_unfolding_all decide)) (by first | (with_reducible assumption) | (with_unfolding_all decide)) _ | apply IsS28.row | apply IsS28.set_0 | apply IsS28.set_1) | exact HI0.out))) : gb101 ≠ g)); clear HI0; clear HK; clear HB; have HI0 := n0_; have HK := n1_; have HB := n2_; have BK101 := n3_; have GW101 := n4_; have GE101 := n5_; have NB0_101 := n6_; have NB101_0 := n7_; clear n0_ n1_ n2_ n3_ n4_ n5_ n6_ n7_; clear hb hbox hg; have hnb11 := NB101_0.out; have hnc11 := NB0_101.out; have hcz12_0 : w10.cell? ⟨gb101, 0, none⟩ = some (.int .i8 a1_0) := (blk_cell BK101.out 0).trans rfl; have hcz12_1 : w10.cell? ⟨gb101, 1, none⟩ = some (.int .i8 a1_1) := (blk_cell BK101.out 1).trans rfl; have hfz12_0 := blk_frozen BK101.out 0; have hfz12_1 := blk_frozen BK101.out 1; obtain ⟨HGz13, hgz13⟩ := HI0.out; have hcz13_0 := cellS28_0 HGz13; have hcz13_1 := cellS28_1 HGz13; have hwz13 := lv28_at HGz13; have haz13 := at_cells HGz13; have hyz13 := BayAt28_of HGz13; have hvz13 := lvv_of HGz13; have hzz13 := fun q_ => blk_frozen HGz13 q_; have hfz13_0 := blk_frozen HGz13 0; have hfz13_1 := blk_frozen HGz13 1; have hfz13_2 := blk_frozen HGz13 2; clear HGz13 hgz13) | (go_at_call 35; (with_reducible refine (spec_l00In.calls (wrap64 (a1_0)) 0 (wrap64 ((wrap64 (s0_0)) - 1)) false _ A3.out).mono ?_); rintro e w' ⟨rfl, ⟨nd, rfl⟩⟩; (try first | exact ⟨rfl, _, World.drewN_drewN _ _ _⟩ | exact ⟨rfl, _, Eq.trans (World.drewN_drewN _ _ _) (congrArg (World.drewN _) (Nat.add_assoc _ _ _))⟩)))
    repeat (go_quiet (first | ((with_reducible refine gate_dst (N := 3) rfl ?_); refine box_event ?hg (N := 3) ?hd (cs := #[.int .i8 a1_0, .int .i8 a1_1]) (t := 57) ?hr ?_; (case hd => rfl); (case hg => rfl); (case hr => first | (go_simp; done) | (go_simp; rfl)); intro gb101 hg w10 hbox hb; have n0_ := Aside0.mk (IsS28.below (by repeat (first | (with_reducible first | exact HI0.out | apply IsS28.alloc | apply IsS28.drewN | apply IsS28.drew | refine IsS28.setD ?_ (by first | (with_reducible assumption) | (with_unfolding_all decide)) (by first | (with_reducible assumption) | (with_unfolding_all decide)) (by first | (with_reducible assumption) | (with_unfolding_all decide)) (by first | (with_reducible assumption) | (with_unfolding_all decide)) _ | apply IsS28.row | apply IsS28.set_0 | apply IsS28.set_1) | exact HI0.out)) hb); have n1_ := Aside0.mk (KeepBut.trans (by repeat (first | (with_reducible first | exact HK.out | apply KeepBut.set_ | apply keep_drewN | apply keep_drew | apply keep_alloc | apply keep_row) | exact HK.out)) (KeepBut.of_below hb g none) (.inl rfl)); have n2_ := Aside0.mk (below_step (by repeat (first | (with_reducible first | exact HB.out | apply below_alloc | apply pw_below_drewN | apply below_drew1 | refine below_set ?_ (IsS28.ge HI0.out) | refine below_row ?_ (IsS28.ge HI0.out) _) | exact HB.out)) hb); have n3_ := Aside0.mk (hbox); have n4_ := Aside0.mk ((by rw [hg]; exact (keep_size (w := w) (g := g) (row := none) (by repeat (first | (with_reducible first | exact HK.out | apply KeepBut.set_ | apply keep_drewN | apply keep_drew | apply keep_alloc | apply keep_row) | exact HK.out))) : w.heap.size ≤ gb101)); have n5_ := Aside0.mk ((Nat.le_trans HW0.out (by rw [hg]; exact (keep_size (w := w) (g := g) (row := none) (by repeat (first | (with_reducible first | exact HK.out | apply KeepBut.set_ | apply keep_drewN | apply keep_drew | apply keep_alloc | apply keep_row) | exact HK.out))) : w.heap.size ≤ gb101) : w0.heap.size ≤ gb101)); have n6_ := Aside0.mk ((by rw [hg]; exact Nat.ne_of_lt (IsS28.lt (show IsS28 w0 _ g s0_0 s0_1 s0_2 from by repeat (first | (with_reducible first | exact HI0.out | apply IsS28.alloc | apply IsS28.drewN | apply IsS28.drew | refine IsS28.setD ?_ (by first | (with_reducible assumption) | (with_unfolding_all decide)) (by first | (with_reducible assumption) | (with_unfolding_all decide)) (by first | (with_reducible assumption) | (with_unfolding_all decide)) (by first | (with_reducible assumption) | (with_unfolding_all decide)) _ | apply IsS28.row | apply IsS28.set_0 | apply IsS28.set_1) | exact HI0.out))) : g ≠ gb101)); have n7_ := Aside0.mk ((by rw [hg]; exact Nat.ne_of_gt (IsS28.lt (show IsS28 w0 _ g s0_0 s0_1 s0_2 from by repeat (first | (with_reducible first | exact HI0.out | apply IsS28.alloc | apply IsS28.drewN | apply IsS28.drew | refine IsS28.setD ?_ (by first | (with_reducible assumption) | (with_unfolding_all decide)) (by first | (with_reducible assumption) | (with_unfolding_all decide)) (by first | (with_reducible assumption) | (with_unfolding_all decide)) (by first | (with_reducible assumption) | (with_unfolding_all decide)) _ | apply IsS28.row | apply IsS28.set_0 | apply IsS28.set_1) | exact HI0.out))) : gb101 ≠ g)); clear HI0; clear HK; clear HB; have HI0 := n0_; have HK := n1_; have HB := n2_; have BK101 := n3_; have GW101 := n4_; have GE101 := n5_; have NB0_101 := n6_; have NB101_0 := n7_; clear n0_ n1_ n2_ n3_ n4_ n5_ n6_ n7_; clear hb hbox hg; have hnb11 := NB101_0.out; have hnc11 := NB0_101.out; have hcz12_0 : w10.cell? ⟨gb101, 0, none⟩ = some (.int .i8 a1_0) := (blk_cell BK101.out 0).trans rfl; have hcz12_1 : w10.cell? ⟨gb101, 1, none⟩ = some (.int .i8 a1_1) := (blk_cell BK101.out 1).trans rfl; have hfz12_0 := blk_frozen BK101.out 0; have hfz12_1 := blk_frozen BK101.out 1; obtain ⟨HGz13, hgz13⟩ := HI0.out; have hcz13_0 := cellS28_0 HGz13; have hcz13_1 := cellS28_1 HGz13; have hwz13 := lv28_at HGz13; have haz13 := at_cells HGz13; have hyz13 := BayAt28_of HGz13; have hvz13 := lvv_of HGz13; have hzz13 := fun q_ => blk_frozen HGz13 q_; have hfz13_0 := blk_frozen HGz13 0; have hfz13_1 := blk_frozen HGz13 1; have hfz13_2 := blk_frozen HGz13 2; clear HGz13 hgz13) | (go_at_call 35; (with_reducible refine (spec_l00In.calls (wrap64 (a1_0)) 0 (wrap64 ((wrap64 (s0_0)) - 1)) false _ A3.out).mono ?_); rintro e w' ⟨rfl, ⟨nd, rfl⟩⟩; (try first | exact ⟨rfl, _, World.drewN_drewN _ _ _⟩ | exact ⟨rfl, _, Eq.trans (World.drewN_drewN _ _ _) (congrArg (World.drewN _) (Nat.add_assoc _ _ _))⟩))); try go_wp2_with (first | ((with_reducible refine gate_dst (N := 3) rfl ?_); refine box_event ?hg (N := 3) ?hd (cs := #[.int .i8 a1_0, .int .i8 a1_1]) (t := 57) ?hr ?_; (case hd => rfl); (case hg => rfl); (case hr => first | (go_simp; done) | (go_simp; rfl)); intro gb101 hg w10 hbox hb; have n0_ := Aside0.mk (IsS28.below (by repeat (first | (with_reducible first | exact HI0.out | apply IsS28.alloc | apply IsS28.drewN | apply IsS28.drew | refine IsS28.setD ?_ (by first | (with_reducible assumption) | (with_unfolding_all decide)) (by first | (with_reducible assumption) | (with_unfolding_all decide)) (by first | (with_reducible assumption) | (with_unfolding_all decide)) (by first | (with_reducible assumption) | (with_unfolding_all decide)) _ | apply IsS28.row | apply IsS28.set_0 | apply IsS28.set_1) | exact HI0.out)) hb); have n1_ := Aside0.mk (KeepBut.trans (by repeat (first | (with_reducible first | exact HK.out | apply KeepBut.set_ | apply keep_drewN | apply keep_drew | apply keep_alloc | apply keep_row) | exact HK.out)) (KeepBut.of_below hb g none) (.inl rfl)); have n2_ := Aside0.mk (below_step (by repeat (first | (with_reducible first | exact HB.out | apply below_alloc | apply pw_below_drewN | apply below_drew1 | refine below_set ?_ (IsS28.ge HI0.out) | refine below_row ?_ (IsS28.ge HI0.out) _) | exact HB.out)) hb); have n3_ := Aside0.mk (hbox); have n4_ := Aside0.mk ((by rw [hg]; exact (keep_size (w := w) (g := g) (row := none) (by repeat (first | (with_reducible first | exact HK.out | apply KeepBut.set_ | apply keep_drewN | apply keep_drew | apply keep_alloc | apply keep_row) | exact HK.out))) : w.heap.size ≤ gb101)); have n5_ := Aside0.mk ((Nat.le_trans HW0.out (by rw [hg]; exact (keep_size (w := w) (g := g) (row := none) (by repeat (first | (with_reducible first | exact HK.out | apply KeepBut.set_ | apply keep_drewN | apply keep_drew | apply keep_alloc | apply keep_row) | exact HK.out))) : w.heap.size ≤ gb101) : w0.heap.size ≤ gb101)); have n6_ := Aside0.mk ((by rw [hg]; exact Nat.ne_of_lt (IsS28.lt (show IsS28 w0 _ g s0_0 s0_1 s0_2 from by repeat (first | (with_reducible first | exact HI0.out | apply IsS28.alloc | apply IsS28.drewN | apply IsS28.drew | refine IsS28.setD ?_ (by first | (with_reducible assumption) | (with_unfolding_all decide)) (by first | (with_reducible assumption) | (with_unfolding_all decide)) (by first | (with_reducible assumption) | (with_unfolding_all decide)) (by first | (with_reducible assumption) | (with_unfolding_all decide)) _ | apply IsS28.row | apply IsS28.set_0 | apply IsS28.set_1) | exact HI0.out))) : g ≠ gb101)); have n7_ := Aside0.mk ((by rw [hg]; exact Nat.ne_of_gt (IsS28.lt (show IsS28 w0 _ g s0_0 s0_1 s0_2 from by repeat (first | (with_reducible first | exact HI0.out | apply IsS28.alloc | apply IsS28.drewN | apply IsS28.drew | refine IsS28.setD ?_ (by first | (with_reducible assumption) | (with_unfolding_all decide)) (by first | (with_reducible assumption) | (with_unfolding_all decide)) (by first | (with_reducible assumption) | (with_unfolding_all decide)) (by first | (with_reducible assumption) | (with_unfolding_all decide)) _ | apply IsS28.row | apply IsS28.set_0 | apply IsS28.set_1) | exact HI0.out))) : gb101 ≠ g)); clear HI0; clear HK; clear HB; have HI0 := n0_; have HK := n1_; have HB := n2_; have BK101 := n3_; have GW101 := n4_; have GE101 := n5_; have NB0_101 := n6_; have NB101_0 := n7_; clear n0_ n1_ n2_ n3_ n4_ n5_ n6_ n7_; clear hb hbox hg; have hnb11 := NB101_0.out; have hnc11 := NB0_101.out; have hcz12_0 : w10.cell? ⟨gb101, 0, none⟩ = some (.int .i8 a1_0) := (blk_cell BK101.out 0).trans rfl; have hcz12_1 : w10.cell? ⟨gb101, 1, none⟩ = some (.int .i8 a1_1) := (blk_cell BK101.out 1).trans rfl; have hfz12_0 := blk_frozen BK101.out 0; have hfz12_1 := blk_frozen BK101.out 1; obtain ⟨HGz13, hgz13⟩ := HI0.out; have hcz13_0 := cellS28_0 HGz13; have hcz13_1 := cellS28_1 HGz13; have hwz13 := lv28_at HGz13; have haz13 := at_cells HGz13; have hyz13 := BayAt28_of HGz13; have hvz13 := lvv_of HGz13; have hzz13 := fun q_ => blk_frozen HGz13 q_; have hfz13_0 := blk_frozen HGz13 0; have hfz13_1 := blk_frozen HGz13 1; have hfz13_2 := blk_frozen HGz13 2; clear HGz13 hgz13) | (go_at_call 35; (with_reducible refine (spec_l00In.calls (wrap64 (a1_0)) 0 (wrap64 ((wrap64 (s0_0)) - 1)) false _ A3.out).mono ?_); rintro e w' ⟨rfl, ⟨nd, rfl⟩⟩; (try first | exact ⟨rfl, _, World.drewN_drewN _ _ _⟩ | exact ⟨rfl, _, Eq.trans (World.drewN_drewN _ _ _) (congrArg (World.drewN _) (Nat.add_assoc _ _ _))⟩))))
    go_ret
    exact ⟨by first | rfl | (simp [errW_none, errW_some] <;> rfl) | (simp [*, errW_none, errW_some] <;> rfl), by repeat (first | (with_reducible first | exact HI0.out | apply IsS28.alloc | apply IsS28.drewN | apply IsS28.drew | refine IsS28.setD ?_ (by first | (with_reducible assumption) | (with_unfolding_all decide)) (by first | (with_reducible assumption) | (with_unfolding_all decide)) (by first | (with_reducible assumption) | (with_unfolding_all decide)) (by first | (with_reducible assumption) | (with_unfolding_all decide)) _ | apply IsS28.row | apply IsS28.set_0 | apply IsS28.set_1 | refine IsS28.row_far ?_ NB0_101.out _ | refine IsS28.far ?_ NB0_101.out _) | exact HI0.out), by repeat (first | (with_reducible first | exact HB.out | apply below_alloc | apply pw_below_drewN | apply below_drew1 | refine below_set ?_ (IsS28.ge HI0.out) | refine below_set ?_ GE101.out | refine below_row ?_ (IsS28.ge HI0.out) _ | refine below_row ?_ GE101.out _) | exact HB.out), by repeat (first | (with_reducible first | exact HK.out | apply KeepBut.set_ | apply keep_drewN | apply keep_drew | apply keep_alloc | refine keep_far ?_ GW101.out _ | apply keep_row | refine keep_row_far ?_ GW101.out _) | exact HK.out)⟩

/-! ### spec_l01Bay: function 22 -/
mutual
def spec_l01Bay.j0 : Nat → Bool → Int → Int → (Nat → Int) → Option (Bool × Int × Int × (Nat → Int))
  | 0, _, _, _, _ => none
  | k + 1, x21, x1000, x1001, x1002 => if x21 = true then (some (false, x1000, x1001, x1002)) else (spec_l01Bay.l0 k 0 x1000 x1001 x1002)
def spec_l01Bay.l0 : Nat → Int → Int → Int → (Nat → Int) → Option (Bool × Int × Int × (Nat → Int))
  | 0, _, _, _, _ => none
  | k + 1, x3, x1000, x1001, x1002 => if x3 < 16 then (spec_l01Bay.l1 k x3 0 x1000 x1001 x1002) else (some (true, x1000, x1001, x1002))
def spec_l01Bay.l1 : Nat → Int → Int → Int → Int → (Nat → Int) → Option (Bool × Int × Int × (Nat → Int))
  | 0, _, _, _, _, _ => none
  | k + 1, x3, x4, x1000, x1001, x1002 => if x4 < 16 then (if 0 ≤ x3 then (if x3 < 16 then (if 0 ≤ x4 then ((spec_l00In.f (wrap64 (x1002 (16 * (x3 : Int).toNat + (x4 : Int).toNat))) 0 30).bind fun t106 => (if t106 = true then (if (x1002 (16 * (x3 : Int).toNat + (x4 : Int).toNat)) = 0 then (spec_l01Bay.l1 k x3 (IntKind.i8.wrap (x4 + 1)) x1000 x1001 x1002) else ((spec_l01Is.f x1000 x1001 x1002 x4 x3).bind fun bt107 => (if bt107.1 = true then (spec_l01Bay.l1 k x3 (IntKind.i8.wrap (x4 + 1)) bt107.2.1 bt107.2.2.1 bt107.2.2.2) else (some (false, bt107.2.1, bt107.2.2.1, bt107.2.2.2))))) else (some (false, x1000, x1001, x1002)))) else (none)) else (none)) else (none)) else (spec_l01Bay.l0 k (IntKind.i8.wrap (x3 + 1)) x1000 x1001 x1002)
end
def spec_l01Bay.f (k : Nat) (s0_0 : Int) (s0_1 : Int) (s0_2 : (Nat → Int)) : Option (Bool × Int × Int × (Nat → Int)) := (spec_l00In.f (wrap64 (s0_0)) 1 16).bind fun t104 => (if t104 = true then ((spec_l00In.f (wrap64 (s0_1)) 1 16).bind fun t105 => (spec_l01Bay.j0 k (!t105) s0_0 s0_1 s0_2)) else (spec_l01Bay.j0 k true s0_0 s0_1 s0_2))
theorem spec_l01Bay.mono_l : ∀ k, (∀ y0 y1 y2 y3, LeO (spec_l01Bay.j0 k y0 y1 y2 y3) (spec_l01Bay.j0 (k + 1) y0 y1 y2 y3)) ∧ (∀ y0 y1 y2 y3, LeO (spec_l01Bay.l0 k y0 y1 y2 y3) (spec_l01Bay.l0 (k + 1) y0 y1 y2 y3)) ∧ (∀ y0 y1 y2 y3 y4, LeO (spec_l01Bay.l1 k y0 y1 y2 y3 y4) (spec_l01Bay.l1 (k + 1) y0 y1 y2 y3 y4))
  | 0 => ⟨fun _ _ _ _ r h => by simp [spec_l01Bay.j0] at h, fun _ _ _ _ r h => by simp [spec_l01Bay.l0] at h, fun _ _ _ _ _ r h => by simp [spec_l01Bay.l1] at h⟩
  | k + 1 => by
    obtain ⟨ih0, ih1, ih2⟩ := spec_l01Bay.mono_l k
    refine ⟨?_, ?_, ?_⟩
    · intro y0 y1 y2 y3
      unfold spec_l01Bay.j0
      repeat' first
      | (with_reducible exact ih0 _ _ _ _)
      | (with_reducible exact ih1 _ _ _ _)
      | (with_reducible exact ih2 _ _ _ _ _)
      | (with_reducible exact LeO.refl _)
      | (with_reducible exact LeO.none _)
      | (with_reducible refine LeO.ite ?_ ?_)
      | (with_reducible refine LeO.bind ?_ (fun _ => ?_))
      | exact ih0 _ _ _ _
      | exact ih1 _ _ _ _
      | exact ih2 _ _ _ _ _
      | exact LeO.none _
      | refine LeO.ite ?_ ?_
      | refine LeO.bind ?_ (fun _ => ?_)
    · intro y0 y1 y2 y3
      unfold spec_l01Bay.l0
      repeat' first
      | (with_reducible exact ih0 _ _ _ _)
      | (with_reducible exact ih1 _ _ _ _)
      | (with_reducible exact ih2 _ _ _ _ _)
      | (with_reducible exact LeO.refl _)
      | (with_reducible exact LeO.none _)
      | (with_reducible refine LeO.ite ?_ ?_)
      | (with_reducible refine LeO.bind ?_ (fun _ => ?_))
      | exact ih0 _ _ _ _
      | exact ih1 _ _ _ _
      | exact ih2 _ _ _ _ _
      | exact LeO.none _
      | refine LeO.ite ?_ ?_
      | refine LeO.bind ?_ (fun _ => ?_)
    · intro y0 y1 y2 y3 y4
      unfold spec_l01Bay.l1
      repeat' first
      | (with_reducible exact ih0 _ _ _ _)
      | (with_reducible exact ih1 _ _ _ _)
      | (with_reducible exact ih2 _ _ _ _ _)
      | (with_reducible exact LeO.refl _)
      | (with_reducible exact LeO.none _)
      | (with_reducible refine LeO.ite ?_ ?_)
      | (with_reducible refine LeO.bind ?_ (fun _ => ?_))
      | exact ih0 _ _ _ _
      | exact ih1 _ _ _ _
      | exact ih2 _ _ _ _ _
      | exact LeO.none _
      | refine LeO.ite ?_ ?_
      | refine LeO.bind ?_ (fun _ => ?_)
theorem spec_l01Bay.mono : ∀ a0 a1 a2 k, LeO (spec_l01Bay.f k a0 a1 a2) (spec_l01Bay.f (k + 1) a0 a1 a2) := by
  intro a0 a1 a2 k
  obtain ⟨ih0, ih1, ih2⟩ := spec_l01Bay.mono_l k
  unfold spec_l01Bay.f
  repeat' first
      | (with_reducible exact ih0 _ _ _ _)
      | (with_reducible exact ih1 _ _ _ _)
      | (with_reducible exact ih2 _ _ _ _ _)
      | (with_reducible exact LeO.refl _)
      | (with_reducible exact LeO.none _)
      | (with_reducible refine LeO.ite ?_ ?_)
      | (with_reducible refine LeO.bind ?_ (fun _ => ?_))
      | exact ih0 _ _ _ _
      | exact ih1 _ _ _ _
      | exact ih2 _ _ _ _ _
      | exact LeO.none _
      | refine LeO.ite ?_ ?_
      | refine LeO.bind ?_ (fun _ => ?_)
set_option maxHeartbeats 8000000 in
set_option maxRecDepth 100000 in
theorem spec_l01Bay.calls (k : Nat) (g : Nat) (s0_0 : Int) (s0_1 : Int) (s0_2 : (Nat → Int)) (r1 : Bool) (r2 : Int) (r3 : Int) (r4 : (Nat → Int)) (w0 w : World) (hI : IsS28 w0 w g s0_0 s0_1 s0_2) (hB : Below w0.heap.size w0 w) (h : spec_l01Bay.f k s0_0 s0_1 s0_2 = some (r1, r2, r3, r4)) :
    Calls Tryd.prog 22 #[.pointer (some ⟨g, 0, none⟩)] w fun e w' => e = .returned (.bool r1) ∧ IsS28 w0 w' g r2 r3 r4 ∧ Below w0.heap.size w0 w' ∧ KeepBut w w' g none := by
  have hu57 := Tryd.underlying57
  have HI0 := Aside0.mk hI
  have HK := Aside0.mk (KeepBut.refl w g none)
  have HL := Aside0.mk hB.size
  clear hI
  have HW0 := Aside0.mk hB.size
  have HB := Aside0.mk hB
  clear hB
  have H : ((spec_l00In.f (wrap64 (s0_0)) 1 16).bind fun t104 => (if t104 = true then ((spec_l00In.f (wrap64 (s0_1)) 1 16).bind fun t105 => (spec_l01Bay.j0 k (!t105) s0_0 s0_1 s0_2)) else (spec_l01Bay.j0 k true s0_0 s0_1 s0_2))) = some (r1, r2, r3, r4) := h
  clear h
  have HC2 := Aside0.mk H
  clear H
  go_enter Tryd.func22, Tryd.ntmps22
  go_upto_region 1 with (fail)
  go_cut [21] (fun v21 wc => ∃ (kq : Nat) (x21_1 : Bool), v21 = .bool x21_1 ∧ Aside0 (spec_l01Bay.j0 kq x21_1 s0_0 s0_1 s0_2 = some (r1, r2, r3, r4)) ∧ Aside0 (kq ≤ k) ∧ Aside0 (IsS28 w0 wc g s0_0 s0_1 s0_2) ∧ Aside0 (KeepBut w wc g none) ∧ Aside0 (Below w0.heap.size w0 wc))
  case first =>
    have H := HC2.out
    clear HC2
    replace H := Option.bind_eq_some_iff.mp H
    obtain ⟨t104, A30, H⟩ := H
    replace H : (if t104 = true then ((spec_l00In.f (wrap64 (s0_1)) 1 16).bind fun t105 => (spec_l01Bay.j0 k (!t105) s0_0 s0_1 s0_2)) else (spec_l01Bay.j0 k true s0_0 s0_1 s0_2)) = some (r1, r2, r3, r4) := H
    have A3 := Aside0.mk A30
    clear A30
    by_cases c4 : t104 = true
    · subst c4
      have H1 : ((spec_l00In.f (wrap64 (s0_1)) 1 16).bind fun t105 => (spec_l01Bay.j0 k (!t105) s0_0 s0_1 s0_2)) = some (r1, r2, r3, r4) := by rw [if_pos rfl] at H; exact H
      clear H
      have H := H1
      clear H1
      replace H := Option.bind_eq_some_iff.mp H
      obtain ⟨t105, A50, H⟩ := H
      replace H : (spec_l01Bay.j0 k (!t105) s0_0 s0_1 s0_2) = some (r1, r2, r3, r4) := H
      have A5 := Aside0.mk A50
      clear A50
      have H' := Aside0.mk H
      clear H
      obtain ⟨HGz6, hgz6⟩ := HI0.out
      have hcz6_0 := cellS28_0 HGz6
      have hcz6_1 := cellS28_1 HGz6
      have hwz6 := lv28_at HGz6; have haz6 := at_cells HGz6; have hyz6 := BayAt28_of HGz6; have hvz6 := lvv_of HGz6; have hzz6 := fun q_ => blk_frozen HGz6 q_
      have hfz6_0 := blk_frozen HGz6 0
      have hfz6_1 := blk_frozen HGz6 1
      have hfz6_2 := blk_frozen HGz6 2
      clear HGz6 hgz6
      go_wp2_with (first | ((with_reducible refine gate_callee (f := 35) rfl ?_); refine goesL_ (some 11) rfl rfl Tryd.func35 (by kernel_rfl) rfl #[.int .i64 (wrap64 (s0_0)), .int .i64 1, .int .i64 16] rfl (by (try simp only [List.map_toArray, List.map_cons, List.map_nil]); first | done | rfl | (simp only [List.length_drop, List.length_take]; rfl)) ?_; (with_reducible refine (spec_l00In.calls (wrap64 (s0_0)) 1 16 true _ A3.out).mono ?_); rintro e w' ⟨rfl, ⟨nd, rfl⟩⟩; refine ⟨_, rfl, ?_⟩) | (go_at_call 35; (with_reducible refine (spec_l00In.calls (wrap64 (s0_1)) 1 16 t105 _ A5.out).mono ?_); rintro e w' ⟨rfl, ⟨nd, rfl⟩⟩))
      go_meet
      case rel => exact ⟨_, (!t105), (by first | rfl | (simp; done) | (simp [*]; done) | (rw [i8_wrap_le] <;> first | rfl | omega) | (congr 1; unfold wrap64; omega)), H', ⟨by first | omega | exact Nat.le_refl _⟩, ⟨by repeat (first | (with_reducible first | exact HI0.out | apply IsS28.alloc | apply IsS28.drewN | apply IsS28.drew | refine IsS28.setD ?_ (by first | (with_reducible assumption) | (with_unfolding_all decide)) (by first | (with_reducible assumption) | (with_unfolding_all decide)) (by first | (with_reducible assumption) | (with_unfolding_all decide)) (by first | (with_reducible assumption) | (with_unfolding_all decide)) _ | apply IsS28.row | apply IsS28.set_0 | apply IsS28.set_1) | exact HI0.out)⟩, ⟨by repeat (first | (with_reducible first | exact HK.out | apply KeepBut.set_ | apply keep_drewN | apply keep_drew | apply keep_alloc | apply keep_row) | exact HK.out)⟩, ⟨by repeat (first | (with_reducible first | exact HB.out | apply below_alloc | apply pw_below_drewN | apply below_drew1 | refine below_set ?_ (IsS28.ge HI0.out) | refine below_row ?_ (IsS28.ge HI0.out) _) | exact HB.out)⟩⟩
    · replace c4 := Bool.eq_false_iff.mpr c4
      subst c4
      have H1 : (spec_l01Bay.j0 k true s0_0 s0_1 s0_2) = some (r1, r2, r3, r4) := by rw [if_neg (show ¬ (false = true) by decide)] at H; exact H
      clear H
      have H := H1
      clear H1
      have H' := Aside0.mk H
      clear H
      obtain ⟨HGz7, hgz7⟩ := HI0.out
      have hcz7_0 := cellS28_0 HGz7
      have hcz7_1 := cellS28_1 HGz7
      have hwz7 := lv28_at HGz7; have haz7 := at_cells HGz7; have hyz7 := BayAt28_of HGz7; have hvz7 := lvv_of HGz7; have hzz7 := fun q_ => blk_frozen HGz7 q_
      have hfz7_0 := blk_frozen HGz7 0
      have hfz7_1 := blk_frozen HGz7 1
      have hfz7_2 := blk_frozen HGz7 2
      clear HGz7 hgz7
      go_wp2_with (first | ((with_reducible refine gate_callee (f := 35) rfl ?_); refine goesL_ (some 11) rfl rfl Tryd.func35 (by kernel_rfl) rfl #[.int .i64 (wrap64 (s0_0)), .int .i64 1, .int .i64 16] rfl (by (try simp only [List.map_toArray, List.map_cons, List.map_nil]); first | done | rfl | (simp only [List.length_drop, List.length_take]; rfl)) ?_; (with_reducible refine (spec_l00In.calls (wrap64 (s0_0)) 1 16 false _ A3.out).mono ?_); rintro e w' ⟨rfl, ⟨nd, rfl⟩⟩; refine ⟨_, rfl, ?_⟩))
      go_meet
      case rel => exact ⟨_, (true), (by first | rfl | (simp; done) | (simp [*]; done) | (rw [i8_wrap_le] <;> first | rfl | omega) | (congr 1; unfold wrap64; omega)), H', ⟨by first | omega | exact Nat.le_refl _⟩, ⟨by repeat (first | (with_reducible first | exact HI0.out | apply IsS28.alloc | apply IsS28.drewN | apply IsS28.drew | refine IsS28.setD ?_ (by first | (with_reducible assumption) | (with_unfolding_all decide)) (by first | (with_reducible assumption) | (with_unfolding_all decide)) (by first | (with_reducible assumption) | (with_unfolding_all decide)) (by first | (with_reducible assumption) | (with_unfolding_all decide)) _ | apply IsS28.row | apply IsS28.set_0 | apply IsS28.set_1) | exact HI0.out)⟩, ⟨by repeat (first | (with_reducible first | exact HK.out | apply KeepBut.set_ | apply keep_drewN | apply keep_drew | apply keep_alloc | apply keep_row) | exact HK.out)⟩, ⟨by repeat (first | (with_reducible first | exact HB.out | apply below_alloc | apply pw_below_drewN | apply below_drew1 | refine below_set ?_ (IsS28.ge HI0.out) | refine below_row ?_ (IsS28.ge HI0.out) _) | exact HB.out)⟩⟩
  case rest =>
    clear HC2
    try clear c2
    try clear p2
    try clear c3
    try clear c4
    try clear p6
    try clear hcz6_0
    try clear hcz6_1
    try clear hcz7_0
    try clear hcz7_1
    try clear hfz6_0
    try clear hfz6_1
    try clear hfz6_2
    try clear hfz7_0
    try clear hfz7_1
    try clear hfz7_2
    obtain ⟨kq, x21_1, rfl, HA, HJ1, HI0, HK, HB⟩ := hcut
    cases kq with
    | zero => exact absurd HA.out (by simp [spec_l01Bay.j0])
    | succ kj1 =>
      have H := HA.out
      clear HA
      simp only [spec_l01Bay.j0] at H
      by_cases c8 : x21_1 = true
      · subst c8
        have H1 : (some (false, s0_0, s0_1, s0_2)) = some (r1, r2, r3, r4) := by rw [if_pos rfl] at H; exact H
        clear H
        have H := H1
        clear H1
        simp only [Option.some.injEq, Prod.mk.injEq] at H
        obtain ⟨rfl, rfl, rfl, rfl⟩ := H
        go_wp2
        go_ret
        exact ⟨by first | rfl | (simp [errW_none, errW_some] <;> rfl) | (simp [*, errW_none, errW_some] <;> rfl), by repeat (first | (with_reducible first | exact HI0.out | apply IsS28.alloc | apply IsS28.drewN | apply IsS28.drew | refine IsS28.setD ?_ (by first | (with_reducible assumption) | (with_unfolding_all decide)) (by first | (with_reducible assumption) | (with_unfolding_all decide)) (by first | (with_reducible assumption) | (with_unfolding_all decide)) (by first | (with_reducible assumption) | (with_unfolding_all decide)) _ | apply IsS28.row | apply IsS28.set_0 | apply IsS28.set_1) | exact HI0.out), by repeat (first | (with_reducible first | exact HB.out | apply below_alloc | apply pw_below_drewN | apply below_drew1 | refine below_set ?_ (IsS28.ge HI0.out) | refine below_row ?_ (IsS28.ge HI0.out) _) | exact HB.out), by repeat (first | (with_reducible first | exact HK.out | apply KeepBut.set_ | apply keep_drewN | apply keep_drew | apply keep_alloc | apply keep_row) | exact HK.out)⟩
      · replace c8 := Bool.eq_false_iff.mpr c8
        subst c8
        have H1 : (spec_l01Bay.l0 kj1 0 s0_0 s0_1 s0_2) = some (r1, r2, r3, r4) := by rw [if_neg (show ¬ (false = true) by decide)] at H; exact H
        clear H
        have H := H1
        clear H1
        have H' := Aside0.mk H
        clear H
        go_wp2
        go_loopg [3] kj1 (fun kq v3 w' => ∃ (x3_2 : Int) (x1000_2 : Int) (x1001_2 : Int) (x1002_2 : (Nat → Int)), v3 = .int .i8 x3_2 ∧ Aside0 (spec_l01Bay.l0 kq x3_2 x1000_2 x1001_2 x1002_2 = some (r1, r2, r3, r4)) ∧ Aside0 (kq ≤ kj1) ∧ Aside0 (IsS28 w0 w' g x1000_2 x1001_2 x1002_2) ∧ Aside0 (KeepBut w w' g none) ∧ Aside0 (Below w0.heap.size w0 w'))
        case atStart => exact ⟨(0), (s0_0), (s0_1), (s0_2), (by first | rfl | (simp; done) | (simp [*]; done) | (rw [i8_wrap_le] <;> first | rfl | omega) | (congr 1; unfold wrap64; omega)), H', ⟨Nat.le_refl _⟩, ⟨by repeat (first | (with_reducible first | exact HI0.out | apply IsS28.alloc | apply IsS28.drewN | apply IsS28.drew | refine IsS28.setD ?_ (by first | (with_reducible assumption) | (with_unfolding_all decide)) (by first | (with_reducible assumption) | (with_unfolding_all decide)) (by first | (with_reducible assumption) | (with_unfolding_all decide)) (by first | (with_reducible assumption) | (with_unfolding_all decide)) _ | apply IsS28.row | apply IsS28.set_0 | apply IsS28.set_1) | exact HI0.out)⟩, ⟨by repeat (first | (with_reducible first | exact HK.out | apply KeepBut.set_ | apply keep_drewN | apply keep_drew | apply keep_alloc | apply keep_row) | exact HK.out)⟩, ⟨by repeat (first | (with_reducible first | exact HB.out | apply below_alloc | apply pw_below_drewN | apply below_drew1 | refine below_set ?_ (IsS28.ge HI0.out) | refine below_row ?_ (IsS28.ge HI0.out) _) | exact HB.out)⟩⟩
        case round =>
          clear H'
          try clear c2
          try clear p2
          try clear c3
          try clear c4
          try clear p6
          try clear c8
          try clear hcz6_0
          try clear hcz6_1
          try clear hcz7_0
          try clear hcz7_1
          try clear hfz6_0
          try clear hfz6_1
          try clear hfz6_2
          try clear hfz7_0
          try clear hfz7_1
          try clear hfz7_2
          try clear p2
          try clear p6
          obtain ⟨x3_2, x1000_2, x1001_2, x1002_2, rfl, HA, HK2, HI0, HK, HB⟩ := hrel
          cases gk with
          | zero => exact absurd HA.out (by simp [spec_l01Bay.l0])
          | succ k2 =>
            have H := HA.out
            clear HA
            simp only [spec_l01Bay.l0] at H
            by_cases c9 : x3_2 < 16
            · rw [if_pos c9] at H
              have c9b0 : decide (x3_2 < 16) = true := decide_eq_true c9
              have c9b1 : x3_2 < 16 := c9
              clear c9
              have H' := Aside0.mk H
              clear H
              go_wp2
              go_loopg [4] k2 (fun kq v4 w' => ∃ (x4_3 : Int) (x1000_3 : Int) (x1001_3 : Int) (x1002_3 : (Nat → Int)), v4 = .int .i8 x4_3 ∧ Aside0 (spec_l01Bay.l1 kq x3_2 x4_3 x1000_3 x1001_3 x1002_3 = some (r1, r2, r3, r4)) ∧ Aside0 (kq ≤ k2) ∧ Aside0 (IsS28 w0 w' g x1000_3 x1001_3 x1002_3) ∧ Aside0 (KeepBut w w' g none) ∧ Aside0 (Below w0.heap.size w0 w'))
              case atStart => exact ⟨(0), (x1000_2), (x1001_2), (x1002_2), (by first | rfl | (simp; done) | (simp [*]; done) | (rw [i8_wrap_le] <;> first | rfl | omega) | (congr 1; unfold wrap64; omega)), H', ⟨Nat.le_refl _⟩, ⟨by repeat (first | (with_reducible first | exact HI0.out | apply IsS28.alloc | apply IsS28.drewN | apply IsS28.drew | refine IsS28.setD ?_ (by first | (with_reducible assumption) | (with_unfolding_all decide)) (by first | (with_reducible assumption) | (with_unfolding_all decide)) (by first | (with_reducible assumption) | (with_unfolding_all decide)) (by first | (with_reducible assumption) | (with_unfolding_all decide)) _ | apply IsS28.row | apply IsS28.set_0 | apply IsS28.set_1) | exact HI0.out)⟩, ⟨by repeat (first | (with_reducible first | exact HK.out | apply KeepBut.set_ | apply keep_drewN | apply keep_drew | apply keep_alloc | apply keep_row) | exact HK.out)⟩, ⟨by repeat (first | (with_reducible first | exact HB.out | apply below_alloc | apply pw_below_drewN | apply below_drew1 | refine below_set ?_ (IsS28.ge HI0.out) | refine below_row ?_ (IsS28.ge HI0.out) _) | exact HB.out)⟩⟩
              case round =>
                clear H'
                try clear c2
                try clear p2
                try clear c3
                try clear c4
                try clear p6
                try clear c8
                try clear c9
                try clear c9b0
                try clear c9b1
                try clear hcz6_0
                try clear hcz6_1
                try clear hcz7_0
                try clear hcz7_1
                try clear hfz6_0
                try clear hfz6_1
                try clear hfz6_2
                try clear hfz7_0
                try clear hfz7_1
                try clear hfz7_2
                try clear p2
                try clear p6
                obtain ⟨x4_3, x1000_3, x1001_3, x1002_3, rfl, HA, HK3, HI0, HK, HB⟩ := hrel
                cases gk with
                | zero => exact absurd HA.out (by simp [spec_l01Bay.l1])
                | succ k3 =>
                  have H := HA.out
                  clear HA
                  simp only [spec_l01Bay.l1] at H
                  by_cases c10 : x4_3 < 16
                  · rw [if_pos c10] at H
                    have c10b0 : decide (x4_3 < 16) = true := decide_eq_true c10
                    have c10b1 : x4_3 < 16 := c10
                    clear c10
                    by_cases c11 : 0 ≤ x3_2
                    · rw [if_pos c11] at H
                      have c11b0 : decide (0 ≤ x3_2) = true := decide_eq_true c11
                      have c11b1 : 0 ≤ x3_2 := c11
                      clear c11
                      by_cases c12 : x3_2 < 16
                      · rw [if_pos c12] at H
                        have c12b0 : decide (x3_2 < 16) = true := decide_eq_true c12
                        have c12b1 : x3_2 < 16 := c12
                        clear c12
                        by_cases c13 : 0 ≤ x4_3
                        · rw [if_pos c13] at H
                          have c13b0 : decide (0 ≤ x4_3) = true := decide_eq_true c13
                          have c13b1 : 0 ≤ x4_3 := c13
                          clear c13
                          replace H := Option.bind_eq_some_iff.mp H
                          obtain ⟨t106, A140, H⟩ := H
                          replace H : (if t106 = true then (if (x1002_3 (16 * (x3_2 : Int).toNat + (x4_3 : Int).toNat)) = 0 then (spec_l01Bay.l1 k3 x3_2 (IntKind.i8.wrap (x4_3 + 1)) x1000_3 x1001_3 x1002_3) else ((spec_l01Is.f x1000_3 x1001_3 x1002_3 x4_3 x3_2).bind fun bt107 => (if bt107.1 = true then (spec_l01Bay.l1 k3 x3_2 (IntKind.i8.wrap (x4_3 + 1)) bt107.2.1 bt107.2.2.1 bt107.2.2.2) else (some (false, bt107.2.1, bt107.2.2.1, bt107.2.2.2))))) else (some (false, x1000_3, x1001_3, x1002_3))) = some (r1, r2, r3, r4) := H
                          have A14 := Aside0.mk A140
                          clear A140
                          by_cases c15 : t106 = true
                          · subst c15
                            have H1 : (if (x1002_3 (16 * (x3_2 : Int).toNat + (x4_3 : Int).toNat)) = 0 then (spec_l01Bay.l1 k3 x3_2 (IntKind.i8.wrap (x4_3 + 1)) x1000_3 x1001_3 x1002_3) else ((spec_l01Is.f x1000_3 x1001_3 x1002_3 x4_3 x3_2).bind fun bt107 => (if bt107.1 = true then (spec_l01Bay.l1 k3 x3_2 (IntKind.i8.wrap (x4_3 + 1)) bt107.2.1 bt107.2.2.1 bt107.2.2.2) else (some (false, bt107.2.1, bt107.2.2.1, bt107.2.2.2))))) = some (r1, r2, r3, r4) := by rw [if_pos rfl] at H; exact H
                            clear H
                            have H := H1
                            clear H1
                            by_cases c16 : (x1002_3 (16 * (x3_2 : Int).toNat + (x4_3 : Int).toNat)) = 0
                            · rw [if_pos c16] at H
                              have c16b0 : ((x1002_3 (16 * (x3_2 : Int).toNat + (x4_3 : Int).toNat)) == 0) = true := beq_iff_eq.mpr c16
                              have c16b1 : ((x1002_3 (16 * (x3_2 : Int).toNat + (x4_3 : Int).toNat)) != 0) = false := bne_eq_false_iff_eq.mpr c16
                              clear c16
                              have H' := Aside0.mk H
                              clear H
                              obtain ⟨HGz17, hgz17⟩ := HI0.out
                              have hcz17_0 := cellS28_0 HGz17
                              have hcz17_1 := cellS28_1 HGz17
                              have hwz17 := lv28_at HGz17; have haz17 := at_cells HGz17; have hyz17 := BayAt28_of HGz17; have hvz17 := lvv_of HGz17; have hzz17 := fun q_ => blk_frozen HGz17 q_
                              have hfz17_0 := blk_frozen HGz17 0
                              have hfz17_1 := blk_frozen HGz17 1
                              have hfz17_2 := blk_frozen HGz17 2
                              clear HGz17 hgz17
                              go_wp2_with (first | ((with_reducible refine gate_callee (f := 35) rfl ?_); refine goesL_ (some 40) rfl rfl Tryd.func35 (by kernel_rfl) rfl #[.int .i64 (wrap64 (x1002_3 (16 * (x3_2 : Int).toNat + (x4_3 : Int).toNat))), .int .i64 0, .int .i64 30] rfl (by (try simp only [List.map_toArray, List.map_cons, List.map_nil]); first | done | rfl | (simp only [List.length_drop, List.length_take]; rfl)) ?_; (with_reducible refine (spec_l00In.calls (wrap64 (x1002_3 (16 * (x3_2 : Int).toNat + (x4_3 : Int).toNat))) 0 30 true _ A14.out).mono ?_); rintro e w' ⟨rfl, ⟨nd, rfl⟩⟩; refine ⟨_, rfl, ?_⟩))
                              go_roundg k3
                              case measure => have := HJ1.out; have := HK2.out; have := HK3.out; omega
                              case rel => exact ⟨(IntKind.i8.wrap (x4_3 + 1)), (x1000_3), (x1001_3), (x1002_3), (by first | rfl | (simp; done) | (simp [*]; done) | (rw [i8_wrap_le] <;> first | rfl | omega) | (congr 1; unfold wrap64; omega)), H', ⟨by have := HJ1.out; have := HK2.out; have := HK3.out; omega⟩, ⟨by repeat (first | (with_reducible first | exact HI0.out | apply IsS28.alloc | apply IsS28.drewN | apply IsS28.drew | refine IsS28.setD ?_ (by first | (with_reducible assumption) | (with_unfolding_all decide)) (by first | (with_reducible assumption) | (with_unfolding_all decide)) (by first | (with_reducible assumption) | (with_unfolding_all decide)) (by first | (with_reducible assumption) | (with_unfolding_all decide)) _ | apply IsS28.row | apply IsS28.set_0 | apply IsS28.set_1) | exact HI0.out)⟩, ⟨by repeat (first | (with_reducible first | exact HK.out | apply KeepBut.set_ | apply keep_drewN | apply keep_drew | apply keep_alloc | apply keep_row) | exact HK.out)⟩, ⟨by repeat (first | (with_reducible first | exact HB.out | apply below_alloc | apply pw_below_drewN | apply below_drew1 | refine below_set ?_ (IsS28.ge HI0.out) | refine below_row ?_ (IsS28.ge HI0.out) _) | exact HB.out)⟩⟩
                            · rw [if_neg c16] at H
                              have c16b0 : ((x1002_3 (16 * (x3_2 : Int).toNat + (x4_3 : Int).toNat)) == 0) = false := beq_eq_false_iff_ne.mpr c16
                              have c16b1 : ((x1002_3 (16 * (x3_2 : Int).toNat + (x4_3 : Int).toNat)) != 0) = true := bne_iff_ne.mpr c16
                              replace H := Option.bind_eq_some_iff.mp H
                              obtain ⟨⟨t107, t108, t109, t110⟩, A180, H⟩ := H
                              replace H : (if t107 = true then (spec_l01Bay.l1 k3 x3_2 (IntKind.i8.wrap (x4_3 + 1)) t108 t109 t110) else (some (false, t108, t109, t110))) = some (r1, r2, r3, r4) := H
                              have A18 := Aside0.mk A180
                              clear A180
                              by_cases c19 : t107 = true
                              · subst c19
                                have H1 : (spec_l01Bay.l1 k3 x3_2 (IntKind.i8.wrap (x4_3 + 1)) t108 t109 t110) = some (r1, r2, r3, r4) := by rw [if_pos rfl] at H; exact H
                                clear H
                                have H := H1
                                clear H1
                                have H' := Aside0.mk H
                                clear H
                                obtain ⟨HGz20, hgz20⟩ := HI0.out
                                have hcz20_0 := cellS28_0 HGz20
                                have hcz20_1 := cellS28_1 HGz20
                                have hwz20 := lv28_at HGz20; have haz20 := at_cells HGz20; have hyz20 := BayAt28_of HGz20; have hvz20 := lvv_of HGz20; have hzz20 := fun q_ => blk_frozen HGz20 q_
                                have hfz20_0 := blk_frozen HGz20 0
                                have hfz20_1 := blk_frozen HGz20 1
                                have hfz20_2 := blk_frozen HGz20 2
                                clear HGz20 hgz20
                                go_wp2_with (first | ((with_reducible refine gate_callee (f := 35) rfl ?_); refine goesL_ (some 40) rfl rfl Tryd.func35 (by kernel_rfl) rfl #[.int .i64 (wrap64 (x1002_3 (16 * (x3_2 : Int).toNat + (x4_3 : Int).toNat))), .int .i64 0, .int .i64 30] rfl (by (try simp only [List.map_toArray, List.map_cons, List.map_nil]); first | done | rfl | (simp only [List.length_drop, List.length_take]; rfl)) ?_; (with_reducible refine (spec_l00In.calls (wrap64 (x1002_3 (16 * (x3_2 : Int).toNat + (x4_3 : Int).toNat))) 0 30 true _ A14.out).mono ?_); rintro e w' ⟨rfl, ⟨nd, rfl⟩⟩; refine ⟨_, rfl, ?_⟩) | (go_at_call 45; (with_reducible refine (spec_l01Is.calls g x1000_3 x1001_3 x1002_3 x4_3 x3_2 true t108 t109 t110 w0 _ ?side1 ?side2 A18.out).mono ?_); (case side1 => repeat (first | (with_reducible first | exact HI0.out | apply IsS28.alloc | apply IsS28.drewN | apply IsS28.drew | refine IsS28.setD ?_ (by first | (with_reducible assumption) | (with_unfolding_all decide)) (by first | (with_reducible assumption) | (with_unfolding_all decide)) (by first | (with_reducible assumption) | (with_unfolding_all decide)) (by first | (with_reducible assumption) | (with_unfolding_all decide)) _ | apply IsS28.row | apply IsS28.set_0 | apply IsS28.set_1) | exact HI0.out)); (case side2 => repeat (first | (with_reducible first | exact HB.out | apply below_alloc | apply pw_below_drewN | apply below_drew1 | refine below_set ?_ (IsS28.ge HI0.out) | refine below_row ?_ (IsS28.ge HI0.out) _) | exact HB.out)); rintro e w21 ⟨rfl, hi, hb, hk⟩; have n0_ := Aside0.mk (KeepBut.trans (by repeat (first | (with_reducible first | exact HK.out | apply KeepBut.set_ | apply keep_drewN | apply keep_drew | apply keep_alloc | apply keep_row) | exact HK.out)) hk (.inl rfl)); have n1_ := Aside0.mk (hb); have n2_ := Aside0.mk (hi); clear HK; clear HB; clear HI0; have HK := n0_; have HB := n1_; have HI0 := n2_; clear n0_ n1_ n2_; (try clear hb); (try clear hb2); (try clear hk); (try clear hi)))
                                go_roundg k3
                                case measure => have := HJ1.out; have := HK2.out; have := HK3.out; omega
                                case rel => exact ⟨(IntKind.i8.wrap (x4_3 + 1)), (t108), (t109), (t110), (by first | rfl | (simp; done) | (simp [*]; done) | (rw [i8_wrap_le] <;> first | rfl | omega) | (congr 1; unfold wrap64; omega)), H', ⟨by have := HJ1.out; have := HK2.out; have := HK3.out; omega⟩, ⟨by repeat (first | (with_reducible first | exact HI0.out | apply IsS28.alloc | apply IsS28.drewN | apply IsS28.drew | refine IsS28.setD ?_ (by first | (with_reducible assumption) | (with_unfolding_all decide)) (by first | (with_reducible assumption) | (with_unfolding_all decide)) (by first | (with_reducible assumption) | (with_unfolding_all decide)) (by first | (with_reducible assumption) | (with_unfolding_all decide)) _ | apply IsS28.row | apply IsS28.set_0 | apply IsS28.set_1) | exact HI0.out)⟩, ⟨by repeat (first | (with_reducible first | exact HK.out | apply KeepBut.set_ | apply keep_drewN | apply keep_drew | apply keep_alloc | apply keep_row) | exact HK.out)⟩, ⟨by repeat (first | (with_reducible first | exact HB.out | apply below_alloc | apply pw_below_drewN | apply below_drew1 | refine below_set ?_ (IsS28.ge HI0.out) | refine below_row ?_ (IsS28.ge HI0.out) _) | exact HB.out)⟩⟩
                              · replace c19 := Bool.eq_false_iff.mpr c19
                                subst c19
                                have H1 : (some (false, t108, t109, t110)) = some (r1, r2, r3, r4) := by rw [if_neg (show ¬ (false = true) by decide)] at H; exact H
                                clear H
                                have H := H1
                                clear H1
                                simp only [Option.some.injEq, Prod.mk.injEq] at H
                                obtain ⟨rfl, rfl, rfl, rfl⟩ := H
                                obtain ⟨HGz22, hgz22⟩ := HI0.out
                                have hcz22_0 := cellS28_0 HGz22
                                have hcz22_1 := cellS28_1 HGz22
                                have hwz22 := lv28_at HGz22; have haz22 := at_cells HGz22; have hyz22 := BayAt28_of HGz22; have hvz22 := lvv_of HGz22; have hzz22 := fun q_ => blk_frozen HGz22 q_
                                have hfz22_0 := blk_frozen HGz22 0
                                have hfz22_1 := blk_frozen HGz22 1
                                have hfz22_2 := blk_frozen HGz22 2
                                clear HGz22 hgz22
                                go_wp2_with (first | ((with_reducible refine gate_callee (f := 35) rfl ?_); refine goesL_ (some 40) rfl rfl Tryd.func35 (by kernel_rfl) rfl #[.int .i64 (wrap64 (x1002_3 (16 * (x3_2 : Int).toNat + (x4_3 : Int).toNat))), .int .i64 0, .int .i64 30] rfl (by (try simp only [List.map_toArray, List.map_cons, List.map_nil]); first | done | rfl | (simp only [List.length_drop, List.length_take]; rfl)) ?_; (with_reducible refine (spec_l00In.calls (wrap64 (x1002_3 (16 * (x3_2 : Int).toNat + (x4_3 : Int).toNat))) 0 30 true _ A14.out).mono ?_); rintro e w' ⟨rfl, ⟨nd, rfl⟩⟩; refine ⟨_, rfl, ?_⟩) | (go_at_call 45; (with_reducible refine (spec_l01Is.calls g x1000_3 x1001_3 x1002_3 x4_3 x3_2 false t108 t109 t110 w0 _ ?side1 ?side2 A18.out).mono ?_); (case side1 => repeat (first | (with_reducible first | exact HI0.out | apply IsS28.alloc | apply IsS28.drewN | apply IsS28.drew | refine IsS28.setD ?_ (by first | (with_reducible assumption) | (with_unfolding_all decide)) (by first | (with_reducible assumption) | (with_unfolding_all decide)) (by first | (with_reducible assumption) | (with_unfolding_all decide)) (by first | (with_reducible assumption) | (with_unfolding_all decide)) _ | apply IsS28.row | apply IsS28.set_0 | apply IsS28.set_1) | exact HI0.out)); (case side2 => repeat (first | (with_reducible first | exact HB.out | apply below_alloc | apply pw_below_drewN | apply below_drew1 | refine below_set ?_ (IsS28.ge HI0.out) | refine below_row ?_ (IsS28.ge HI0.out) _) | exact HB.out)); rintro e w23 ⟨rfl, hi, hb, hk⟩; have n0_ := Aside0.mk (KeepBut.trans (by repeat (first | (with_reducible first | exact HK.out | apply KeepBut.set_ | apply keep_drewN | apply keep_drew | apply keep_alloc | apply keep_row) | exact HK.out)) hk (.inl rfl)); have n1_ := Aside0.mk (hb); have n2_ := Aside0.mk (hi); clear HK; clear HB; clear HI0; have HK := n0_; have HB := n1_; have HI0 := n2_; clear n0_ n1_ n2_; (try clear hb); (try clear hb2); (try clear hk); (try clear hi)))
                                go_ret
                                exact ⟨by first | rfl | (simp [errW_none, errW_some] <;> rfl) | (simp [*, errW_none, errW_some] <;> rfl), by repeat (first | (with_reducible first | exact HI0.out | apply IsS28.alloc | apply IsS28.drewN | apply IsS28.drew | refine IsS28.setD ?_ (by first | (with_reducible assumption) | (with_unfolding_all decide)) (by first | (with_reducible assumption) | (with_unfolding_all decide)) (by first | (with_reducible assumption) | (with_unfolding_all decide)) (by first | (with_reducible assumption) | (with_unfolding_all decide)) _ | apply IsS28.row | apply IsS28.set_0 | apply IsS28.set_1) | exact HI0.out), by repeat (first | (with_reducible first | exact HB.out | apply below_alloc | apply pw_below_drewN | apply below_drew1 | refine below_set ?_ (IsS28.ge HI0.out) | refine below_row ?_ (IsS28.ge HI0.out) _) | exact HB.out), by repeat (first | (with_reducible first | exact HK.out | apply KeepBut.set_ | apply keep_drewN | apply keep_drew | apply keep_alloc | apply keep_row) | exact HK.out)⟩
                          · replace c15 := Bool.eq_false_iff.mpr c15
                            subst c15
                            have H1 : (some (false, x1000_3, x1001_3, x1002_3)) = some (r1, r2, r3, r4) := by rw [if_neg (show ¬ (false = true) by decide)] at H; exact H
                            clear H
                            have H := H1
                            clear H1
                            simp only [Option.some.injEq, Prod.mk.injEq] at H
                            obtain ⟨rfl, rfl, rfl, rfl⟩ := H
                            obtain ⟨HGz24, hgz24⟩ := HI0.out
                            have hcz24_0 := cellS28_0 HGz24
                            have hcz24_1 := cellS28_1 HGz24
                            have hwz24 := lv28_at HGz24; have haz24 := at_cells HGz24; have hyz24 := BayAt28_of HGz24; have hvz24 := lvv_of HGz24; have hzz24 := fun q_ => blk_frozen HGz24 q_
                            have hfz24_0 := blk_frozen HGz24 0
                            have hfz24_1 := blk_frozen HGz24 1
                            have hfz24_2 := blk_frozen HGz24 2
                            clear HGz24 hgz24
                            go_wp2_with (first | ((with_reducible refine gate_callee (f := 35) rfl ?_); refine goesL_ (some 40) rfl rfl Tryd.func35 (by kernel_rfl) rfl #[.int .i64 (wrap64 (x1002_3 (16 * (x3_2 : Int).toNat + (x4_3 : Int).toNat))), .int .i64 0, .int .i64 30] rfl (by (try simp only [List.map_toArray, List.map_cons, List.map_nil]); first | done | rfl | (simp only [List.length_drop, List.length_take]; rfl)) ?_; (with_reducible refine (spec_l00In.calls (wrap64 (x1002_3 (16 * (x3_2 : Int).toNat + (x4_3 : Int).toNat))) 0 30 false _ A14.out).mono ?_); rintro e w' ⟨rfl, ⟨nd, rfl⟩⟩; refine ⟨_, rfl, ?_⟩))
                            go_ret
                            exact ⟨by first | rfl | (simp [errW_none, errW_some] <;> rfl) | (simp [*, errW_none, errW_some] <;> rfl), by repeat (first | (with_reducible first | exact HI0.out | apply IsS28.alloc | apply IsS28.drewN | apply IsS28.drew | refine IsS28.setD ?_ (by first | (with_reducible assumption) | (with_unfolding_all decide)) (by first | (with_reducible assumption) | (with_unfolding_all decide)) (by first | (with_reducible assumption) | (with_unfolding_all decide)) (by first | (with_reducible assumption) | (with_unfolding_all decide)) _ | apply IsS28.row | apply IsS28.set_0 | apply IsS28.set_1) | exact HI0.out), by repeat (first | (with_reducible first | exact HB.out | apply below_alloc | apply pw_below_drewN | apply below_drew1 | refine below_set ?_ (IsS28.ge HI0.out) | refine below_row ?_ (IsS28.ge HI0.out) _) | exact HB.out), by repeat (first | (with_reducible first | exact HK.out | apply KeepBut.set_ | apply keep_drewN | apply keep_drew | apply keep_alloc | apply keep_row) | exact HK.out)⟩
                        · rw [if_neg c13] at H
                          exact absurd H (by simp)
                      · rw [if_neg c12] at H
                        exact absurd H (by simp)
                    · rw [if_neg c11] at H
                      exact absurd H (by simp)
                  · rw [if_neg c10] at H
                    have c10b0 : decide (x4_3 < 16) = false := decide_eq_false c10
                    clear c10
                    have H' := Aside0.mk H
                    clear H
                    go_wp2
                    go_roundg k3
                    case measure => have := HJ1.out; have := HK2.out; have := HK3.out; omega
                    case rel => exact ⟨(IntKind.i8.wrap (x3_2 + 1)), (x1000_3), (x1001_3), (x1002_3), (by first | rfl | (simp; done) | (simp [*]; done) | (rw [i8_wrap_le] <;> first | rfl | omega) | (congr 1; unfold wrap64; omega)), H', ⟨by have := HJ1.out; have := HK2.out; have := HK3.out; omega⟩, ⟨by repeat (first | (with_reducible first | exact HI0.out | apply IsS28.alloc | apply IsS28.drewN | apply IsS28.drew | refine IsS28.setD ?_ (by first | (with_reducible assumption) | (with_unfolding_all decide)) (by first | (with_reducible assumption) | (with_unfolding_all decide)) (by first | (with_reducible assumption) | (with_unfolding_all decide)) (by first | (with_reducible assumption) | (with_unfolding_all decide)) _ | apply IsS28.row | apply IsS28.set_0 | apply IsS28.set_1) | exact HI0.out)⟩, ⟨by repeat (first | (with_reducible first | exact HK.out | apply KeepBut.set_ | apply keep_drewN | apply keep_drew | apply keep_alloc | apply keep_row) | exact HK.out)⟩, ⟨by repeat (first | (with_reducible first | exact HB.out | apply below_alloc | apply pw_below_drewN | apply below_drew1 | refine below_set ?_ (IsS28.ge HI0.out) | refine below_row ?_ (IsS28.ge HI0.out) _) | exact HB.out)⟩⟩
            · rw [if_neg c9] at H
              have c9b0 : decide (x3_2 < 16) = false := decide_eq_false c9
              clear c9
              simp only [Option.some.injEq, Prod.mk.injEq] at H
              obtain ⟨rfl, rfl, rfl, rfl⟩ := H
              go_wp2
              go_ret
              exact ⟨by first | rfl | (simp [errW_none, errW_some] <;> rfl) | (simp [*, errW_none, errW_some] <;> rfl), by repeat (first | (with_reducible first | exact HI0.out | apply IsS28.alloc | apply IsS28.drewN | apply IsS28.drew | refine IsS28.setD ?_ (by first | (with_reducible assumption) | (with_unfolding_all decide)) (by first | (with_reducible assumption) | (with_unfolding_all decide)) (by first | (with_reducible assumption) | (with_unfolding_all decide)) (by first | (with_reducible assumption) | (with_unfolding_all decide)) _ | apply IsS28.row | apply IsS28.set_0 | apply IsS28.set_1) | exact HI0.out), by repeat (first | (with_reducible first | exact HB.out | apply below_alloc | apply pw_below_drewN | apply below_drew1 | refine below_set ?_ (IsS28.ge HI0.out) | refine below_row ?_ (IsS28.ge HI0.out) _) | exact HB.out), by repeat (first | (with_reducible first | exact HK.out | apply KeepBut.set_ | apply keep_drewN | apply keep_drew | apply keep_alloc | apply keep_row) | exact HK.out)⟩

/-! ### spec_l01Split: function 34 -/
def spec_l01Split.l0 : Nat → ByteArray → Int → List ByteArray → Int → Int → Option (List ByteArray)
  | 0, _, _, _, _, _ => none
  | k + 1, x0, x1, x5, x6, x7 => if x7 < (x0.size : Int) then (if 0 ≤ x7 then (if (bt x0 x7) = x1 then (if 0 ≤ x6 then (if x6 ≤ x7 then (if x7 ≤ (x0.size : Int) then (if x5.length < 8796093022208 then (spec_l01Split.l0 k x0 x1 (x5 ++ [x0.extract (x6 : Int).toNat (x7 : Int).toNat]) (wrap64 (x7 + 1)) (wrap64 (x7 + 1))) else (none)) else (none)) else (none)) else (none)) else (spec_l01Split.l0 k x0 x1 x5 x6 (wrap64 (x7 + 1)))) else (none)) else (if 0 ≤ x6 then (if x6 ≤ (x0.size : Int) then (if x5.length < 8796093022208 then (some (x5 ++ [x0.extract (x6 : Int).toNat x0.size])) else (none)) else (none)) else (none))
def spec_l01Split.f (k : Nat) (a0 : ByteArray) (a1 : Int) : Option (List ByteArray) := spec_l01Split.l0 k a0 a1 (([] : List ByteArray)) 0 0
theorem spec_l01Split.mono_l : ∀ k, (∀ y0 y1 y2 y3 y4, LeO (spec_l01Split.l0 k y0 y1 y2 y3 y4) (spec_l01Split.l0 (k + 1) y0 y1 y2 y3 y4))
  | 0 => fun _ _ _ _ _ r h => by simp [spec_l01Split.l0] at h
  | k + 1 => by
    have ih0 := spec_l01Split.mono_l k
    · intro y0 y1 y2 y3 y4
      unfold spec_l01Split.l0
      repeat' first
      | (with_reducible exact ih0 _ _ _ _ _)
      | (with_reducible exact LeO.refl _)
      | (with_reducible exact LeO.none _)
      | (with_reducible refine LeO.ite ?_ ?_)
      | (with_reducible refine LeO.bind ?_ (fun _ => ?_))
      | exact ih0 _ _ _ _ _
      | exact LeO.none _
      | refine LeO.ite ?_ ?_
      | refine LeO.bind ?_ (fun _ => ?_)
theorem spec_l01Split.mono : ∀ a0 a1 k, LeO (spec_l01Split.f k a0 a1) (spec_l01Split.f (k + 1) a0 a1) := by
  intro a0 a1 k
  have ih0 := spec_l01Split.mono_l k
  unfold spec_l01Split.f
  repeat' first
      | (with_reducible exact ih0 _ _ _ _ _)
      | (with_reducible exact LeO.refl _)
      | (with_reducible exact LeO.none _)
      | (with_reducible refine LeO.ite ?_ ?_)
      | (with_reducible refine LeO.bind ?_ (fun _ => ?_))
      | exact ih0 _ _ _ _ _
      | exact LeO.none _
      | refine LeO.ite ?_ ?_
      | refine LeO.bind ?_ (fun _ => ?_)
set_option maxHeartbeats 8000000 in
set_option maxRecDepth 100000 in
theorem spec_l01Split.calls (k : Nat) (a0 : ByteArray) (a1 : Int) (r : List ByteArray) (w : World) (h : spec_l01Split.f k a0 a1 = some r) :
    Calls Tryd.prog 34 #[.string a0, .int .u8 a1] w fun e w' => ∃ v0_ : Value, e = .returned (v0_) ∧ Kd.R Kd.string 9 w' w.heap.size (fun _ => True) v0_ r ∧ Below w.heap.size w w' := by
  have HB := Aside0.mk (Below.refl w.heap.size w)
  have H : (spec_l01Split.l0 k a0 a1 (([] : List ByteArray)) 0 0) = some r := h
  clear h
  obtain ⟨y111, hy111⟩ : ∃ y_ : List ByteArray, y_ = (([] : List ByteArray)) := ⟨_, rfl⟩
  replace H : (spec_l01Split.l0 k a0 a1 y111 0 0) = some r := by first | (rw [hy111]; with_reducible exact H) | (have H2_ := (Option.bind_some _ _).symm.trans H; rw [hy111]; with_reducible exact H2_) | (have H2_ := (Option.bind_some _ _).symm.trans H; with_reducible exact H2_) | with_reducible exact H | (rw [hy111]; exact H) | exact H
  have Ny111 := Aside0.mk hy111
  clear hy111
  have H' := Aside0.mk H
  clear H
  go_enter Tryd.func34, Tryd.ntmps34
  go_wp2_with (first | ((with_reducible refine gate_dst (N := 8) rfl ?_); refine Kd.R_lit Kd.string _ 9 ?hg (N := 8) ?hd (xs := ([] : List ByteArray)) (inner := []) (ok := fun _ => True) (okp := fun _ => True) ?hr ?hp (fun _ hk => hk) trivial (Below.refl _ _) (Nat.le_refl _) (by simp) ?_; (case hd => rfl); (case hg => rfl); (case hr => first | (go_simp; done) | (go_simp; rfl)); (case hp => exact (Reps.none _ _)); intro v112 w3 ho4 hb hg_ hnew_; clear hg_ hnew_; (first | rw [← Ny111.out] at ho4 | (simp only [Int.reduceToNat] at ho4; rw [← Ny111.out] at ho4)); have n0_ := Aside0.mk (Kd.R_lower ho4 (below_size (by repeat (first | (with_reducible first | exact HB.out | apply below_alloc | apply pw_below_drewN | apply below_drew1) | exact HB.out)))); have n1_ := Aside0.mk (below_step (by repeat (first | (with_reducible first | exact HB.out | apply below_alloc | apply pw_below_drewN | apply below_drew1) | exact HB.out)) hb); clear HB; have HO113 := n0_; have HB := n1_; clear n0_ n1_; clear hb ho4))
  go_loopg [5, 6, 7] k (fun kq v5 v6 v7 w' => ∃ (x5_1 : List ByteArray) (x6_1 : Int) (x7_1 : Int), v6 = .int .i64 x6_1 ∧ v7 = .int .i64 x7_1 ∧ Aside0 (spec_l01Split.l0 kq a0 a1 x5_1 x6_1 x7_1 = some r) ∧ Aside0 (kq ≤ k) ∧ Aside0 (Kd.R Kd.string 9 w' w.heap.size (fun _ => True) v5 x5_1) ∧ Aside0 (Below w.heap.size w w'))
  case atStart => exact ⟨(y111), (0), (0), (by first | rfl | (simp; done) | (simp [*]; done) | (rw [i8_wrap_le] <;> first | rfl | omega) | (congr 1; unfold wrap64; omega)), (by first | rfl | (simp; done) | (simp [*]; done) | (rw [i8_wrap_le] <;> first | rfl | omega) | (congr 1; unfold wrap64; omega)), H', ⟨Nat.le_refl _⟩, ⟨by (with_reducible repeat (first | apply Kd.R_alloc | apply Kd.R_drewN | apply Kd.R_drew)); exact HO113.out⟩, ⟨by repeat (first | (with_reducible first | exact HB.out | apply below_alloc | apply pw_below_drewN | apply below_drew1) | exact HB.out)⟩⟩
  case round =>
    clear H'
    try clear p2
    try clear c3
    obtain ⟨x5_1, x6_1, x7_1, rfl, rfl, HA, HK1, HO_5, HB⟩ := hrel
    cases gk with
    | zero => exact absurd HA.out (by simp [spec_l01Split.l0])
    | succ k1 =>
      have H := HA.out
      clear HA
      simp only [spec_l01Split.l0] at H
      by_cases c5 : x7_1 < (a0.size : Int)
      · rw [if_pos c5] at H
        have c5b0 : decide (x7_1 < (a0.size : Int)) = true := decide_eq_true c5
        clear c5
        by_cases c6 : 0 ≤ x7_1
        · rw [if_pos c6] at H
          have c6b0 : decide (0 ≤ x7_1) = true := decide_eq_true c6
          have c6b1 : 0 ≤ x7_1 := c6
          clear c6
          by_cases c8 : (bt a0 x7_1) = a1
          · rw [if_pos c8] at H
            have c8b0 : ((bt a0 x7_1) == a1) = true := beq_iff_eq.mpr c8
            have c8b1 : ((bt a0 x7_1) != a1) = false := bne_eq_false_iff_eq.mpr c8
            clear c8
            by_cases c9 : 0 ≤ x6_1
            · rw [if_pos c9] at H
              have c9b0 := eq_true c9
              have c9b1 : decide (0 ≤ x6_1) = true := decide_eq_true c9
              clear c9
              by_cases c10 : x6_1 ≤ x7_1
              · rw [if_pos c10] at H
                have c10b0 := eq_true c10
                have c10b1 : decide (x6_1 ≤ x7_1) = true := decide_eq_true c10
                clear c10
                by_cases c11 : x7_1 ≤ (a0.size : Int)
                · rw [if_pos c11] at H
                  have c11b0 := eq_true c11
                  have c11b1 : decide (x7_1 ≤ (a0.size : Int)) = true := decide_eq_true c11
                  clear c11
                  by_cases c12 : x5_1.length < 8796093022208
                  · rw [if_pos c12] at H
                    have LMc12 := Aside0.mk c12
                    clear c12
                    obtain ⟨y114, hy114⟩ : ∃ y_ : List ByteArray, y_ = (x5_1 ++ [a0.extract (x6_1 : Int).toNat (x7_1 : Int).toNat]) := ⟨_, rfl⟩
                    replace H : (spec_l01Split.l0 k1 a0 a1 y114 (wrap64 (x7_1 + 1)) (wrap64 (x7_1 + 1))) = some r := by first | (rw [hy114]; with_reducible exact H) | (have H2_ := (Option.bind_some _ _).symm.trans H; rw [hy114]; with_reducible exact H2_) | (have H2_ := (Option.bind_some _ _).symm.trans H; with_reducible exact H2_) | with_reducible exact H | (rw [hy114]; exact H) | exact H
                    have Ny114 := Aside0.mk hy114
                    clear hy114
                    have H' := Aside0.mk H
                    clear H
                    have p7 : 0 ≤ (x7_1 : Int) := of_decide_eq_true (by first | (with_reducible assumption) | assumption)
                    have q7 : x7_1 < (a0.size : Int) := of_decide_eq_true (by first | (with_reducible assumption) | assumption)
                    have hx7 := bt_at a0 x7_1
                    replace p7 := eq_true p7
                    replace q7 := eq_true q7
                    go_wp2_with (first | ((with_reducible refine gate_builtin (b := .append) (xs := #[.tmp 20, .tmp 25]) rfl ?_); at_builtin; refine Kd.R_append Kd.string (w0 := w) w.heap.size rfl (.tmp 20) (.tmp 25) 51 9 (.string ⟨#[]⟩) 16 rfl Tryd.underlying51 info9 rfl (by decide) (by omega) u5 x5_1 (a0.extract (x6_1 : Int).toNat (x7_1 : Int).toNat) [.string (a0.extract (x6_1 : Int).toNat (x7_1 : Int).toNat)] (fun _ => True) (fun _ => False) rfl rfl ?aP (fun _ hk => hk.elim) ?aF ?aO ?aB ?aS ?aL ?_; (case aP => exact rfl); (case aB => exact (by repeat (first | (with_reducible first | exact HB.out | apply below_alloc | apply pw_below_drewN | apply below_drew1) | exact HB.out))); (case aF => exact (fun _ _ => trivial)); (case aO => exact (by (with_reducible repeat (first | apply Kd.R_alloc | apply Kd.R_drewN | apply Kd.R_drew)); exact HO_5.out)); (case aS => exact (below_size (by repeat (first | (with_reducible first | exact HB.out | apply below_alloc | apply pw_below_drewN | apply below_drew1) | exact HB.out)))); (case aL => have := LMc12.out; omega); intro v115 w13 ho hb hg hat; rw [← Ny114.out] at ho; have n0_ := Aside0.mk (hb); have n1_ := Aside0.mk (ho); clear HB; clear HO_5; have HB := n0_; have HO116 := n1_; clear n0_ n1_; clear ho hb hg hat))
                    go_roundg k1
                    case measure => have := HK1.out; omega
                    case rel => exact ⟨(y114), (wrap64 (x7_1 + 1)), (wrap64 (x7_1 + 1)), (by first | rfl | (simp; done) | (simp [*]; done) | (rw [i8_wrap_le] <;> first | rfl | omega) | (congr 1; unfold wrap64; omega)), (by first | rfl | (simp; done) | (simp [*]; done) | (rw [i8_wrap_le] <;> first | rfl | omega) | (congr 1; unfold wrap64; omega)), H', ⟨by have := HK1.out; omega⟩, ⟨by (with_reducible repeat (first | apply Kd.R_alloc | apply Kd.R_drewN | apply Kd.R_drew)); exact HO116.out⟩, ⟨by repeat (first | (with_reducible first | exact HB.out | apply below_alloc | apply pw_below_drewN | apply below_drew1) | exact HB.out)⟩⟩
                  · rw [if_neg c12] at H
                    exact absurd H (by simp)
                · rw [if_neg c11] at H
                  exact absurd H (by simp)
              · rw [if_neg c10] at H
                exact absurd H (by simp)
            · rw [if_neg c9] at H
              exact absurd H (by simp)
          · rw [if_neg c8] at H
            have c8b0 : ((bt a0 x7_1) == a1) = false := beq_eq_false_iff_ne.mpr c8
            have c8b1 : ((bt a0 x7_1) != a1) = true := bne_iff_ne.mpr c8
            have H' := Aside0.mk H
            clear H
            have p7 : 0 ≤ (x7_1 : Int) := of_decide_eq_true (by first | (with_reducible assumption) | assumption)
            have q7 : x7_1 < (a0.size : Int) := of_decide_eq_true (by first | (with_reducible assumption) | assumption)
            have hx7 := bt_at a0 x7_1
            replace p7 := eq_true p7
            replace q7 := eq_true q7
            go_wp2
            go_roundg k1
            case measure => have := HK1.out; omega
            case rel => exact ⟨(x5_1), (x6_1), (wrap64 (x7_1 + 1)), (by first | rfl | (simp; done) | (simp [*]; done) | (rw [i8_wrap_le] <;> first | rfl | omega) | (congr 1; unfold wrap64; omega)), (by first | rfl | (simp; done) | (simp [*]; done) | (rw [i8_wrap_le] <;> first | rfl | omega) | (congr 1; unfold wrap64; omega)), H', ⟨by have := HK1.out; omega⟩, ⟨by (with_reducible repeat (first | apply Kd.R_alloc | apply Kd.R_drewN | apply Kd.R_drew)); exact HO_5.out⟩, ⟨by repeat (first | (with_reducible first | exact HB.out | apply below_alloc | apply pw_below_drewN | apply below_drew1) | exact HB.out)⟩⟩
        · rw [if_neg c6] at H
          exact absurd H (by simp)
      · rw [if_neg c5] at H
        have c5b0 : decide (x7_1 < (a0.size : Int)) = false := decide_eq_false c5
        clear c5
        by_cases c14 : 0 ≤ x6_1
        · rw [if_pos c14] at H
          have c14b0 := eq_true c14
          have c14b1 : decide (0 ≤ x6_1) = true := decide_eq_true c14
          clear c14
          by_cases c15 : x6_1 ≤ (a0.size : Int)
          · rw [if_pos c15] at H
            have c15b0 := eq_true c15
            have c15b1 : decide (x6_1 ≤ (a0.size : Int)) = true := decide_eq_true c15
            clear c15
            by_cases c16 : x5_1.length < 8796093022208
            · rw [if_pos c16] at H
              have LMc16 := Aside0.mk c16
              clear c16
              obtain ⟨y117, hy117⟩ : ∃ y_ : List ByteArray, y_ = (x5_1 ++ [a0.extract (x6_1 : Int).toNat a0.size]) := ⟨_, rfl⟩
              replace H : (some y117) = some r := by first | (rw [hy117]; with_reducible exact H) | (have H2_ := (Option.bind_some _ _).symm.trans H; rw [hy117]; with_reducible exact H2_) | (have H2_ := (Option.bind_some _ _).symm.trans H; with_reducible exact H2_) | with_reducible exact H | (rw [hy117]; exact H) | exact H
              have Ny117 := Aside0.mk hy117
              clear hy117
              obtain rfl := Option.some.inj H
              go_wp2_with (first | ((with_reducible refine gate_builtin (b := .append) (xs := #[.tmp 29, .tmp 33]) rfl ?_); at_builtin; refine Kd.R_append Kd.string (w0 := w) w.heap.size rfl (.tmp 29) (.tmp 33) 51 9 (.string ⟨#[]⟩) 16 rfl Tryd.underlying51 info9 rfl (by decide) (by omega) u5 x5_1 (a0.extract (x6_1 : Int).toNat a0.size) [.string (a0.extract (x6_1 : Int).toNat a0.size)] (fun _ => True) (fun _ => False) rfl rfl ?aP (fun _ hk => hk.elim) ?aF ?aO ?aB ?aS ?aL ?_; (case aP => exact rfl); (case aB => exact (by repeat (first | (with_reducible first | exact HB.out | apply below_alloc | apply pw_below_drewN | apply below_drew1) | exact HB.out))); (case aF => exact (fun _ _ => trivial)); (case aO => exact (by (with_reducible repeat (first | apply Kd.R_alloc | apply Kd.R_drewN | apply Kd.R_drew)); exact HO_5.out)); (case aS => exact (below_size (by repeat (first | (with_reducible first | exact HB.out | apply below_alloc | apply pw_below_drewN | apply below_drew1) | exact HB.out)))); (case aL => have := LMc16.out; omega); intro v118 w17 ho hb hg hat; rw [← Ny117.out] at ho; have n0_ := Aside0.mk (hb); have n1_ := Aside0.mk (ho); clear HB; clear HO_5; have HB := n0_; have HO119 := n1_; clear n0_ n1_; clear ho hb hg hat))
              go_ret
              exact ⟨_, by first | rfl | (simp [errW_none, errW_some] <;> rfl) | (simp [*, errW_none, errW_some] <;> rfl), by (with_reducible repeat (first | apply Kd.R_alloc | apply Kd.R_drewN | apply Kd.R_drew)); exact HO119.out, by repeat (first | (with_reducible first | exact HB.out | apply below_alloc | apply pw_below_drewN | apply below_drew1) | exact HB.out)⟩
            · rw [if_neg c16] at H
              exact absurd H (by simp)
          · rw [if_neg c15] at H
            exact absurd H (by simp)
        · rw [if_neg c14] at H
          exact absurd H (by simp)

end Go.Proofs.YteffdjfiialdfaaDoor.PFnExactReadBay
