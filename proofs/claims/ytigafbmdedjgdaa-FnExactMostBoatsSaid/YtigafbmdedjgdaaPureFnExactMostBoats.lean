/- MostBoats of the program returns what the reference's returns, for all bays and lists of boats. Conditions: none. -/
import Derived.Test.YtigafbmdedjgdaaPFnExactMostBoatsx14
namespace Go.Proofs.Ytigafbmdedjgdaa.Pure
open Go.RowKit Go.Proofs.Ytigafbmdedjgdaa.PFnExactMostBoats Go.Proofs.YtigafbmdedjgdaaW.PrintWords Go.Proofs.YtigafbmdedjgdaaW.PrintLast
set_option linter.unusedVariables false
set_option linter.unusedSimpArgs false

/-- From some number of rounds on it answers a truth value: whether P holds. -/
def EvB (g : Nat → Option Bool) (P : Prop) : Prop := ∃ b, Ev g b ∧ (b = true ↔ P)
theorem EvB.iff {g : Nat → Option Bool} {P Q : Prop} (h : EvB g P) (e : P ↔ Q) : EvB g Q := by
  obtain ⟨b, h1, h2⟩ := h
  exact ⟨b, h1, h2.trans e⟩
theorem EvB.step {g f : Nat → Option Bool} {P : Prop} (h : ∀ k, g (k + 1) = f k) (k : EvB f P) : EvB g P := by
  obtain ⟨b, h1, h2⟩ := k
  exact ⟨b, Ev.step h h1, h2⟩
theorem EvB.congr {g f : Nat → Option Bool} {P : Prop} (h : ∀ k, g k = f k) (k : EvB f P) : EvB g P := by
  obtain ⟨b, h1, h2⟩ := k
  exact ⟨b, Ev.congr h h1, h2⟩
theorem EvB.yes {P : Prop} (h : P) : EvB (fun _ => some true) P := ⟨true, Ev.now _, by simp [h]⟩
theorem EvB.no {P : Prop} (h : ¬ P) : EvB (fun _ => some false) P := ⟨false, Ev.now _, by simp [h]⟩
theorem EvB.bind {α : Type} {g : Nat → Option α} {f : Nat → α → Option Bool} {a : α} {P : Prop} (h : Ev g a) (k : EvB (fun n => f n a) P) : EvB (fun n => (g n).bind (f n)) P := by
  obtain ⟨b, h1, h2⟩ := k
  exact ⟨b, Ev.bind h h1, h2⟩
theorem EvB.same {g f : Nat → Option Bool} {P : Prop} (h : EvB g P) (k : EvB f P) : ∃ b, Ev g b ∧ Ev f b ∧ (b = true ↔ P) := by
  obtain ⟨b, h1, h2⟩ := h
  obtain ⟨c, h3, h4⟩ := k
  have e : c = b := by rw [Bool.eq_iff_iff, h4, h2]
  subst e
  exact ⟨c, h1, h3, h2⟩

theorem i8_of {n : Int} (h : (Lit.int .i8 n).wf = true) : -128 ≤ n ∧ n ≤ 127 := by
  simp [Lit.wf, IntKind.min, IntKind.max, IntKind.signed, IntKind.bits] at h
  omega
/-- What is known of a bay that came in. -/
def FitB (a b : Int) (d : Nat → Int) : Prop := (-128 ≤ a ∧ a ≤ 127) ∧ (-128 ≤ b ∧ b ≤ 127) ∧ ∀ i, i < 256 → -128 ≤ d i ∧ d i ≤ 127
theorem fitB {a b : Int} {d : Nat → Int} (ha : (Lit.int .i8 a).wf = true) (hb : (Lit.int .i8 b).wf = true) (hd : ∀ i, i < 256 → (Lit.int .i8 (d i)).wf = true) : FitB a b d := ⟨i8_of ha, i8_of hb, fun i hi => i8_of (hd i hi)⟩
theorem i8w (n : Int) (h : 0 ≤ n) (h2 : n ≤ 127) : IntKind.i8.wrap n = n := Bay.i8_wrap_le n h h2
/-- It answers whether P holds, and hands the bay back. -/
def EvR (a b : Int) (d : Nat → Int) (f : Nat → Option (Bool × Int × Int × (Nat → Int))) (P : Prop) : Prop := ∃ r : Bool, Ev f (r, a, b, d) ∧ (r = true ↔ P)
theorem EvR.step {a b : Int} {d : Nat → Int} {f g : Nat → Option (Bool × Int × Int × (Nat → Int))} {P : Prop} (h : ∀ k, g (k + 1) = f k) (k : EvR a b d f P) : EvR a b d g P := by
  obtain ⟨r, h1, h2⟩ := k
  exact ⟨r, Ev.step h h1, h2⟩
theorem EvR.iff {a b : Int} {d : Nat → Int} {f : Nat → Option (Bool × Int × Int × (Nat → Int))} {P Q : Prop} (k : EvR a b d f P) (e : P ↔ Q) : EvR a b d f Q := by
  obtain ⟨r, h1, h2⟩ := k
  exact ⟨r, h1, h2.trans e⟩
theorem EvR.no {a b : Int} {d : Nat → Int} {P : Prop} (h : ¬ P) : EvR a b d (fun _ => some (false, a, b, d)) P := ⟨false, Ev.now _, by simp [h]⟩
theorem EvR.yes {a b : Int} {d : Nat → Int} {P : Prop} (h : P) : EvR a b d (fun _ => some (true, a, b, d)) P := ⟨true, Ev.now _, by simp [h]⟩
theorem in_some (a b c : Int) : spec_l00In.f a b c = some (decide (b ≤ a ∧ a ≤ c)) := by
  unfold spec_l00In.f
  by_cases h : a ≥ b
  · rw [if_pos h]; simp [h]
  · rw [if_neg h, decide_eq_false (fun q => h q.1)]
theorem w64 {n : Int} (h : -9223372036854775808 ≤ n ∧ n ≤ 9223372036854775807) : wrap64 n = n := by unfold wrap64; omega
theorem is_some {a b : Int} {d : Nat → Int} (hf : FitB a b d) (x y : Int) (hx : -128 ≤ x ∧ x ≤ 127) (hy : -128 ≤ y ∧ y ≤ 127) : spec_l01Is.f a b d x y = some (decide ((0 ≤ x ∧ x < a) ∧ (0 ≤ y ∧ y < b)), a, b, d) := by
  unfold spec_l01Is.f
  have := hf.1
  have := hf.2.1
  rw [w64 (n := x) (by omega), w64 (n := y) (by omega), w64 (n := a) (by omega), w64 (n := b) (by omega), w64 (n := a - 1) (by omega), w64 (n := b - 1) (by omega), in_some, in_some]
  simp only [Option.bind_some]
  by_cases h1 : 0 ≤ x ∧ x ≤ a - 1
  · rw [decide_eq_true h1, if_pos rfl]
    congr 2
    rw [decide_eq_decide]
    omega
  · rw [decide_eq_false h1, if_neg (by decide)]
    congr 2
    rw [eq_comm, decide_eq_false_iff_not]
    omega
theorem okD_cell {a b : Int} {d : Nat → Int} (hf : FitB a b d) (y x : Nat) (hy : y < 16) (hx : x < 16) {f : Nat → Option (Bool × Int × Int × (Nat → Int))} {P : Prop} (k : EvR a b d f P) :
    EvR a b d (fun g => (spec_l00In.f (wrap64 (d (16 * y + x))) 0 30).bind fun t => (if t = true then (if d (16 * y + x) = 0 then f g else ((spec_l01Is.f a b d x y).bind fun q => (if q.1 = true then f g else (some (false, q.2.1, q.2.2.1, q.2.2.2))))) else (some (false, a, b, d)))) (BayIn.okD a b y x (d (16 * y + x)) ∧ P) := by
  have hd := hf.2.2 (16 * y + x) (by omega)
  rw [w64 (by omega)]
  simp only [in_some, is_some hf x y (by omega) (by omega), Option.bind_some]
  unfold BayIn.okD
  by_cases h1 : 0 ≤ d (16 * y + x) ∧ d (16 * y + x) ≤ 30
  · simp only [decide_eq_true h1, if_true]
    by_cases h2 : d (16 * y + x) = 0
    · simp only [if_pos h2]
      exact k.iff ⟨fun h => ⟨⟨h1.1, h1.2, fun q => absurd h2 q⟩, h⟩, fun h => h.2⟩
    · simp only [if_neg h2]
      by_cases h3 : (0 ≤ (x : Int) ∧ (x : Int) < a) ∧ (0 ≤ (y : Int) ∧ (y : Int) < b)
      · simp only [decide_eq_true h3, if_true]
        exact k.iff ⟨fun h => ⟨⟨h1.1, h1.2, fun _ => ⟨h3.1.2, h3.2.2⟩⟩, h⟩, fun h => h.2⟩
      · simp only [decide_eq_false h3, Bool.false_eq_true, if_false]
        exact EvR.no (fun h => h3 (by have := h.1.2.2 h2; omega))
  · simp only [decide_eq_false h1, Bool.false_eq_true, if_false]
    exact EvR.no (fun h => h1 ⟨h.1.1, h.1.2.1⟩)
theorem bay_row {a b : Int} {d : Nat → Int} (hf : FitB a b d) (y : Nat) (hy : y < 16) {P : Prop} (k : EvR a b d (fun g => spec_l01Bay.l0 g ((y + 1 : Nat) : Int) a b d) P) (n : Nat) : ∀ x : Nat, 16 = x + n →
    EvR a b d (fun g => spec_l01Bay.l1 g (y : Int) (x : Int) a b d) ((∀ j, x ≤ j → j < 16 → BayIn.okD a b y j (d (16 * y + j))) ∧ P) := by
  induction n with
  | zero =>
    intro x hx
    refine (EvR.step (fun g => ?_) k).iff ⟨fun h => ⟨fun j h1 h2 => by omega, h⟩, fun h => h.2⟩
    simp only [spec_l01Bay.l1]
    rw [if_neg (by omega), i8w _ (by omega) (by omega)]
    rfl
  | succ n ih =>
    intro x hx
    refine (EvR.step (fun g => ?_) (okD_cell hf y x hy (by omega) (ih (x + 1) (by omega)))).iff ?_
    · simp only [spec_l01Bay.l1]
      rw [if_pos (by omega), if_pos (by omega), if_pos (by omega), if_pos (by omega), i8w _ (by omega) (by omega), Int.toNat_natCast, Int.toNat_natCast]
      rw [is_some hf x y (by omega) (by omega)]
      rfl
    · refine ⟨fun h => ⟨fun j h1 h2 => ?_, h.2.2⟩, fun h => ⟨h.1 x (Nat.le_refl _) (by omega), fun j h1 h2 => h.1 j (by omega) h2, h.2⟩⟩
      by_cases e : j = x
      · rw [e]; exact h.1
      · exact h.2.1 j (by omega) h2
theorem bay_rows {a b : Int} {d : Nat → Int} (hf : FitB a b d) (n : Nat) : ∀ y : Nat, 16 = y + n → EvR a b d (fun g => spec_l01Bay.l0 g (y : Int) a b d) (∀ j, y ≤ j → j < 16 → ∀ x, x < 16 → BayIn.okD a b j x (d (16 * j + x))) := by
  induction n with
  | zero =>
    intro y hy
    refine EvR.step (fun g => ?_) (EvR.yes (fun j h1 h2 => by omega))
    simp only [spec_l01Bay.l0]
    rw [if_neg (by omega)]
  | succ n ih =>
    intro y hy
    refine (EvR.step (fun g => ?_) (bay_row hf y (by omega) (ih (y + 1) (by omega)) 16 0 (by omega))).iff ?_
    · simp only [spec_l01Bay.l0]
      rw [if_pos (by omega)]
      rfl
    · refine ⟨fun h j h1 h2 x hx => ?_, fun h => ⟨fun x _ hx => h y (Nat.le_refl _) (by omega) x hx, fun j h1 h2 => h j (by omega) h2⟩⟩
      by_cases e : j = y
      · rw [e]; exact h.1 x (by omega) hx
      · exact h.2 j (by omega) h2 x hx
/-- The reference's word on a bay. -/
theorem spec_bay {a b : Int} {d : Nat → Int} (hf : FitB a b d) : EvR a b d (fun g => spec_l01Bay.f g a b d) (BayIn.okBay a b d) := by
  have h1 := hf.1
  have h2 := hf.2.1
  have e : ∀ g, spec_l01Bay.f g a b d = spec_l01Bay.j0 g (! decide ((1 ≤ a ∧ a ≤ 16) ∧ (1 ≤ b ∧ b ≤ 16))) a b d := by
    intro g
    unfold spec_l01Bay.f
    rw [w64 (n := a) (by omega), w64 (n := b) (by omega), in_some, in_some]
    simp only [Option.bind_some]
    by_cases c1 : 1 ≤ a ∧ a ≤ 16
    · by_cases c2 : 1 ≤ b ∧ b ≤ 16 <;> simp [c1, c2]
    · simp [c1]
  obtain ⟨r, k1, k2⟩ := bay_rows hf 16 0 (by omega)
  unfold BayIn.okBay
  by_cases c : (1 ≤ a ∧ a ≤ 16) ∧ (1 ≤ b ∧ b ≤ 16)
  · rw [decide_eq_true c] at e
    refine ⟨r, Ev.congr e (Ev.step (fun g => by simp only [spec_l01Bay.j0, Bool.not_true, Bool.false_eq_true, if_false]; rfl) k1), k2.trans ?_⟩
    exact ⟨fun h => ⟨c.1.1, c.1.2, c.2.1, c.2.2, fun y hy => h y (Nat.zero_le _) hy⟩, fun h j _ hj => h.2.2.2.2 j hj⟩
  · rw [decide_eq_false c] at e
    refine ⟨false, Ev.congr e (Ev.step (f := fun _ => some (false, a, b, d)) (fun g => by simp only [spec_l01Bay.j0, Bool.not_false, if_true]) (Ev.now _)), ?_⟩
    simp only [Bool.false_eq_true, false_iff]
    intro h
    exact c ⟨⟨h.1, h.2.1⟩, h.2.2.1, h.2.2.2.1⟩

def dep (d : Nat → Int) (x y : Int) : Int := d (16 * y.toNat + x.toNat)
def OkBoat (a b : Int) (d : Nat → Int) (x y c l w q : Int) : Prop := (0 ≤ x ∧ x < a) ∧ (0 ≤ y ∧ y < b) ∧ 0 < dep d x y ∧ (1 ≤ c ∧ c ≤ 60) ∧ (0 ≤ l ∧ l ≤ 5) ∧ (1 ≤ w ∧ w ≤ 30) ∧ (0 ≤ q ∧ q ≤ 9)
instance (a b : Int) (d : Nat → Int) (x y c l w q : Int) : Decidable (OkBoat a b d x y c l w q) := by unfold OkBoat; infer_instance
theorem dep_bd {a b : Int} {d : Nat → Int} (hf : FitB a b d) {x y : Int} (hx : 0 ≤ x ∧ x < 16) (hy : 0 ≤ y ∧ y < 16) : -128 ≤ dep d x y ∧ dep d x y ≤ 127 := hf.2.2 _ (by omega)
theorem dep_ok {a b : Int} {d : Nat → Int} (ho : BayIn.okBay a b d) {x y : Int} (hx : 0 ≤ x ∧ x < 16) (hy : 0 ≤ y ∧ y < 16) : 0 ≤ dep d x y ∧ dep d x y ≤ 30 := by
  have := ho.2.2.2.2 y.toNat (by omega) x.toNat (by omega)
  exact ⟨this.1, this.2.1⟩
theorem spec_depth {a b : Int} {d : Nat → Int} (hf : FitB a b d) {x y : Int} (hx : 0 ≤ x ∧ x < 16) (hy : 0 ≤ y ∧ y < 16) : spec_l01Depth.f a b d x y = some (dep d x y, a, b, d) := by
  have := dep_bd hf hx hy
  unfold spec_l01Depth.f
  rw [if_pos hy.1, if_pos hy.2, if_pos hx.1, if_pos hx.2, w64 (n := d (16 * y.toNat + x.toNat)) (by unfold dep at this; omega)]
  rfl
theorem impl_depth_at {a b : Int} {d : Nat → Int} (hf : FitB a b d) {x y : Int} (hx : 0 ≤ x ∧ x < 16) (hy : 0 ≤ y ∧ y < 16) : impl_depth.f a b d x y = some (dep d x y) := by
  have := dep_bd hf hx hy
  unfold impl_depth.f
  rw [if_pos hy.1, if_pos hy.2, if_pos hx.1, if_pos hx.2, w64 (n := d (16 * y.toNat + x.toNat)) (by unfold dep at this; omega)]
  rfl
def FitT (x y c l w q : Int) : Prop := (-128 ≤ x ∧ x ≤ 127) ∧ (-128 ≤ y ∧ y ≤ 127) ∧ (-128 ≤ c ∧ c ≤ 127) ∧ (-128 ≤ l ∧ l ≤ 127) ∧ (-128 ≤ w ∧ w ≤ 127) ∧ (-128 ≤ q ∧ q ≤ 127)
theorem spec_boat {a b : Int} {d : Nat → Int} (hf : FitB a b d) (ho : BayIn.okBay a b d) {x y c l w q : Int} (ht : FitT x y c l w q) : spec_l01Boat.f a b d x y c l w q = some (decide (OkBoat a b d x y c l w q), a, b, d) := by
  have h1 := ho.2.1
  have h2 := ho.2.2.2.1
  obtain ⟨t1, t2, t3, t4, t5, t6⟩ := ht
  unfold spec_l01Boat.f
  rw [is_some hf x y t1 t2, w64 (n := c) (by omega), w64 (n := l) (by omega), w64 (n := w) (by omega), w64 (n := q) (by omega), in_some, in_some, in_some, in_some]
  simp only [Option.bind_some]
  by_cases c1 : (0 ≤ x ∧ x < a) ∧ (0 ≤ y ∧ y < b)
  · rw [decide_eq_true c1, if_pos rfl, spec_depth hf (by omega) (by omega)]
    simp only [Option.bind_some]
    by_cases c2 : 0 < dep d x y
    · rw [if_pos c2]
      by_cases c3 : 1 ≤ c ∧ c ≤ 60
      · by_cases c4 : 0 ≤ l ∧ l ≤ 5
        · by_cases c5 : 1 ≤ w ∧ w ≤ 30
          · simp only [decide_eq_true c3, decide_eq_true c4, decide_eq_true c5, if_true]
            congr 2
            rw [decide_eq_decide]
            exact ⟨fun h => ⟨c1.1, c1.2, c2, c3, c4, c5, h⟩, fun h => h.2.2.2.2.2.2⟩
          · simp only [decide_eq_true c3, decide_eq_true c4, decide_eq_false c5, if_true, Bool.false_eq_true, if_false]
            rw [decide_eq_false (fun h : OkBoat a b d x y c l w q => c5 h.2.2.2.2.2.1)]
        · simp only [decide_eq_true c3, decide_eq_false c4, if_true, Bool.false_eq_true, if_false]
          rw [decide_eq_false (fun h : OkBoat a b d x y c l w q => c4 h.2.2.2.2.1)]
      · simp only [decide_eq_false c3, Bool.false_eq_true, if_false]
        rw [decide_eq_false (fun h : OkBoat a b d x y c l w q => c3 h.2.2.2.1)]
    · rw [if_neg c2, decide_eq_false (fun h : OkBoat a b d x y c l w q => c2 h.2.2.1)]
  · rw [decide_eq_false c1, if_neg (by decide), decide_eq_false (fun h : OkBoat a b d x y c l w q => c1 ⟨h.1, h.2.1⟩)]
theorem impl_water {a b : Int} {d : Nat → Int} (hf : FitB a b d) (ho : BayIn.okBay a b d) (x y : Int) : impl_isWater.f a b d x y = some (decide ((0 ≤ x ∧ x < a) ∧ (0 ≤ y ∧ y < b) ∧ 0 < dep d x y)) := by
  have h1 := ho.2.1
  have h2 := ho.2.2.2.1
  have e : impl_isPlace.f a b d x y = some (decide ((0 ≤ x ∧ x < a) ∧ (0 ≤ y ∧ y < b))) := by
    unfold impl_isPlace.f
    by_cases c1 : 0 ≤ x
    · by_cases c2 : x < a
      · by_cases c3 : 0 ≤ y <;> simp [c1, c2, c3]
      · simp [c1, c2]
    · simp [c1]
  unfold impl_isWater.f
  rw [e]
  simp only [Option.bind_some]
  by_cases c1 : (0 ≤ x ∧ x < a) ∧ (0 ≤ y ∧ y < b)
  · rw [decide_eq_true c1, if_pos rfl, impl_depth_at hf (by omega) (by omega)]
    simp only [Option.bind_some]
    congr 1
    rw [decide_eq_decide]
    exact ⟨fun h => ⟨c1.1, c1.2, h⟩, fun h => h.2.2⟩
  · rw [decide_eq_false c1, if_neg (by decide), decide_eq_false (fun h => c1 ⟨h.1, h.2.1⟩)]
theorem impl_boat {a b : Int} {d : Nat → Int} (hf : FitB a b d) (ho : BayIn.okBay a b d) (x y c l w q : Int) : impl_isBoat.f a b d x y c l w q = some (decide (OkBoat a b d x y c l w q)) := by
  unfold impl_isBoat.f
  rw [impl_water hf ho]
  simp only [Option.bind_some]
  by_cases c1 : (0 ≤ x ∧ x < a) ∧ (0 ≤ y ∧ y < b) ∧ 0 < dep d x y
  · rw [decide_eq_true c1, if_pos rfl]
    have e : ∀ P : Prop, [Decidable P] → (P ↔ OkBoat a b d x y c l w q) → some (decide P) = some (decide (OkBoat a b d x y c l w q)) := fun P _ h => by rw [decide_eq_decide.2 h]
    have no : ∀ P : Prop, ¬ P → (OkBoat a b d x y c l w q → P) → some false = some (decide (OkBoat a b d x y c l w q)) := fun P h k => by rw [decide_eq_false (fun q => h (k q))]
    by_cases c2 : 1 ≤ c
    · rw [if_pos c2]
      by_cases c3 : c ≤ 60
      · rw [if_pos c3]
        by_cases c4 : 0 ≤ l
        · rw [if_pos c4]
          by_cases c5 : l ≤ 5
          · rw [if_pos c5]
            by_cases c6 : 1 ≤ w
            · rw [if_pos c6]
              by_cases c7 : w ≤ 30
              · rw [if_pos c7]
                by_cases c8 : 0 ≤ q
                · rw [if_pos c8]
                  exact e _ ⟨fun h => ⟨c1.1, c1.2.1, c1.2.2, ⟨c2, c3⟩, ⟨c4, c5⟩, ⟨c6, c7⟩, c8, h⟩, fun h => h.2.2.2.2.2.2.2⟩
                · rw [if_neg c8]; exact no _ c8 (fun h => h.2.2.2.2.2.2.1)
              · rw [if_neg c7]; exact no _ c7 (fun h => h.2.2.2.2.2.1.2)
            · rw [if_neg c6]; exact no _ c6 (fun h => h.2.2.2.2.2.1.1)
          · rw [if_neg c5]; exact no _ c5 (fun h => h.2.2.2.2.1.2)
        · rw [if_neg c4]; exact no _ c4 (fun h => h.2.2.2.2.1.1)
      · rw [if_neg c3]; exact no _ c3 (fun h => h.2.2.2.1.2)
    · rw [if_neg c2]; exact no _ c2 (fun h => h.2.2.2.1.1)
  · rw [decide_eq_false c1, if_neg (by decide), decide_eq_false (fun h : OkBoat a b d x y c l w q => c1 ⟨h.1, h.2.1, h.2.2.1⟩)]

theorem sq_bd {r m : Int} (h : -m ≤ r) (h2 : r ≤ m) : 0 ≤ r * r ∧ r * r ≤ m * m := by
  by_cases c : 0 ≤ r
  · exact ⟨Int.mul_nonneg c c, Int.mul_le_mul h2 h2 c (by omega)⟩
  · have e : r * r = (-r) * (-r) := by rw [Int.neg_mul_neg]
    rw [e]
    exact ⟨Int.mul_nonneg (by omega) (by omega), Int.mul_le_mul (by omega) (by omega) (by omega) (by omega)⟩
def rootF : Nat → Int → Int → Int
  | 0, _, r => r
  | k + 1, n, r => if (r + 1) * (r + 1) ≤ n then rootF k n (r + 1) else r
def rootI (n : Int) : Int := rootF 60 n 0
theorem rootF_bd (n : Int) (j : Nat) : ∀ r, r ≤ rootF j n r ∧ rootF j n r ≤ r + j := by
  induction j with
  | zero => intro r; simp only [rootF]; omega
  | succ j ih =>
    intro r
    simp only [rootF]
    by_cases h : (r + 1) * (r + 1) ≤ n
    · rw [if_pos h]; have := ih (r + 1); omega
    · rw [if_neg h]; omega
theorem rootI_bd (n : Int) : 0 ≤ rootI n ∧ rootI n ≤ 60 := by have := rootF_bd n 60 0; unfold rootI; omega
theorem w64sq {r : Int} (h : 0 ≤ r) (h2 : r ≤ 1000) : wrap64 ((wrap64 (r + 1)) * (wrap64 (r + 1))) = (r + 1) * (r + 1) := by
  have := sq_bd (r := r + 1) (m := 1001) (by omega) (by omega)
  rw [w64 (n := r + 1) (by omega), w64 (by omega)]
theorem impl_root_loop {n : Int} (hn : n ≤ 3600) (j : Nat) : ∀ r : Int, 0 ≤ r → r + j = 60 → Ev (fun k => impl_root.l0 k n r) (rootF j n r) := by
  induction j with
  | zero =>
    intro r h0 hj
    obtain rfl : r = 60 := by omega
    refine Ev.step (f := fun _ => some 60) (fun k => ?_) (Ev.now _)
    simp only [impl_root.l0]
    rw [w64sq (by omega) (by omega), if_neg (by omega)]
  | succ j ih =>
    intro r h0 hj
    simp only [rootF]
    by_cases h : (r + 1) * (r + 1) ≤ n
    · rw [if_pos h]
      refine Ev.step (fun k => ?_) (ih (r + 1) (by omega) (by omega))
      simp only [impl_root.l0]
      rw [w64sq (by omega) (by omega), if_pos h, w64 (n := r + 1) (by omega)]
    · rw [if_neg h]
      refine Ev.step (f := fun _ => some r) (fun k => ?_) (Ev.now _)
      simp only [impl_root.l0]
      rw [w64sq (by omega) (by omega), if_neg h]
theorem spec_root_loop {n : Int} (hn : n ≤ 3600) (a b : Int) (d : Nat → Int) (j : Nat) : ∀ r : Int, 0 ≤ r → r + j = 60 → Ev (fun k => spec_l01Reach.l0 k n r a b d) (rootF j n r, a, b, d) := by
  induction j with
  | zero =>
    intro r h0 hj
    obtain rfl : r = 60 := by omega
    refine Ev.step (f := fun _ => some (60, a, b, d)) (fun k => ?_) (Ev.now _)
    simp only [spec_l01Reach.l0]
    rw [w64sq (by omega) (by omega), if_neg (by omega)]
  | succ j ih =>
    intro r h0 hj
    simp only [rootF]
    by_cases h : (r + 1) * (r + 1) ≤ n
    · rw [if_pos h]
      refine Ev.step (fun k => ?_) (ih (r + 1) (by omega) (by omega))
      simp only [spec_l01Reach.l0]
      rw [w64sq (by omega) (by omega), if_pos h, w64 (n := r + 1) (by omega)]
    · rw [if_neg h]
      refine Ev.step (f := fun _ => some (r, a, b, d)) (fun k => ?_) (Ev.now _)
      simp only [spec_l01Reach.l0]
      rw [w64sq (by omega) (by omega), if_neg h]
def reach (d : Nat → Int) (x y c : Int) : Int := if c * c - dep d x y * dep d x y < 0 then -1 else rootI (c * c - dep d x y * dep d x y)
theorem reach_bd (d : Nat → Int) (x y c : Int) : -1 ≤ reach d x y c ∧ reach d x y c ≤ 60 := by
  unfold reach
  have := rootI_bd (c * c - dep d x y * dep d x y)
  split <;> omega
theorem reach_in {a b : Int} {d : Nat → Int} (ho : BayIn.okBay a b d) {x y : Int} (hx : 0 ≤ x ∧ x < 16) (hy : 0 ≤ y ∧ y < 16) {c : Int} (hc : 0 ≤ c ∧ c ≤ 60) :
    wrap64 ((wrap64 ((wrap64 c) * (wrap64 c))) - (wrap64 (dep d x y * dep d x y))) = c * c - dep d x y * dep d x y ∧ c * c - dep d x y * dep d x y ≤ 3600 := by
  have hd := dep_ok ho hx hy
  have s1 := sq_bd (r := c) (m := 60) (by omega) (by omega)
  have s2 := sq_bd (r := dep d x y) (m := 30) (by omega) (by omega)
  rw [w64 (n := c) (by omega), w64 (n := c * c) (by omega), w64 (n := dep d x y * dep d x y) (by omega), w64 (by omega)]
  exact ⟨rfl, by omega⟩
theorem impl_reach {a b : Int} {d : Nat → Int} (hf : FitB a b d) (ho : BayIn.okBay a b d) {x y : Int} (hx : 0 ≤ x ∧ x < 16) (hy : 0 ≤ y ∧ y < 16) {c : Int} (hc : 0 ≤ c ∧ c ≤ 60) (l w q : Int) :
    Ev (fun k => impl_reachOf.f k a b d x y c l w q) (reach d x y c) := by
  obtain ⟨e, he⟩ := reach_in ho hx hy hc
  unfold impl_reachOf.f reach
  simp only [impl_depth_at hf hx hy, Option.bind_some, e]
  by_cases h : c * c - dep d x y * dep d x y < 0
  · simp only [if_pos h]
    exact Ev.now _
  · simp only [if_neg h]
    unfold impl_root.f
    exact Ev.bind (impl_root_loop he 60 0 (by omega) (by omega)) (Ev.now _)
theorem spec_reach {a b : Int} {d : Nat → Int} (hf : FitB a b d) (ho : BayIn.okBay a b d) {x y : Int} (hx : 0 ≤ x ∧ x < 16) (hy : 0 ≤ y ∧ y < 16) {c : Int} (hc : 0 ≤ c ∧ c ≤ 60) (l w q : Int) :
    Ev (fun k => spec_l01Reach.f k a b d x y c l w q) (reach d x y c, a, b, d) := by
  obtain ⟨e, he⟩ := reach_in ho hx hy hc
  unfold spec_l01Reach.f reach
  simp only [spec_depth hf hx hy, Option.bind_some, e]
  by_cases h : c * c - dep d x y * dep d x y < 0
  · simp only [if_pos h]
    exact Ev.now _
  · simp only [if_neg h]
    exact spec_root_loop he a b d 60 0 (by omega) (by omega)
theorem boat_in {a b : Int} {d : Nat → Int} (ho : BayIn.okBay a b d) {x y c l w q : Int} (h : OkBoat a b d x y c l w q) : (0 ≤ x ∧ x < 16) ∧ (0 ≤ y ∧ y < 16) ∧ (0 ≤ c ∧ c ≤ 60) ∧ (0 ≤ l ∧ l ≤ 5) := by
  have h1 := ho.2.1
  have h2 := ho.2.2.2.1
  obtain ⟨k1, k2, k3, k4, k5, k6, k7⟩ := h
  omega

theorem impl_swing {a b : Int} {d : Nat → Int} (hf : FitB a b d) (ho : BayIn.okBay a b d) {x y : Int} (hx : 0 ≤ x ∧ x < 16) (hy : 0 ≤ y ∧ y < 16) {c l : Int} (hc : 0 ≤ c ∧ c ≤ 60) (hl : 0 ≤ l ∧ l ≤ 5) (w q : Int) :
    Ev (fun k => impl_swingOf.f k a b d x y c l w q) (reach d x y c + l) := by
  have hr := reach_bd d x y c
  unfold impl_swingOf.f
  refine Ev.bind (impl_reach hf ho hx hy hc l w q) ?_
  simp only [w64 (n := l) (by omega), w64 (n := reach d x y c + l) (by omega)]
  exact Ev.now _
def OkB (a b : Int) (d : Nat → Int) (t : S48) : Prop := OkBoat a b d t.f0.f0 t.f0.f1 t.f1 t.f2 t.f3 t.f4
instance (a b : Int) (d : Nat → Int) (t : S48) : Decidable (OkB a b d t) := by unfold OkB; infer_instance
def FitS (t : S48) : Prop := FitT t.f0.f0 t.f0.f1 t.f1 t.f2 t.f3 t.f4
theorem rd48 {xs : List S48} {j : Nat} (h : j < xs.length) : rd_T48 xs (j : Int) = xs[j] := by
  unfold rd_T48
  rw [Int.toNat_natCast, List.getD_eq_getElem?_getD, List.getElem?_eq_getElem h]
  rfl
def okL (a b : Int) (d : Nat → Int) (l : List S48) : Bool := l.all fun t => decide (OkB a b d t)
def codeL (a b : Int) (d : Nat → Int) (l : List S48) : Int := if BayIn.okBay a b d then (if okL a b d l = true then (if (l.length : Int) > 10 then 3 else 0) else 1) else 1
theorem w64n {j : Nat} {n : Nat} (h : j < n) (hn : n ≤ 9223372036854775807) : wrap64 ((j : Int) + 1) = ((j + 1 : Nat) : Int) := by unfold wrap64; omega
theorem asked_loop {a b : Int} {d : Nat → Int} (hf : FitB a b d) (ho : BayIn.okBay a b d) (l : List S48) (hl : l.length ≤ 9223372036854775807) (ht : ∀ t ∈ l, FitS t) (n : Nat) : ∀ j : Nat, l.length = j + n →
    Ev (fun k => spec_l01Asked.l0 k l (j : Int) a b d) ((if okL a b d (l.drop j) = true then (if (l.length : Int) > 10 then 3 else 0) else 1), a, b, d) := by
  induction n with
  | zero =>
    intro j hj
    rw [List.drop_eq_nil_of_le (by omega)]
    refine Ev.step (f := fun _ => some ((if (l.length : Int) > 10 then 3 else 0), a, b, d)) (fun k => ?_) (Ev.now _)
    simp only [spec_l01Asked.l0]
    rw [if_neg (by omega)]
    split <;> rfl
  | succ n ih =>
    intro j hj
    have hlt : j < l.length := by omega
    rw [List.drop_eq_getElem_cons hlt]
    have e : okL a b d (l[j] :: l.drop (j + 1)) = (decide (OkB a b d l[j]) && okL a b d (l.drop (j + 1))) := rfl
    rw [e]
    have hb := spec_boat hf ho (x := l[j].f0.f0) (y := l[j].f0.f1) (c := l[j].f1) (l := l[j].f2) (w := l[j].f3) (q := l[j].f4) (ht _ (List.getElem_mem hlt))
    by_cases c : OkB a b d l[j]
    · rw [decide_eq_true c, Bool.true_and]
      refine Ev.step (fun k => ?_) (ih (j + 1) (by omega))
      simp only [spec_l01Asked.l0]
      rw [if_pos (by omega), if_pos (by omega), rd48 hlt, hb]
      simp only [Option.bind_some]
      rw [decide_eq_true (show OkBoat a b d _ _ _ _ _ _ from c), if_pos rfl, w64n hlt hl]
    · rw [decide_eq_false c, Bool.false_and]
      refine Ev.step (f := fun _ => some (1, a, b, d)) (fun k => ?_) (Ev.now _)
      simp only [spec_l01Asked.l0]
      rw [if_pos (by omega), if_pos (by omega), rd48 hlt, hb]
      simp only [Option.bind_some]
      rw [decide_eq_false (show ¬ OkBoat a b d _ _ _ _ _ _ from c), if_neg (by decide)]
theorem spec_asked {a b : Int} {d : Nat → Int} (hf : FitB a b d) (l : List S48) (hl : l.length ≤ 9223372036854775807) (ht : ∀ t ∈ l, FitS t) :
    Ev (fun k => spec_l01Asked.f k a b d l) (codeL a b d l, a, b, d) := by
  unfold spec_l01Asked.f codeL
  obtain ⟨r, k1, k2⟩ := spec_bay hf
  refine Ev.bind k1 ?_
  by_cases ho : BayIn.okBay a b d
  · obtain rfl := k2.2 ho
    simp only [if_true, if_pos ho]
    exact asked_loop hf ho l hl ht l.length 0 (by omega)
  · have : r = false := by cases r with | false => rfl | true => exact absurd (k2.1 rfl) ho
    subst this
    simp only [Bool.false_eq_true, if_false, if_neg ho]
    exact Ev.now _
theorem rd46 {xs : List S46} {j : Nat} (h : j < xs.length) : rd_T46 xs (j : Int) = xs[j] := by
  unfold rd_T46
  rw [Int.toNat_natCast, List.getD_eq_getElem?_getD, List.getElem?_eq_getElem h]
  rfl
def rowP (y : Int) : Nat → Int → List S46
  | 0, _ => []
  | n + 1, x => ⟨x, y⟩ :: rowP y n (x + 1)
def allF (a : Nat) : Nat → Int → List S46
  | 0, _ => []
  | n + 1, y => rowP y a 0 ++ allF a n (y + 1)
def allP (a b : Int) : List S46 := allF a.toNat b.toNat 0
theorem rowP_length (y : Int) (n : Nat) : ∀ x, (rowP y n x).length = n := by
  induction n with
  | zero => intro x; rfl
  | succ n ih => intro x; simp [rowP, ih]
theorem allF_length (a : Nat) (n : Nat) : ∀ y, (allF a n y).length = a * n := by
  induction n with
  | zero => intro y; rfl
  | succ n ih => intro y; simp [allF, ih, rowP_length, Nat.mul_succ, Nat.add_comm]
theorem mem_rowP (y : Int) (p : S46) (n : Nat) : ∀ x, p ∈ rowP y n x ↔ (x ≤ p.f0 ∧ p.f0 < x + n) ∧ p.f1 = y := by
  induction n with
  | zero => intro x; simp [rowP]; omega
  | succ n ih =>
    intro x
    simp only [rowP, List.mem_cons, ih]
    constructor
    · rintro (rfl | h)
      · exact ⟨⟨Int.le_refl _, show x < x + ((n + 1 : Nat) : Int) by omega⟩, rfl⟩
      · omega
    · intro h
      by_cases e : p.f0 = x
      · exact .inl (by cases p; simp only [] at e h; rw [e, h.2])
      · exact .inr (by omega)
theorem mem_allF (a : Nat) (p : S46) (n : Nat) : ∀ y, p ∈ allF a n y ↔ (0 ≤ p.f0 ∧ p.f0 < a) ∧ y ≤ p.f1 ∧ p.f1 < y + n := by
  induction n with
  | zero => intro y; simp only [allF, List.not_mem_nil, false_iff]; omega
  | succ n ih =>
    intro y
    simp only [allF, List.mem_append, ih, mem_rowP]
    omega
theorem mem_allP {a b : Int} (ha : 0 ≤ a) (hb : 0 ≤ b) (p : S46) : p ∈ allP a b ↔ (0 ≤ p.f0 ∧ p.f0 < a) ∧ 0 ≤ p.f1 ∧ p.f1 < b := by
  unfold allP
  rw [mem_allF]
  omega
theorem allP_length {a b : Int} (ha : a ≤ 16) (hb : b ≤ 16) : (allP a b).length ≤ 256 := by
  unfold allP
  rw [allF_length]
  exact Nat.le_trans (Nat.mul_le_mul (show a.toNat ≤ 16 by omega) (show b.toNat ≤ 16 by omega)) (by decide)
theorem spec_row {a b : Int} {d : Nat → Int} (ha : a ≤ 16) {y : Int} {r : List S46 × Int × Int × (Nat → Int)} (n : Nat) : ∀ (x : Int) (out : List S46), 0 ≤ x → a = x + n → out.length + n ≤ 100000 →
    Ev (fun k => spec_l01All.l0 k (out ++ rowP y n x) (IntKind.i8.wrap (y + 1)) a b d) r → Ev (fun k => spec_l01All.l1 k out y x a b d) r := by
  induction n with
  | zero =>
    intro x out h0 hx ho h
    refine Ev.step (fun k => ?_) h
    simp only [spec_l01All.l1]
    rw [if_neg (by omega)]
    simp [rowP]
  | succ n ih =>
    intro x out h0 hx ho h
    refine Ev.step (fun k => ?_) (ih (x + 1) (out ++ [⟨x, y⟩]) (by omega) (by omega) (by simp; omega) (by simp only [List.append_assoc, List.singleton_append]; exact h))
    simp only [spec_l01All.l1]
    rw [if_pos (by omega), if_pos (by omega), i8w _ (by omega) (by omega)]
theorem spec_all_loop {a b : Int} {d : Nat → Int} (ha : 0 ≤ a ∧ a ≤ 16) (hb : b ≤ 16) (n : Nat) : ∀ (y : Int) (out : List S46), 0 ≤ y → b = y + n → out.length + 16 * n ≤ 1000 →
    Ev (fun k => spec_l01All.l0 k out y a b d) (out ++ allF a.toNat n y, a, b, d) := by
  induction n with
  | zero =>
    intro y out h0 hy ho
    refine Ev.step (f := fun _ => some (out, a, b, d)) (fun k => ?_) (by simp only [allF, List.append_nil]; exact Ev.now _)
    simp only [spec_l01All.l0]
    rw [if_neg (by omega)]
  | succ n ih =>
    intro y out h0 hy ho
    refine Ev.step (f := fun k => spec_l01All.l1 k out y 0 a b d) (fun k => ?_) (spec_row ha.2 a.toNat 0 out (by omega) (by omega) (by omega) ?_)
    · simp only [spec_l01All.l0]
      rw [if_pos (by omega)]
    · rw [i8w _ (by omega) (by omega)]
      have := ih (y + 1) (out ++ rowP y a.toNat 0) (by omega) (by omega) (by rw [List.length_append, rowP_length]; omega)
      rw [List.append_assoc] at this
      exact this
theorem spec_all {a b : Int} {d : Nat → Int} (ho : BayIn.okBay a b d) : Ev (fun k => spec_l01All.f k a b d) (allP a b, a, b, d) := by
  have h1 := ho.1
  have h2 := ho.2.1
  have h3 := ho.2.2.1
  have h4 := ho.2.2.2.1
  unfold spec_l01All.f
  exact spec_all_loop ⟨by omega, h2⟩ h4 b.toNat 0 [] (by omega) (by omega) (by simp; omega)
theorem impl_row {a b : Int} {d : Nat → Int} (ha : a ≤ 16) {y : Int} {r : List S46} (n : Nat) : ∀ (x : Int) (out : List S46), 0 ≤ x → a = x + n → out.length + n ≤ 100000 →
    Ev (fun k => impl_allPlaces.l0 k (out ++ rowP y n x) b (IntKind.i8.wrap (y + 1)) a b d) r → Ev (fun k => impl_allPlaces.l1 k out y b y a x a b d) r := by
  induction n with
  | zero =>
    intro x out h0 hx ho h
    refine Ev.step (fun k => ?_) h
    simp only [impl_allPlaces.l1]
    rw [if_neg (by omega)]
    simp [rowP]
  | succ n ih =>
    intro x out h0 hx ho h
    refine Ev.step (fun k => ?_) (ih (x + 1) (out ++ [⟨x, y⟩]) (by omega) (by omega) (by simp; omega) (by simp only [List.append_assoc, List.singleton_append]; exact h))
    simp only [impl_allPlaces.l1]
    rw [if_pos (by omega), if_pos (by omega), i8w _ (by omega) (by omega)]
theorem impl_all_loop {a b : Int} {d : Nat → Int} (ha : 0 ≤ a ∧ a ≤ 16) (hb : b ≤ 16) (n : Nat) : ∀ (y : Int) (out : List S46), 0 ≤ y → b = y + n → out.length + 16 * n ≤ 1000 →
    Ev (fun k => impl_allPlaces.l0 k out b y a b d) (out ++ allF a.toNat n y) := by
  induction n with
  | zero =>
    intro y out h0 hy ho
    refine Ev.step (f := fun _ => some out) (fun k => ?_) (by simp only [allF, List.append_nil]; exact Ev.now _)
    simp only [impl_allPlaces.l0]
    rw [if_neg (by omega)]
  | succ n ih =>
    intro y out h0 hy ho
    refine Ev.step (f := fun k => impl_allPlaces.l1 k out y b y a 0 a b d) (fun k => ?_) (impl_row ha.2 a.toNat 0 out (by omega) (by omega) (by omega) ?_)
    · simp only [impl_allPlaces.l0]
      rw [if_pos (by omega)]
    · rw [i8w _ (by omega) (by omega)]
      have := ih (y + 1) (out ++ rowP y a.toNat 0) (by omega) (by omega) (by rw [List.length_append, rowP_length]; omega)
      rw [List.append_assoc] at this
      exact this
theorem impl_all {a b : Int} {d : Nat → Int} (ho : BayIn.okBay a b d) : Ev (fun k => impl_allPlaces.f k a b d) (allP a b) := by
  have h1 := ho.1
  have h2 := ho.2.1
  have h3 := ho.2.2.1
  have h4 := ho.2.2.2.1
  unfold impl_allPlaces.f
  exact impl_all_loop ⟨by omega, h2⟩ h4 b.toNat 0 [] (by omega) (by omega) (by simp; omega)
theorem allP_in {a b : Int} {d : Nat → Int} (ho : BayIn.okBay a b d) : ∀ p ∈ allP a b, (0 ≤ p.f0 ∧ p.f0 < 16) ∧ (0 ≤ p.f1 ∧ p.f1 < 16) := by
  have h1 := ho.1
  have h2 := ho.2.1
  have h3 := ho.2.2.1
  have h4 := ho.2.2.2.1
  intro p hp
  rw [mem_allP (by omega) (by omega)] at hp
  omega
theorem allP_len {a b : Int} {d : Nat → Int} (ho : BayIn.okBay a b d) : (allP a b).length ≤ 256 := allP_length ho.2.1 ho.2.2.2.1

def farI (p q : S46) : Int := (p.f0 - q.f0) * (p.f0 - q.f0) + (p.f1 - q.f1) * (p.f1 - q.f1)
theorem far_bd {p q : S46} (hp : (0 ≤ p.f0 ∧ p.f0 < 16) ∧ (0 ≤ p.f1 ∧ p.f1 < 16)) (hq : (0 ≤ q.f0 ∧ q.f0 < 16) ∧ (0 ≤ q.f1 ∧ q.f1 < 16)) : 0 ≤ farI p q ∧ farI p q ≤ 512 := by
  have s1 := sq_bd (r := p.f0 - q.f0) (m := 16) (by omega) (by omega)
  have s2 := sq_bd (r := p.f1 - q.f1) (m := 16) (by omega) (by omega)
  unfold farI
  omega
theorem far_w {p q : S46} (hp : (0 ≤ p.f0 ∧ p.f0 < 16) ∧ (0 ≤ p.f1 ∧ p.f1 < 16)) (hq : (0 ≤ q.f0 ∧ q.f0 < 16) ∧ (0 ≤ q.f1 ∧ q.f1 < 16)) :
    wrap64 ((wrap64 ((wrap64 ((wrap64 (p.f0)) - (wrap64 (q.f0)))) * (wrap64 ((wrap64 (p.f0)) - (wrap64 (q.f0)))))) + (wrap64 ((wrap64 ((wrap64 (p.f1)) - (wrap64 (q.f1)))) * (wrap64 ((wrap64 (p.f1)) - (wrap64 (q.f1))))))) = farI p q := by
  have s1 := sq_bd (r := p.f0 - q.f0) (m := 16) (by omega) (by omega)
  have s2 := sq_bd (r := p.f1 - q.f1) (m := 16) (by omega) (by omega)
  unfold farI
  rw [w64 (n := p.f0) (by omega), w64 (n := q.f0) (by omega), w64 (n := p.f1) (by omega), w64 (n := q.f1) (by omega), w64 (n := p.f0 - q.f0) (by omega), w64 (n := p.f1 - q.f1) (by omega), w64 (n := (p.f0 - q.f0) * (p.f0 - q.f0)) (by omega), w64 (n := (p.f1 - q.f1) * (p.f1 - q.f1)) (by omega), w64 (by omega)]
theorem spec_far {p q : S46} (hp : (0 ≤ p.f0 ∧ p.f0 < 16) ∧ (0 ≤ p.f1 ∧ p.f1 < 16)) (hq : (0 ≤ q.f0 ∧ q.f0 < 16) ∧ (0 ≤ q.f1 ∧ q.f1 < 16)) : spec_l01Far.f p.f0 p.f1 q.f0 q.f1 = some (farI p q) := by
  unfold spec_l01Far.f
  rw [far_w hp hq]
theorem impl_far_at {p q : S46} (hp : (0 ≤ p.f0 ∧ p.f0 < 16) ∧ (0 ≤ p.f1 ∧ p.f1 < 16)) (hq : (0 ≤ q.f0 ∧ q.f0 < 16) ∧ (0 ≤ q.f1 ∧ q.f1 < 16)) : impl_far.f p.f0 p.f1 q.f0 q.f1 = some (farI p q) := by
  unfold impl_far.f
  rw [far_w hp hq]
def inOver (d : Nat → Int) (q : S46) (s less : Int) (p : S46) : Bool := decide (farI p q ≤ s * s) && decide (dep d p.f0 p.f1 < less)
theorem spec_over_loop {a b : Int} {d : Nat → Int} (hf : FitB a b d) {q : S46} (hq : (0 ≤ q.f0 ∧ q.f0 < 16) ∧ (0 ≤ q.f1 ∧ q.f1 < 16)) {s less : Int} (hs : -1000 ≤ s ∧ s ≤ 1000) (l : List S46) (hl : l.length ≤ 256) (hp : ∀ p ∈ l, (0 ≤ p.f0 ∧ p.f0 < 16) ∧ (0 ≤ p.f1 ∧ p.f1 < 16)) (n : Nat) : ∀ (j : Nat) (out : List S46), l.length = j + n → out.length + n ≤ 1000 →
    Ev (fun k => spec_l01Over.l0 k s less out l (j : Int) a b d q.f0 q.f1) (out ++ (l.drop j).filter (inOver d q s less), a, b, d) := by
  have hss := sq_bd (r := s) (m := 1000) (by omega) (by omega)
  induction n with
  | zero =>
    intro j out hj ho
    rw [List.drop_eq_nil_of_le (by omega)]
    refine Ev.step (f := fun _ => some (out, a, b, d)) (fun k => ?_) (by simp only [List.filter_nil, List.append_nil]; exact Ev.now _)
    simp only [spec_l01Over.l0]
    rw [if_neg (by omega)]
  | succ n ih =>
    intro j out hj ho
    have hlt : j < l.length := by omega
    rw [List.drop_eq_getElem_cons hlt]
    have hb := hp _ (List.getElem_mem hlt)
    by_cases c1 : farI l[j] q ≤ s * s
    · by_cases c2 : dep d l[j].f0 l[j].f1 < less
      · rw [List.filter_cons_of_pos (by simp [inOver, c1, c2]), show out ++ l[j] :: (l.drop (j + 1)).filter (inOver d q s less) = (out ++ [l[j]]) ++ (l.drop (j + 1)).filter (inOver d q s less) from by simp]
        refine Ev.step (fun k => ?_) (ih (j + 1) (out ++ [l[j]]) (by omega) (by simp; omega))
        simp only [spec_l01Over.l0]
        rw [if_pos (by omega), if_pos (by omega), rd46 hlt, spec_far hb hq]
        simp only [Option.bind_some]
        rw [w64 (n := s * s) (by omega), if_pos c1, spec_depth hf hb.1 hb.2]
        simp only [Option.bind_some]
        rw [if_pos c2, if_pos (by omega), w64n hlt (by omega)]
      · rw [List.filter_cons_of_neg (by simp [inOver, c2])]
        refine Ev.step (fun k => ?_) (ih (j + 1) out (by omega) (by omega))
        simp only [spec_l01Over.l0]
        rw [if_pos (by omega), if_pos (by omega), rd46 hlt, spec_far hb hq]
        simp only [Option.bind_some]
        rw [w64 (n := s * s) (by omega), if_pos c1, spec_depth hf hb.1 hb.2]
        simp only [Option.bind_some]
        rw [if_neg c2, w64n hlt (by omega)]
    · rw [List.filter_cons_of_neg (by simp [inOver, c1])]
      refine Ev.step (fun k => ?_) (ih (j + 1) out (by omega) (by omega))
      simp only [spec_l01Over.l0]
      rw [if_pos (by omega), if_pos (by omega), rd46 hlt, spec_far hb hq]
      simp only [Option.bind_some]
      rw [w64 (n := s * s) (by omega), if_neg c1, w64n hlt (by omega)]
def overL (a b : Int) (d : Nat → Int) (q : S46) (s less : Int) : List S46 := (allP a b).filter (inOver d q s less)
theorem spec_over {a b : Int} {d : Nat → Int} (hf : FitB a b d) (ho : BayIn.okBay a b d) {q : S46} (hq : (0 ≤ q.f0 ∧ q.f0 < 16) ∧ (0 ≤ q.f1 ∧ q.f1 < 16)) {s less : Int} (hs : -1000 ≤ s ∧ s ≤ 1000) :
    Ev (fun k => spec_l01Over.f k a b d q.f0 q.f1 s less) (overL a b d q s less, a, b, d) := by
  unfold spec_l01Over.f overL
  refine Ev.bind (spec_all ho) ?_
  exact spec_over_loop hf hq hs (allP a b) (allP_len ho) (allP_in ho) (allP a b).length 0 [] (by omega) (by have := allP_len ho; simp; omega)
theorem impl_over_loop {q : S46} (hq : (0 ≤ q.f0 ∧ q.f0 < 16) ∧ (0 ≤ q.f1 ∧ q.f1 < 16)) {s : Int} (hs : -1000 ≤ s ∧ s ≤ 1000) (c1 c2 c3 c4 : Int) (l : List S46) (hl : l.length ≤ 256) (hp : ∀ p ∈ l, (0 ≤ p.f0 ∧ p.f0 < 16) ∧ (0 ≤ p.f1 ∧ p.f1 < 16)) (n : Nat) : ∀ (j : Nat) (out : List S46), l.length = j + n → out.length + n ≤ 1000 →
    Ev (fun k => impl_swingPlaces.l0 k s out l (l.length : Int) (j : Int) q.f0 q.f1 c1 c2 c3 c4) (out ++ (l.drop j).filter (fun p => decide (farI p q ≤ s * s))) := by
  have hss := sq_bd (r := s) (m := 1000) (by omega) (by omega)
  induction n with
  | zero =>
    intro j out hj ho
    rw [List.drop_eq_nil_of_le (by omega)]
    refine Ev.step (f := fun _ => some out) (fun k => ?_) (by simp only [List.filter_nil, List.append_nil]; exact Ev.now _)
    simp only [impl_swingPlaces.l0]
    rw [if_neg (by omega)]
  | succ n ih =>
    intro j out hj ho
    have hlt : j < l.length := by omega
    rw [List.drop_eq_getElem_cons hlt]
    have hb := hp _ (List.getElem_mem hlt)
    by_cases c1 : farI l[j] q ≤ s * s
    · rw [List.filter_cons_of_pos (by simp [c1]), show out ++ l[j] :: (l.drop (j + 1)).filter (fun p => decide (farI p q ≤ s * s)) = (out ++ [l[j]]) ++ (l.drop (j + 1)).filter (fun p => decide (farI p q ≤ s * s)) from by simp]
      refine Ev.step (fun k => ?_) (ih (j + 1) (out ++ [l[j]]) (by omega) (by simp; omega))
      simp only [impl_swingPlaces.l0]
      rw [if_pos (by omega), if_pos (by omega), if_pos (by omega), rd46 hlt, impl_far_at hb hq]
      simp only [Option.bind_some]
      rw [w64 (n := s * s) (by omega), if_pos c1, if_pos (by omega), w64n hlt (by omega)]
    · rw [List.filter_cons_of_neg (by simp [c1])]
      refine Ev.step (fun k => ?_) (ih (j + 1) out (by omega) (by omega))
      simp only [impl_swingPlaces.l0]
      rw [if_pos (by omega), if_pos (by omega), if_pos (by omega), rd46 hlt, impl_far_at hb hq]
      simp only [Option.bind_some]
      rw [w64 (n := s * s) (by omega), if_neg c1, w64n hlt (by omega)]
def swingL (a b : Int) (q : S46) (s : Int) : List S46 := (allP a b).filter (fun p => decide (farI p q ≤ s * s))
theorem impl_swings {a b : Int} {d : Nat → Int} (hf : FitB a b d) (ho : BayIn.okBay a b d) {x y : Int} (hx : 0 ≤ x ∧ x < 16) (hy : 0 ≤ y ∧ y < 16) {c l : Int} (hc : 0 ≤ c ∧ c ≤ 60) (hl : 0 ≤ l ∧ l ≤ 5) (w q : Int) :
    Ev (fun k => impl_swingPlaces.f k a b d x y c l w q) (swingL a b ⟨x, y⟩ (reach d x y c + l)) := by
  have hr := reach_bd d x y c
  unfold impl_swingPlaces.f swingL
  refine Ev.bind (impl_swing hf ho hx hy hc hl w q) (Ev.bind (impl_all ho) ?_)
  exact impl_over_loop (q := ⟨x, y⟩) ⟨hx, hy⟩ (by omega) c l w q (allP a b) (allP_len ho) (allP_in ho) (allP a b).length 0 [] (by omega) (by have := allP_len ho; simp; omega)
theorem impl_shoals_loop {a b : Int} {d : Nat → Int} (hf : FitB a b d) (c0 c1 c2 c3 c5 : Int) {w : Int} (hw : -128 ≤ w ∧ w ≤ 127) (l : List S46) (hl : l.length ≤ 256) (hp : ∀ p ∈ l, (0 ≤ p.f0 ∧ p.f0 < 16) ∧ (0 ≤ p.f1 ∧ p.f1 < 16)) (n : Nat) : ∀ (j : Nat) (out : List S46), l.length = j + n → out.length + n ≤ 1000 →
    Ev (fun k => impl_shoals.l0 k out l (l.length : Int) (j : Int) a b d c0 c1 c2 c3 w c5) (out ++ (l.drop j).filter (fun p => decide (dep d p.f0 p.f1 < w))) := by
  induction n with
  | zero =>
    intro j out hj ho
    rw [List.drop_eq_nil_of_le (by omega)]
    refine Ev.step (f := fun _ => some out) (fun k => ?_) (by simp only [List.filter_nil, List.append_nil]; exact Ev.now _)
    simp only [impl_shoals.l0]
    rw [if_neg (by omega)]
  | succ n ih =>
    intro j out hj ho
    have hlt : j < l.length := by omega
    rw [List.drop_eq_getElem_cons hlt]
    have hb := hp _ (List.getElem_mem hlt)
    by_cases c : dep d l[j].f0 l[j].f1 < w
    · rw [List.filter_cons_of_pos (by simp [c]), show out ++ l[j] :: (l.drop (j + 1)).filter (fun p => decide (dep d p.f0 p.f1 < w)) = (out ++ [l[j]]) ++ (l.drop (j + 1)).filter (fun p => decide (dep d p.f0 p.f1 < w)) from by simp]
      refine Ev.step (fun k => ?_) (ih (j + 1) (out ++ [l[j]]) (by omega) (by simp; omega))
      simp only [impl_shoals.l0]
      rw [if_pos (by omega), if_pos (by omega), if_pos (by omega), rd46 hlt, impl_depth_at hf hb.1 hb.2]
      simp only [Option.bind_some]
      rw [w64 (n := w) (by omega), if_pos c, if_pos (by omega), w64n hlt (by omega)]
    · rw [List.filter_cons_of_neg (by simp [c])]
      refine Ev.step (fun k => ?_) (ih (j + 1) out (by omega) (by omega))
      simp only [impl_shoals.l0]
      rw [if_pos (by omega), if_pos (by omega), if_pos (by omega), rd46 hlt, impl_depth_at hf hb.1 hb.2]
      simp only [Option.bind_some]
      rw [w64 (n := w) (by omega), if_neg c, w64n hlt (by omega)]
theorem impl_shoals_all {a b : Int} {d : Nat → Int} (hf : FitB a b d) (ho : BayIn.okBay a b d) {x y : Int} (hx : 0 ≤ x ∧ x < 16) (hy : 0 ≤ y ∧ y < 16) {c l : Int} (hc : 0 ≤ c ∧ c ≤ 60) (hl : 0 ≤ l ∧ l ≤ 5) {w : Int} (hw : -128 ≤ w ∧ w ≤ 127) (q : Int) :
    Ev (fun k => impl_shoals.f k a b d x y c l w q) (overL a b d ⟨x, y⟩ (reach d x y c + l) w) := by
  unfold impl_shoals.f
  refine Ev.bind (impl_swings hf ho hx hy hc hl w q) ?_
  have hlen : (swingL a b ⟨x, y⟩ (reach d x y c + l)).length ≤ 256 := Nat.le_trans (List.length_filter_le _ _) (allP_len ho)
  have := impl_shoals_loop hf x y c l q hw (swingL a b ⟨x, y⟩ (reach d x y c + l)) hlen (fun p hp => allP_in ho p (List.mem_filter.1 hp).1) (swingL a b ⟨x, y⟩ (reach d x y c + l)).length 0 [] (by omega) (by simp; omega)
  refine Eq.mp (congrArg (fun z => Ev _ z) ?_) this
  unfold swingL overL
  rw [List.nil_append, List.drop_zero, List.filter_filter]
  refine List.filter_congr fun p _ => ?_
  unfold inOver
  rw [Bool.and_comm]

def roomT (d : Nat → Int) (s t : S48) : Int := if s.f4 = t.f4 then s.f2 + t.f2 else (s.f2 + t.f2) + (reach d s.f0.f0 s.f0.f1 s.f1 + reach d t.f0.f0 t.f0.f1 t.f1)
def touchT (d : Nat → Int) (s t : S48) : Bool :=
  (s.f0.f0 == t.f0.f0 && s.f0.f1 == t.f0.f1) || decide (reach d s.f0.f0 s.f0.f1 s.f1 < 0) || decide (reach d t.f0.f0 t.f0.f1 t.f1 < 0) || decide (farI s.f0 t.f0 < roomT d s t * roomT d s t)
/-- What the program and the reference ask of a boat whose place lies in the bay. -/
def InB (s : S48) : Prop := ((0 ≤ s.f0.f0 ∧ s.f0.f0 < 16) ∧ (0 ≤ s.f0.f1 ∧ s.f0.f1 < 16)) ∧ (0 ≤ s.f1 ∧ s.f1 ≤ 60) ∧ (0 ≤ s.f2 ∧ s.f2 ≤ 5) ∧ (-128 ≤ s.f3 ∧ s.f3 ≤ 127)
theorem room_bd {d : Nat → Int} {s t : S48} (hs : InB s) (ht : InB t) : -10 ≤ roomT d s t ∧ roomT d s t ≤ 200 := by
  have h1 := reach_bd d s.f0.f0 s.f0.f1 s.f1
  have h2 := reach_bd d t.f0.f0 t.f0.f1 t.f1
  have := hs.2.2.1
  have := ht.2.2.1
  unfold roomT
  split <;> omega
theorem spec_touch {a b : Int} {d : Nat → Int} (hf : FitB a b d) (ho : BayIn.okBay a b d) {s t : S48} (hs : InB s) (ht : InB t) :
    Ev (fun k => spec_l01Touch.f k a b d s.f0.f0 s.f0.f1 s.f1 s.f2 s.f3 s.f4 t.f0.f0 t.f0.f1 t.f1 t.f2 t.f3 t.f4) (touchT d s t, a, b, d) := by
  have h1 := reach_bd d s.f0.f0 s.f0.f1 s.f1
  have h2 := reach_bd d t.f0.f0 t.f0.f1 t.f1
  have hs2 := hs.2.2.1
  have ht2 := ht.2.2.1
  have hfar := far_bd hs.1 ht.1
  have hrb := room_bd (d := d) hs ht
  have hss := sq_bd (r := roomT d s t) (m := 200) (by omega) (by omega)
  unfold spec_l01Touch.f touchT
  by_cases e : (s.f0.f0 == t.f0.f0 && (s.f0.f1 == t.f0.f1)) = true
  · simp only [if_pos e]
    rw [e]
    exact Ev.now _
  · simp only [if_neg e]
    rw [Bool.not_eq_true] at e
    rw [e, Bool.false_or]
    refine Ev.bind (spec_reach hf ho hs.1.1 hs.1.2 hs.2.1 _ _ _) (Ev.bind (spec_reach hf ho ht.1.1 ht.1.2 ht.2.1 _ _ _) ?_)
    by_cases c1 : reach d s.f0.f0 s.f0.f1 s.f1 < 0
    · simp only [if_pos c1]
      rw [decide_eq_true c1]
      exact Ev.step (f := fun _ => some (true, a, b, d)) (fun k => by simp only [spec_l01Touch.j0, if_true]) (Ev.now _)
    · simp only [if_neg c1]
      rw [decide_eq_false c1, Bool.false_or]
      by_cases c2 : reach d t.f0.f0 t.f0.f1 t.f1 < 0
      · rw [decide_eq_true c2]
        exact Ev.step (f := fun _ => some (true, a, b, d)) (fun k => by simp only [spec_l01Touch.j0, if_true]) (Ev.now _)
      · rw [decide_eq_false c2, Bool.false_or]
        refine Ev.step (f := fun _ => some (decide (farI s.f0 t.f0 < roomT d s t * roomT d s t), a, b, d)) (fun k => ?_) (Ev.now _)
        simp only [spec_l01Touch.j0, Bool.false_eq_true, if_false]
        by_cases c3 : s.f4 = t.f4
        · have er : roomT d s t = s.f2 + t.f2 := by unfold roomT; rw [if_pos c3]
          rw [er] at hss ⊢
          rw [if_pos c3, spec_far hs.1 ht.1, w64 (n := s.f2) (by omega), w64 (n := t.f2) (by omega), w64 (n := s.f2 + t.f2) (by omega), w64 (n := (s.f2 + t.f2) * (s.f2 + t.f2)) (by omega)]
          rfl
        · have er : roomT d s t = (s.f2 + t.f2) + (reach d s.f0.f0 s.f0.f1 s.f1 + reach d t.f0.f0 t.f0.f1 t.f1) := by unfold roomT; rw [if_neg c3]
          rw [if_neg c3, spec_far hs.1 ht.1, w64 (n := s.f2) (by omega), w64 (n := t.f2) (by omega), w64 (n := s.f2 + t.f2) (by omega), w64 (n := reach d s.f0.f0 s.f0.f1 s.f1 + reach d t.f0.f0 t.f0.f1 t.f1) (by omega), ← er, w64 (n := roomT d s t) (by omega), w64 (n := roomT d s t * roomT d s t) (by omega)]
          rfl
theorem impl_touch_all {a b : Int} {d : Nat → Int} (hf : FitB a b d) (ho : BayIn.okBay a b d) {s t : S48} (hs : InB s) (ht : InB t) :
    Ev (fun k => impl_touch.f k a b d s.f0.f0 s.f0.f1 s.f1 s.f2 s.f3 s.f4 t.f0.f0 t.f0.f1 t.f1 t.f2 t.f3 t.f4) (touchT d s t) := by
  have h1 := reach_bd d s.f0.f0 s.f0.f1 s.f1
  have h2 := reach_bd d t.f0.f0 t.f0.f1 t.f1
  have hs2 := hs.2.2.1
  have ht2 := ht.2.2.1
  have hfar := far_bd hs.1 ht.1
  have hrb := room_bd (d := d) hs ht
  have hss := sq_bd (r := roomT d s t) (m := 200) (by omega) (by omega)
  unfold impl_touch.f touchT
  refine Ev.bind (impl_reach hf ho hs.1.1 hs.1.2 hs.2.1 _ _ _) ?_
  by_cases c1 : reach d s.f0.f0 s.f0.f1 s.f1 < 0
  · simp only [if_pos c1]
    rw [decide_eq_true c1, Bool.or_true, Bool.true_or, Bool.true_or]
    exact Ev.step (f := fun _ => some true) (fun k => by simp only [impl_touch.j0, if_true]) (Ev.now _)
  · simp only [if_neg c1]
    rw [decide_eq_false c1, Bool.or_false]
    refine Ev.bind (impl_reach hf ho ht.1.1 ht.1.2 ht.2.1 _ _ _) ?_
    by_cases c2 : reach d t.f0.f0 t.f0.f1 t.f1 < 0
    · simp only [if_pos c2]
      rw [decide_eq_true c2, Bool.or_true, Bool.true_or]
      exact Ev.step (f := fun _ => some true) (fun k => by simp only [impl_touch.j0, if_true]) (Ev.now _)
    · simp only [if_neg c2]
      rw [decide_eq_false c2, Bool.or_false]
      by_cases e : (s.f0.f0 == t.f0.f0 && (s.f0.f1 == t.f0.f1)) = true
      · rw [e]
        exact Ev.step (f := fun _ => some true) (fun k => by simp only [impl_touch.j0, if_true]) (Ev.now _)
      · rw [Bool.not_eq_true] at e
        rw [e, Bool.false_or]
        by_cases c3 : s.f4 = t.f4
        · have er : roomT d s t = s.f2 + t.f2 := by unfold roomT; rw [if_pos c3]
          refine Ev.step (f := fun _ => some (decide (farI s.f0 t.f0 < roomT d s t * roomT d s t))) (fun k => ?_) (Ev.now _)
          simp only [impl_touch.j0, Bool.false_eq_true, if_false]
          rw [er] at hss ⊢
          rw [if_pos c3, impl_far_at hs.1 ht.1, w64 (n := s.f2) (by omega), w64 (n := t.f2) (by omega), w64 (n := s.f2 + t.f2) (by omega), w64 (n := (s.f2 + t.f2) * (s.f2 + t.f2)) (by omega)]
          rfl
        · have er : roomT d s t = (reach d s.f0.f0 s.f0.f1 s.f1 + s.f2) + (reach d t.f0.f0 t.f0.f1 t.f1 + t.f2) := by unfold roomT; rw [if_neg c3]; omega
          refine Ev.step (f := fun k => (impl_swingOf.f k a b d s.f0.f0 s.f0.f1 s.f1 s.f2 s.f3 s.f4).bind fun t205 => ((impl_swingOf.f k a b d t.f0.f0 t.f0.f1 t.f1 t.f2 t.f3 t.f4).bind fun t206 => ((impl_far.f s.f0.f0 s.f0.f1 t.f0.f0 t.f0.f1).bind fun t207 => (some (decide (t207 < (wrap64 ((wrap64 (t205 + t206)) * (wrap64 (t205 + t206)))))))))) (fun k => ?_) ?_
          · simp only [impl_touch.j0, Bool.false_eq_true, if_false]
            rw [if_neg c3]
          · refine Ev.bind (impl_swing hf ho hs.1.1 hs.1.2 hs.2.1 hs2 s.f3 s.f4) (Ev.bind (impl_swing hf ho ht.1.1 ht.1.2 ht.2.1 ht2 t.f3 t.f4) ?_)
            simp only [impl_far_at hs.1 ht.1, Option.bind_some]
            rw [← er, w64 (n := roomT d s t) (by omega), w64 (n := roomT d s t * roomT d s t) (by omega)]
            exact Ev.now _
theorem InB_of {a b : Int} {d : Nat → Int} (ho : BayIn.okBay a b d) {s : S48} (h : OkB a b d s) : InB s := by
  obtain ⟨h1, h2, h3, h4⟩ := boat_in ho h
  have := h.2.2.2.2.2.1
  exact ⟨⟨h1, h2⟩, h3, h4, by omega⟩

theorem rdBoat' {xs : List S52} {j : Nat} (h : j < xs.length) : rd_T52 xs (j : Int) = xs[j] := by
  unfold rd_T52
  rw [Int.toNat_natCast, List.getD_eq_getElem?_getD, List.getElem?_eq_getElem h]
  rfl
def convBoat (x : S52) : S48 := ⟨⟨x.f0.f0, x.f0.f1⟩, x.f1, x.f2, x.f3, x.f4⟩
theorem toBoat_loop (l : List S52) (hl : l.length ≤ 1048576) (d : Nat) : ∀ (j : Nat) (x : List S48), l.length = j + d → x.length = l.length → (∀ i, i < j → x[i]? = (l[i]?).map convBoat) → ∀ k, d < k → laws_toBoatS.l0 k l x (j : Int) = some (l.map convBoat) := by
  induction d with
  | zero =>
    intro j x hj hx hi k hk
    obtain ⟨k, rfl⟩ : ∃ q, k = q + 1 := ⟨k - 1, by omega⟩
    simp only [laws_toBoatS.l0]
    rw [if_neg (by omega)]
    refine congrArg some (List.ext_getElem? fun i => ?_)
    rw [List.getElem?_map]
    by_cases h : i < j
    · exact hi i h
    · rw [List.getElem?_eq_none (by omega), List.getElem?_eq_none (by omega)]
      rfl
  | succ d ih =>
    intro j x hj hx hi k hk
    obtain ⟨k, rfl⟩ : ∃ q, k = q + 1 := ⟨k - 1, by omega⟩
    have hlt : j < l.length := by omega
    have hw : wrap64 ((j : Int) + 1) = ((j + 1 : Nat) : Int) := by unfold wrap64; omega
    simp only [laws_toBoatS.l0, hw]
    rw [if_pos (by omega), if_pos (by omega), rdBoat' hlt]
    simp only [laws_toBoat.f, laws_toPlace.f, Option.bind_some]
    rw [if_pos (by omega), Int.toNat_natCast]
    refine ih (j + 1) _ (by omega) (by rw [List.length_set]; exact hx) (fun i h => ?_) k (by omega)
    by_cases e : i = j
    · subst e
      rw [List.getElem?_set_self (by omega), List.getElem?_eq_getElem hlt]
      rfl
    · rw [List.getElem?_set_ne (by omega)]
      exact hi i (by omega)
theorem toBoat (l : List S52) (hl : l.length ≤ 1048576) : Ev (fun k => laws_toBoatS.f k l) (l.map convBoat) := by
  refine ⟨l.length + 1, fun k hk => ?_⟩
  show laws_toBoatS.f k l = _
  unfold laws_toBoatS.f
  rw [if_pos (by omega), Int.toNat_natCast, if_pos (by omega)]
  exact toBoat_loop l hl l.length 0 _ (by omega) (by simp) (fun i h => by omega) k (by omega)
theorem szBoat (l : List S52) (h : l.length ≤ 9223372036854775807) (a : Int) (ha : 0 ≤ a) (ha2 : a ≤ 1048576) : laws_szBoatS.f l a = some (if a < l.length then -1 else a - l.length) := by
  have hw : wrap64 (a - (l.length : Int)) = a - l.length := by unfold wrap64; omega
  unfold laws_szBoatS.f
  rw [hw]
  by_cases c : a < l.length
  · rw [if_pos (by omega), if_pos c]
  · rw [if_neg (by omega), if_neg c]
theorem eqBoat_loop (a : List S48) (ha : a.length ≤ 9223372036854775000) (d : Nat) : ∀ (j : Nat), a.length = j + d → ∀ k, d < k → laws_eqBoatS.l0 k a a (j : Int) = some true := by
  induction d with
  | zero =>
    intro j hj k hk
    obtain ⟨k, rfl⟩ : ∃ q, k = q + 1 := ⟨k - 1, by omega⟩
    simp only [laws_eqBoatS.l0]
    rw [if_neg (by omega)]
  | succ d ih =>
    intro j hj k hk
    obtain ⟨k, rfl⟩ : ∃ q, k = q + 1 := ⟨k - 1, by omega⟩
    have hw : wrap64 ((j : Int) + 1) = ((j + 1 : Nat) : Int) := by unfold wrap64; omega
    simp only [laws_eqBoatS.l0, hw, laws_eqBoat.f, laws_eqPlace.f, if_true, Option.bind_some]
    rw [if_pos (by omega), if_pos (by omega), if_pos (by omega)]
    exact ih (j + 1) (by omega) k (by omega)
theorem eqBoat (a : List S48) (ha : a.length ≤ 9223372036854775000) : Ev (fun k => laws_eqBoatS.f k a a) true := by
  refine ⟨a.length + 1, fun k hk => ?_⟩
  show laws_eqBoatS.f k a a = _
  unfold laws_eqBoatS.f
  rw [if_pos rfl]
  exact eqBoat_loop a ha a.length 0 (by omega) k (by omega)
/-- What the mark writes at number m. -/
def mkBoat (m : Int) : S48 := ⟨⟨IntKind.i8.wrap (m), IntKind.i8.wrap (m + 1)⟩, IntKind.i8.wrap (m + 2), IntKind.i8.wrap (m + 3), IntKind.i8.wrap (m + 4), IntKind.i8.wrap (m + 5)⟩
theorem markBoat_loop (d : Nat) : ∀ (j : Nat) (x : List S48) (m : Int), x.length = j + d → x.length ≤ 1099511627776 → 0 ≤ m → m + 6 * d ≤ 1099511627776000 →
    ∃ x', (∀ k, d < k → laws_markBoatS.l0 k x m (j : Int) = some (m + 6 * d, x')) ∧ x'.length = x.length ∧ (∀ i, i < j → x'[i]? = x[i]?) ∧ ∀ i, j ≤ i → i < x.length → x'[i]? = some (mkBoat (m + 6 * (i - j))) := by
  induction d with
  | zero =>
    intro j x m hj hx h0 hm
    refine ⟨x, fun k hk => ?_, rfl, fun _ _ => rfl, fun i h1 h2 => by omega⟩
    obtain ⟨k, rfl⟩ : ∃ q, k = q + 1 := ⟨k - 1, by omega⟩
    simp only [laws_markBoatS.l0]
    rw [if_neg (by omega)]
    simp
  | succ d ih =>
    intro j x m hj hx h0 hm
    have hlt : j < x.length := by omega
    have hw : wrap64 ((j : Int) + 1) = ((j + 1 : Nat) : Int) := by unfold wrap64; omega
    have w1 : wrap64 (m + 1) = m + 1 := by unfold wrap64; omega
    have w2 : wrap64 (m + 2) = m + 2 := by unfold wrap64; omega
    have w3 : wrap64 (m + 3) = m + 3 := by unfold wrap64; omega
    have w4 : wrap64 (m + 4) = m + 4 := by unfold wrap64; omega
    have w5 : wrap64 (m + 5) = m + 5 := by unfold wrap64; omega
    have w6 : wrap64 (m + 6) = m + 6 := by unfold wrap64; omega
    have v1 : wrap64 (m + 1 + 1) = m + 2 := by unfold wrap64; omega
    have v2 : wrap64 (m + 2 + 1) = m + 3 := by unfold wrap64; omega
    have v3 : wrap64 (m + 3 + 1) = m + 4 := by unfold wrap64; omega
    have v4 : wrap64 (m + 4 + 1) = m + 5 := by unfold wrap64; omega
    have v5 : wrap64 (m + 5 + 1) = m + 6 := by unfold wrap64; omega
    obtain ⟨x', h1, h2, h3, h4⟩ := ih (j + 1) (x.set j (mkBoat m)) (m + 6) (by rw [List.length_set]; omega) (by rw [List.length_set]; exact hx) (by omega) (by omega)
    refine ⟨x', fun k hk => ?_, by rw [h2, List.length_set], fun i h => ?_, fun i h h' => ?_⟩
    · obtain ⟨k, rfl⟩ : ∃ q, k = q + 1 := ⟨k - 1, by omega⟩
      have e : m + 6 * ((d + 1 : Nat) : Int) = m + 6 + 6 * (d : Int) := by omega
      rw [e, ← h1 k (by omega)]
      simp only [laws_markBoatS.l0, hw, w1, v1, v2, v3, v4, v5, Int.toNat_natCast, Option.bind_some]
      rw [if_pos (by omega), if_pos (by omega)]
      simp [rd_T48, hlt, mkBoat]
    · rw [h3 i (by omega), List.getElem?_set_ne (by omega)]
    · by_cases c : i = j
      · subst c
        rw [h3 i (by omega), List.getElem?_set_self hlt, Int.sub_self, Int.mul_zero, Int.add_zero]
      · rw [h4 i (by omega) (by rw [List.length_set]; exact h')]
        congr 2
        omega

theorem markBoat (x : List S48) (hx : x.length ≤ 1048576) : ∃ m x', Ev (fun k => laws_markBoatS.f k x 1) (m, x') ∧ 0 ≤ m := by
  obtain ⟨x', h1, _⟩ := markBoat_loop x.length 0 x 1 (by omega) (by omega) (by omega) (by omega)
  exact ⟨1 + 6 * x.length, x', ⟨x.length + 1, fun k hk => h1 k (by omega)⟩, by omega⟩

theorem code_loop {a b : Int} {d : Nat → Int} (hf : FitB a b d) (ho : BayIn.okBay a b d) (l : List S48) (hl : l.length ≤ 9223372036854775807) (n : Nat) : ∀ j : Nat, l.length = j + n →
    Ev (fun k => impl_boatsCode.l0 k l l (l.length : Int) (j : Int) a b d) (if okL a b d (l.drop j) = true then (if (l.length : Int) > 10 then 3 else 0) else 1) := by
  induction n with
  | zero =>
    intro j hj
    rw [List.drop_eq_nil_of_le (by omega)]
    refine Ev.step (f := fun _ => some (if (l.length : Int) > 10 then 3 else 0)) (fun k => ?_) (Ev.now _)
    simp only [impl_boatsCode.l0]
    rw [if_neg (by omega)]
    split <;> rfl
  | succ n ih =>
    intro j hj
    have hlt : j < l.length := by omega
    rw [List.drop_eq_getElem_cons hlt]
    have e : okL a b d (l[j] :: l.drop (j + 1)) = (decide (OkB a b d l[j]) && okL a b d (l.drop (j + 1))) := rfl
    rw [e]
    have hb := impl_boat hf ho l[j].f0.f0 l[j].f0.f1 l[j].f1 l[j].f2 l[j].f3 l[j].f4
    by_cases c : OkB a b d l[j]
    · rw [decide_eq_true c, Bool.true_and]
      refine Ev.step (fun k => ?_) (ih (j + 1) (by omega))
      simp only [impl_boatsCode.l0]
      rw [if_pos (by omega), if_pos (by omega), if_pos (by omega), rd48 hlt, hb]
      simp only [Option.bind_some]
      rw [decide_eq_true (show OkBoat a b d _ _ _ _ _ _ from c), if_pos rfl, w64n hlt hl]
    · rw [decide_eq_false c, Bool.false_and]
      refine Ev.step (f := fun _ => some 1) (fun k => ?_) (Ev.now _)
      simp only [impl_boatsCode.l0]
      rw [if_pos (by omega), if_pos (by omega), if_pos (by omega), rd48 hlt, hb]
      simp only [Option.bind_some]
      rw [decide_eq_false (show ¬ OkBoat a b d _ _ _ _ _ _ from c), if_neg (by decide)]
theorem impl_codes {a b : Int} {d : Nat → Int} (hf : FitB a b d) (l : List S48) (hl : l.length ≤ 9223372036854775807) : Ev (fun k => impl_boatsCode.f k a b d l) (codeL a b d l) := by
  unfold impl_boatsCode.f impl_ValidBay.f codeL
  simp only [Option.bind_some]
  by_cases ho : BayIn.okBay a b d
  · simp only [decide_eq_true ho, if_true, if_pos ho]
    exact code_loop hf ho l hl l.length 0 (by omega)
  · simp only [decide_eq_false ho, Bool.false_eq_true, if_false, if_neg ho]
    exact Ev.now _
/-- What is known of boats whose code is 0. -/
theorem codeL_ok {a b : Int} {d : Nat → Int} {l : List S48} (h : codeL a b d l = 0) : BayIn.okBay a b d ∧ (∀ t ∈ l, OkB a b d t) ∧ l.length ≤ 10 := by
  unfold codeL at h
  by_cases ho : BayIn.okBay a b d
  · rw [if_pos ho] at h
    by_cases hk : okL a b d l = true
    · rw [if_pos hk] at h
      refine ⟨ho, fun t ht => of_decide_eq_true (List.all_eq_true.1 hk t ht), ?_⟩
      by_cases c : (l.length : Int) > 10
      · rw [if_pos c] at h; exact absurd h (by decide)
      · omega
    · rw [if_neg hk] at h; exact absurd h (by decide)
  · rw [if_neg ho] at h; exact absurd h (by decide)
theorem inB_all {a b : Int} {d : Nat → Int} {l : List S48} (ho : BayIn.okBay a b d) (h : ∀ t ∈ l, OkB a b d t) {j : Nat} (hj : j < l.length) : InB (rd_T48 l (j : Int)) := by
  rw [rd48 hj]
  exact InB_of ho (h _ (List.getElem_mem hj))
theorem fits_boats (l : List S52) (h : ∀ x ∈ l, (Lit.int .i8 x.f0.f0).wf = true ∧ (Lit.int .i8 x.f0.f1).wf = true ∧ (Lit.int .i8 x.f1).wf = true ∧ (Lit.int .i8 x.f2).wf = true ∧ (Lit.int .i8 x.f3).wf = true ∧ (Lit.int .i8 x.f4).wf = true) : ∀ t ∈ l.map convBoat, FitS t := by
  intro t ht
  obtain ⟨x, hx, rfl⟩ := List.mem_map.1 ht
  obtain ⟨h1, h2, h3, h4, h5, h6⟩ := h x hx
  exact ⟨i8_of h1, i8_of h2, i8_of h3, i8_of h4, i8_of h5, i8_of h6⟩

def safeT (a b : Int) (d : Nat → Int) (x y c l w : Int) : Bool :=
  if reach d x y c < 0 then false else
  decide ((reach d x y c + l ≤ x ∧ reach d x y c + l ≤ y) ∧ x + (reach d x y c + l) < a ∧ y + (reach d x y c + l) < b) && (((overL a b d ⟨x, y⟩ (reach d x y c + l) w).length : Int) == 0)
theorem spec_safe {a b : Int} {d : Nat → Int} (hf : FitB a b d) (ho : BayIn.okBay a b d) {x y : Int} (hx : 0 ≤ x ∧ x < 16) (hy : 0 ≤ y ∧ y < 16) {c l : Int} (hc : 0 ≤ c ∧ c ≤ 60) (hl : 0 ≤ l ∧ l ≤ 5) {w : Int} (hw : -128 ≤ w ∧ w ≤ 127) (q : Int) :
    Ev (fun k => spec_l01Safe.f k a b d x y c l w q) (safeT a b d x y c l w, a, b, d) := by
  have hr := reach_bd d x y c
  have ha := hf.1
  have hb := hf.2.1
  unfold spec_l01Safe.f safeT
  refine Ev.bind (spec_reach hf ho hx hy hc l w q) ?_
  by_cases c0 : reach d x y c < 0
  · simp only [if_pos c0]; exact Ev.now _
  · simp only [if_neg c0, w64 (n := l) (show _ by omega), w64 (n := x) (show _ by omega), w64 (n := y) (show _ by omega), w64 (n := a) (show _ by omega), w64 (n := b) (show _ by omega), w64 (n := w) (show _ by omega), w64 (n := reach d x y c + l) (show _ by omega), w64 (n := x + (reach d x y c + l)) (show _ by omega), w64 (n := y + (reach d x y c + l)) (show _ by omega)]
    by_cases h1 : x < reach d x y c + l
    · simp only [if_pos h1]; rw [decide_eq_false (by omega), Bool.false_and]; exact Ev.now _
    · by_cases h2 : y < reach d x y c + l
      · simp only [if_neg h1, if_pos h2]; rw [decide_eq_false (by omega), Bool.false_and]; exact Ev.now _
      · by_cases h3 : x + (reach d x y c + l) ≥ a
        · simp only [if_neg h1, if_neg h2, if_pos h3]; rw [decide_eq_false (by omega), Bool.false_and]; exact Ev.now _
        · by_cases h4 : y + (reach d x y c + l) ≥ b
          · simp only [if_neg h1, if_neg h2, if_neg h3, if_pos h4]; rw [decide_eq_false (by omega), Bool.false_and]; exact Ev.now _
          · simp only [if_neg h1, if_neg h2, if_neg h3, if_neg h4]
            rw [decide_eq_true (by omega), Bool.true_and]
            exact Ev.bind (spec_over (q := ⟨x, y⟩) hf ho ⟨hx, hy⟩ (by omega)) (Ev.now _)
theorem impl_safe_all {a b : Int} {d : Nat → Int} (hf : FitB a b d) (ho : BayIn.okBay a b d) {x y : Int} (hx : 0 ≤ x ∧ x < 16) (hy : 0 ≤ y ∧ y < 16) {c l : Int} (hc : 0 ≤ c ∧ c ≤ 60) (hl : 0 ≤ l ∧ l ≤ 5) {w : Int} (hw : -128 ≤ w ∧ w ≤ 127) (q : Int) :
    Ev (fun k => impl_safe.f k a b d x y c l w q) (safeT a b d x y c l w) := by
  have hr := reach_bd d x y c
  have ha := hf.1
  have hb := hf.2.1
  unfold impl_safe.f safeT
  refine Ev.bind (impl_reach hf ho hx hy hc l w q) ?_
  by_cases c0 : reach d x y c < 0
  · simp only [if_pos c0]; exact Ev.now _
  · simp only [if_neg c0]
    refine Ev.bind (impl_swing hf ho hx hy hc hl w q) ?_
    simp only [w64 (n := x) (show _ by omega), w64 (n := y) (show _ by omega), w64 (n := a) (show _ by omega), w64 (n := b) (show _ by omega), w64 (n := x - (reach d x y c + l)) (show _ by omega), w64 (n := y - (reach d x y c + l)) (show _ by omega), w64 (n := x + (reach d x y c + l)) (show _ by omega), w64 (n := y + (reach d x y c + l)) (show _ by omega)]
    by_cases h1 : x - (reach d x y c + l) ≥ 0
    · by_cases h3 : x + (reach d x y c + l) < a
      · by_cases h2 : y - (reach d x y c + l) ≥ 0
        · by_cases h4 : y + (reach d x y c + l) < b
          · simp only [if_pos h1, if_pos h2, if_pos h3, if_pos h4]
            rw [decide_eq_true (by omega), Bool.true_and]
            exact Ev.bind (impl_shoals_all hf ho hx hy hc hl hw q) (Ev.now _)
          · simp only [if_pos h1, if_pos h2, if_pos h3, if_neg h4]; rw [decide_eq_false (by omega), Bool.false_and]; exact Ev.now _
        · simp only [if_pos h1, if_neg h2, if_pos h3]; rw [decide_eq_false (by omega), Bool.false_and]; exact Ev.now _
      · simp only [if_pos h1, if_neg h3]; rw [decide_eq_false (by omega), Bool.false_and]; exact Ev.now _
    · simp only [if_neg h1]; rw [decide_eq_false (by omega), Bool.false_and]; exact Ev.now _

theorem far_comm (p q : S46) : farI p q = farI q p := by
  unfold farI
  have e1 : (p.f0 - q.f0) * (p.f0 - q.f0) = (q.f0 - p.f0) * (q.f0 - p.f0) := by rw [← Int.neg_mul_neg, Int.neg_sub]
  have e2 : (p.f1 - q.f1) * (p.f1 - q.f1) = (q.f1 - p.f1) * (q.f1 - p.f1) := by rw [← Int.neg_mul_neg, Int.neg_sub]
  rw [e1, e2]
theorem room_comm (d : Nat → Int) (s t : S48) : roomT d s t = roomT d t s := by
  unfold roomT
  by_cases c : s.f4 = t.f4
  · rw [if_pos c, if_pos c.symm]; omega
  · rw [if_neg c, if_neg (fun h => c h.symm)]; omega
theorem touch_comm (d : Nat → Int) (s t : S48) : touchT d s t = touchT d t s := by
  unfold touchT
  rw [far_comm, room_comm d s t]
  have e : (s.f0.f0 == t.f0.f0 && s.f0.f1 == t.f0.f1) = (t.f0.f0 == s.f0.f0 && t.f0.f1 == s.f0.f1) := by
    rw [Bool.eq_iff_iff]
    simp only [Bool.and_eq_true, beq_iff_eq]
    constructor <;> (intro h; exact ⟨h.1.symm, h.2.symm⟩)
  rw [e]
  cases (t.f0.f0 == s.f0.f0 && t.f0.f1 == s.f0.f1) <;> cases decide (reach d s.f0.f0 s.f0.f1 s.f1 < 0) <;> cases decide (reach d t.f0.f0 t.f0.f1 t.f1 < 0) <;> rfl
def safeS (a b : Int) (d : Nat → Int) (t : S48) : Bool := safeT a b d t.f0.f0 t.f0.f1 t.f1 t.f2 t.f3
def Right (a b : Int) (d : Nat → Int) (l : List S48) : Prop := (∀ t ∈ l, safeS a b d t = true) ∧ l.Pairwise (fun s t => touchT d s t = false)
def Comes (a b : Int) (d : Nat → Int) (l : List S48) (t : S48) : Prop := safeS a b d t = true ∧ ∀ s ∈ l, touchT d s t = false
theorem right_snoc {a b : Int} {d : Nat → Int} {l : List S48} {t : S48} : Right a b d (l ++ [t]) ↔ Right a b d l ∧ Comes a b d l t := by
  unfold Right Comes
  rw [List.pairwise_append]
  simp only [List.mem_append, List.mem_singleton, List.pairwise_singleton, true_and]
  constructor
  · rintro ⟨h1, h2, h3⟩
    exact ⟨⟨fun s hs => h1 s (.inl hs), h2⟩, h1 t (.inr rfl), fun s hs => h3 s hs t rfl⟩
  · rintro ⟨⟨h1, h2⟩, h3, h4⟩
    exact ⟨fun s hs => hs.elim (h1 s) (fun e => e ▸ h3), h2, fun s hs u hu => hu ▸ h4 s hs⟩
theorem right_nil {a b : Int} {d : Nat → Int} : Right a b d [] := ⟨fun t h => (by cases h), List.Pairwise.nil⟩
/-- The same, told by places. -/
def RightI (a b : Int) (d : Nat → Int) (l : List S48) : Prop := ∀ i : Nat, i < l.length → safeS a b d (rd_T48 l (i : Int)) = true ∧ ∀ k : Nat, k < i → touchT d (rd_T48 l (i : Int)) (rd_T48 l (k : Int)) = false
theorem rightI {a b : Int} {d : Nat → Int} {l : List S48} : Right a b d l ↔ RightI a b d l := by
  unfold Right RightI
  rw [List.pairwise_iff_getElem]
  constructor
  · rintro ⟨h1, h2⟩ i hi
    rw [rd48 hi]
    refine ⟨h1 _ (List.getElem_mem hi), fun k hk => ?_⟩
    rw [rd48 (show k < l.length by omega), touch_comm]
    exact h2 k i (by omega) hi hk
  · intro h
    refine ⟨fun t ht => ?_, fun i j hi hj hij => ?_⟩
    · obtain ⟨i, hi, rfl⟩ := List.getElem_of_mem ht
      have := (h i hi).1
      rwa [rd48 hi] at this
    · have := (h j hj).2 i hij
      rwa [rd48 hi, rd48 hj, touch_comm] at this
theorem EvR.bindB {a b : Int} {d : Nat → Int} {g : Nat → Option (Bool × Int × Int × (Nat → Int))} {f : Nat → Bool × Int × Int × (Nat → Int) → Option (Bool × Int × Int × (Nat → Int))} {r : Bool} {P : Prop} (h : Ev g (r, a, b, d)) (k : EvR a b d (fun n => f n (r, a, b, d)) P) : EvR a b d (fun n => (g n).bind (f n)) P := by
  obtain ⟨q, h1, h2⟩ := k
  exact ⟨q, Ev.bind h h1, h2⟩
theorem spec_right_row {a b : Int} {d : Nat → Int} (hf : FitB a b d) (ho : BayIn.okBay a b d) {l : List S48} (hl : l.length ≤ 1000000) (hb : ∀ t ∈ l, InB t) {i : Nat} (hi : i < l.length) {P : Prop} (h : EvR a b d (fun g => spec_l01Right.l0 g l ((i + 1 : Nat) : Int) a b d) P) (n : Nat) : ∀ k : Nat, i = k + n →
    EvR a b d (fun g => spec_l01Right.l1 g l (i : Int) (k : Int) a b d) ((∀ k' : Nat, k ≤ k' → k' < i → touchT d (rd_T48 l (i : Int)) (rd_T48 l (k' : Int)) = false) ∧ P) := by
  induction n with
  | zero =>
    intro k hk
    refine (EvR.step (fun g => ?_) h).iff ⟨fun q => ⟨fun k' h1 h2 => by omega, q⟩, fun q => q.2⟩
    simp only [spec_l01Right.l1]
    rw [if_neg (by omega), w64n hi (by omega)]
  | succ n ih =>
    intro k hk
    have hlt : k < l.length := by omega
    have i1 : InB (rd_T48 l (i : Int)) := by rw [rd48 hi]; exact hb _ (List.getElem_mem hi)
    have i2 : InB (rd_T48 l (k : Int)) := by rw [rd48 hlt]; exact hb _ (List.getElem_mem hlt)
    refine EvR.iff (P := touchT d (rd_T48 l (i : Int)) (rd_T48 l (k : Int)) = false ∧ (∀ k' : Nat, k + 1 ≤ k' → k' < i → touchT d (rd_T48 l (i : Int)) (rd_T48 l (k' : Int)) = false) ∧ P) ?_ ?_
    · refine EvR.step (f := fun g => (spec_l01Touch.f g a b d ((rd_T48 l (i : Int)).f0.f0) ((rd_T48 l (i : Int)).f0.f1) ((rd_T48 l (i : Int)).f1) ((rd_T48 l (i : Int)).f2) ((rd_T48 l (i : Int)).f3) ((rd_T48 l (i : Int)).f4) ((rd_T48 l (k : Int)).f0.f0) ((rd_T48 l (k : Int)).f0.f1) ((rd_T48 l (k : Int)).f1) ((rd_T48 l (k : Int)).f2) ((rd_T48 l (k : Int)).f3) ((rd_T48 l (k : Int)).f4)).bind fun bt225 => (if bt225.1 = true then (some (false, bt225.2.1, bt225.2.2.1, bt225.2.2.2)) else (spec_l01Right.l1 g l (i : Int) ((k + 1 : Nat) : Int) bt225.2.1 bt225.2.2.1 bt225.2.2.2))) (fun g => ?_) (EvR.bindB (spec_touch hf ho i1 i2) ?_)
      · simp only [spec_l01Right.l1]
        rw [if_pos (by omega), if_pos (by omega), if_pos (by omega), if_pos (by omega), if_pos (by omega), w64n hlt (by omega)]
      · cases c : touchT d (rd_T48 l (i : Int)) (rd_T48 l (k : Int)) with
        | true =>
          simp only [if_true]
          exact EvR.no (fun q => by cases q.1)
        | false =>
          simp only [Bool.false_eq_true, if_false]
          exact (ih (k + 1) (by omega)).iff ⟨fun q => ⟨by trivial, q⟩, fun q => q.2⟩
    · constructor
      · rintro ⟨q1, q2, q3⟩
        refine ⟨fun k' h1 h2 => ?_, q3⟩
        by_cases e : k' = k
        · subst e; exact q1
        · exact q2 k' (by omega) h2
      · rintro ⟨q1, q2⟩
        exact ⟨q1 k (Nat.le_refl _) (by omega), fun k' h1 h2 => q1 k' (by omega) h2, q2⟩
theorem spec_right_all {a b : Int} {d : Nat → Int} (hf : FitB a b d) (ho : BayIn.okBay a b d) {l : List S48} (hl : l.length ≤ 1000000) (hb : ∀ t ∈ l, InB t) (n : Nat) : ∀ i : Nat, l.length = i + n →
    EvR a b d (fun g => spec_l01Right.l0 g l (i : Int) a b d) (∀ i' : Nat, i ≤ i' → i' < l.length → safeS a b d (rd_T48 l (i' : Int)) = true ∧ ∀ k : Nat, k < i' → touchT d (rd_T48 l (i' : Int)) (rd_T48 l (k : Int)) = false) := by
  induction n with
  | zero =>
    intro i hi
    refine EvR.step (fun g => ?_) (EvR.yes (fun i' h1 h2 => by omega))
    simp only [spec_l01Right.l0]
    rw [if_neg (by omega)]
  | succ n ih =>
    intro i hi
    have hlt : i < l.length := by omega
    have i1 : InB (rd_T48 l (i : Int)) := by rw [rd48 hlt]; exact hb _ (List.getElem_mem hlt)
    refine EvR.step (f := fun g => (spec_l01Safe.f g a b d ((rd_T48 l (i : Int)).f0.f0) ((rd_T48 l (i : Int)).f0.f1) ((rd_T48 l (i : Int)).f1) ((rd_T48 l (i : Int)).f2) ((rd_T48 l (i : Int)).f3) ((rd_T48 l (i : Int)).f4)).bind fun bt219 => (if bt219.1 = true then (spec_l01Right.l1 g l (i : Int) 0 bt219.2.1 bt219.2.2.1 bt219.2.2.2) else (some (false, bt219.2.1, bt219.2.2.1, bt219.2.2.2)))) (fun g => ?_) (EvR.bindB (spec_safe hf ho i1.1.1 i1.1.2 i1.2.1 i1.2.2.1 i1.2.2.2 _) ?_)
    · simp only [spec_l01Right.l0]
      rw [if_pos (by omega), if_pos (by omega)]
    · have es : safeT a b d (rd_T48 l (i : Int)).f0.f0 (rd_T48 l (i : Int)).f0.f1 (rd_T48 l (i : Int)).f1 (rd_T48 l (i : Int)).f2 (rd_T48 l (i : Int)).f3 = safeS a b d (rd_T48 l (i : Int)) := rfl
      rw [es]
      cases c : safeS a b d (rd_T48 l (i : Int)) with
      | false =>
        simp only [Bool.false_eq_true, if_false]
        refine EvR.no (fun q => ?_)
        have := (q i (Nat.le_refl _) hlt).1
        rw [c] at this
        cases this
      | true =>
        simp only [if_true]
        refine (spec_right_row hf ho hl hb hlt (ih (i + 1) (by omega)) i 0 (by omega)).iff ⟨fun q i' h1 h2 => ?_, fun q => ⟨fun k' _ h2 => (q i (Nat.le_refl _) hlt).2 k' h2, fun i' h1 h2 => q i' (by omega) h2⟩⟩
        by_cases e : i' = i
        · subst e; exact ⟨c, fun k hk => q.1 k (Nat.zero_le _) hk⟩
        · exact q.2 i' (by omega) h2
theorem spec_right {a b : Int} {d : Nat → Int} (hf : FitB a b d) (ho : BayIn.okBay a b d) {l : List S48} (hl : l.length ≤ 1000000) (hb : ∀ t ∈ l, InB t) : EvR a b d (fun g => spec_l01Right.f g a b d l) (Right a b d l) := by
  unfold spec_l01Right.f
  exact (spec_right_all hf ho hl hb l.length 0 (by omega)).iff (Iff.trans ⟨fun q i h => q i (Nat.zero_le _) h, fun q i _ h => q i h⟩ rightI.symm)
theorem EvB.bindB {α : Type} {g : Nat → Option α} {f : Nat → α → Option Bool} {r : α} {P : Prop} (h : Ev g r) (k : EvB (fun n => f n r) P) : EvB (fun n => (g n).bind (f n)) P := EvB.bind h k
theorem impl_comes_loop {a b : Int} {d : Nat → Int} (hf : FitB a b d) (ho : BayIn.okBay a b d) {l : List S48} (hl : l.length ≤ 1000000) (hb : ∀ t ∈ l, InB t) {t : S48} (ht : InB t) (n : Nat) : ∀ i : Nat, l.length = i + n →
    EvB (fun g => impl_comes.l0 g l (l.length : Int) (i : Int) a b d t.f0.f0 t.f0.f1 t.f1 t.f2 t.f3 t.f4) (∀ s ∈ l.drop i, touchT d s t = false) := by
  induction n with
  | zero =>
    intro i hi
    rw [List.drop_eq_nil_of_le (by omega)]
    refine EvB.step (f := fun _ => some true) (fun g => ?_) (EvB.yes (fun s h => by cases h))
    simp only [impl_comes.l0]
    rw [if_neg (by omega)]
  | succ n ih =>
    intro i hi
    have hlt : i < l.length := by omega
    rw [List.drop_eq_getElem_cons hlt]
    have i1 : InB (rd_T48 l (i : Int)) := by rw [rd48 hlt]; exact hb _ (List.getElem_mem hlt)
    refine EvB.step (f := fun g => (impl_touch.f g a b d ((rd_T48 l (i : Int)).f0.f0) ((rd_T48 l (i : Int)).f0.f1) ((rd_T48 l (i : Int)).f1) ((rd_T48 l (i : Int)).f2) ((rd_T48 l (i : Int)).f3) ((rd_T48 l (i : Int)).f4) t.f0.f0 t.f0.f1 t.f1 t.f2 t.f3 t.f4).bind fun t352 => (if t352 = true then (some false) else (impl_comes.l0 g l (l.length : Int) ((i + 1 : Nat) : Int) a b d t.f0.f0 t.f0.f1 t.f1 t.f2 t.f3 t.f4))) (fun g => ?_) (EvB.bindB (impl_touch_all hf ho i1 ht) ?_)
    · simp only [impl_comes.l0]
      rw [if_pos (by omega), if_pos (by omega), if_pos (by omega), w64n hlt (by omega)]
    · rw [rd48 hlt]
      cases c : touchT d l[i] t with
      | true =>
        simp only [if_true]
        refine EvB.no (fun q => ?_)
        have := q l[i] (List.mem_cons_self ..)
        rw [c] at this
        cases this
      | false =>
        simp only [Bool.false_eq_true, if_false]
        refine (ih (i + 1) (by omega)).iff ⟨fun q s hs => ?_, fun q s hs => q s (List.mem_cons_of_mem _ hs)⟩
        rcases List.mem_cons.1 hs with rfl | hs
        · exact c
        · exact q s hs
theorem impl_comes_all {a b : Int} {d : Nat → Int} (hf : FitB a b d) (ho : BayIn.okBay a b d) {l : List S48} (hl : l.length ≤ 1000000) (hb : ∀ t ∈ l, InB t) {t : S48} (ht : InB t) :
    EvB (fun g => impl_comes.f g a b d l t.f0.f0 t.f0.f1 t.f1 t.f2 t.f3 t.f4) (Comes a b d l t) := by
  unfold impl_comes.f Comes
  refine EvB.bindB (impl_safe_all hf ho ht.1.1 ht.1.2 ht.2.1 ht.2.2.1 ht.2.2.2 _) ?_
  have es : safeT a b d t.f0.f0 t.f0.f1 t.f1 t.f2 t.f3 = safeS a b d t := rfl
  rw [es]
  cases c : safeS a b d t with
  | false =>
    simp only [Bool.false_eq_true, if_false]
    exact EvB.no (fun q => by simp at q)
  | true =>
    simp only [if_true]
    have := impl_comes_loop hf ho hl hb ht l.length 0 (by omega)
    rw [List.drop_zero] at this
    exact this.iff ⟨fun q => ⟨by trivial, q⟩, fun q => q.2⟩
/-- Both words on a boat that comes to boats that are right. -/
theorem both_comes {a b : Int} {d : Nat → Int} (hf : FitB a b d) (ho : BayIn.okBay a b d) {l : List S48} (hl : l.length ≤ 1000) (hb : ∀ t ∈ l, InB t) {t : S48} (ht : InB t) (hr : Right a b d l) :
    ∃ r : Bool, Ev (fun g => spec_l01Right.f g a b d (l ++ [t])) (r, a, b, d) ∧ Ev (fun g => impl_comes.f g a b d l t.f0.f0 t.f0.f1 t.f1 t.f2 t.f3 t.f4) r ∧ (r = true ↔ Right a b d (l ++ [t])) := by
  obtain ⟨r, h1, h2⟩ := spec_right hf ho (l := l ++ [t]) (by simp; omega) (fun s hs => by rcases List.mem_append.1 hs with h | h; exact hb s h; rw [List.mem_singleton.1 h]; exact ht)
  obtain ⟨q, h3, h4⟩ := impl_comes_all hf ho (by omega) hb ht
  have e : q = r := by rw [Bool.eq_iff_iff, h4, h2, right_snoc]; exact ⟨fun h => ⟨hr, h⟩, fun h => h.2⟩
  subst e
  exact ⟨q, h1, h3, h2⟩

theorem rdI {xs : List Int} {j : Nat} (h : j < xs.length) : rd xs (j : Int) = xs[j] := by
  unfold rd
  rw [Int.toNat_natCast, List.getD_eq_getElem?_getD, List.getElem?_eq_getElem h]
  rfl
theorem eqI_loop (a : List Int) (ha : a.length ≤ 9223372036854775000) (d : Nat) : ∀ (j : Nat), a.length = j + d → Ev (fun k => laws_eqInt64S.l0 k a a (j : Int)) true := by
  induction d with
  | zero =>
    intro j hj
    refine Ev.step (f := fun _ => some true) (fun k => ?_) (Ev.now _)
    simp only [laws_eqInt64S.l0]
    rw [if_neg (by omega)]
  | succ d ih =>
    intro j hj
    have hw : wrap64 ((j : Int) + 1) = ((j + 1 : Nat) : Int) := by unfold wrap64; omega
    refine Ev.step (fun k => ?_) (ih (j + 1) (by omega))
    simp only [laws_eqInt64S.l0, hw]
    rw [if_pos (by omega), if_pos (by omega), if_pos (by omega), if_pos trivial]
theorem eqI (a : List Int) (ha : a.length ≤ 9223372036854775000) : Ev (fun k => laws_eqInt64S.f k a a) true := by
  unfold laws_eqInt64S.f
  simp only [if_true]
  exact eqI_loop a ha a.length 0 (by omega)
theorem markI_loop (d : Nat) : ∀ (j : Nat) (x : List Int) (m : Int), x.length = j + d → x.length ≤ 1099511627776 → 0 ≤ m → m + d ≤ 1099511627776000 →
    ∃ x', Ev (fun k => laws_markInt64S.l0 k x m (j : Int)) (m + d, x') ∧ x'.length = x.length ∧ (∀ i, i < j → x'[i]? = x[i]?) ∧ ∀ i, j ≤ i → i < x.length → x'[i]? = some (m + ((i : Int) - j)) := by
  induction d with
  | zero =>
    intro j x m hj hx h0 hm
    refine ⟨x, Ev.step (f := fun _ => some (m, x)) (fun k => ?_) (by simp; exact Ev.now _), rfl, fun _ _ => rfl, fun i h1 h2 => by omega⟩
    simp only [laws_markInt64S.l0]
    rw [if_neg (by omega)]
  | succ d ih =>
    intro j x m hj hx h0 hm
    have hlt : j < x.length := by omega
    have hw : wrap64 ((j : Int) + 1) = ((j + 1 : Nat) : Int) := by unfold wrap64; omega
    have wm : wrap64 (m + 1) = m + 1 := by unfold wrap64; omega
    obtain ⟨x', h1, h2, h3, h4⟩ := ih (j + 1) (x.set j m) (m + 1) (by rw [List.length_set]; omega) (by rw [List.length_set]; exact hx) (by omega) (by omega)
    refine ⟨x', ?_, by rw [h2, List.length_set], fun i h => ?_, fun i h h' => ?_⟩
    · have e : m + ((d + 1 : Nat) : Int) = m + 1 + (d : Int) := by omega
      rw [e]
      refine Ev.step (fun k => ?_) h1
      simp only [laws_markInt64S.l0, hw, wm, Int.toNat_natCast]
      rw [if_pos (by omega), if_pos (by omega)]
    · rw [h3 i (by omega), List.getElem?_set_ne (by omega)]
    · by_cases c : i = j
      · subst c
        rw [h3 i (by omega), List.getElem?_set_self hlt, Int.sub_self, Int.add_zero]
      · rw [h4 i (by omega) (by rw [List.length_set]; exact h')]
        congr 1
        omega
theorem heldI_loop (d : Nat) : ∀ (j : Nat) (x : List Int) (m : Int), x.length = j + d → x.length ≤ 1099511627776 → 0 ≤ m → m + d ≤ 1099511627776000 → (∀ i, j ≤ i → i < x.length → x[i]? = some (m + ((i : Int) - j))) →
    Ev (fun k => laws_heldInt64S.l0 k x m (j : Int)) (m + d) := by
  induction d with
  | zero =>
    intro j x m hj hx h0 hm hi
    refine Ev.step (f := fun _ => some m) (fun k => ?_) (by simp; exact Ev.now _)
    simp only [laws_heldInt64S.l0]
    rw [if_neg (by omega)]
  | succ d ih =>
    intro j x m hj hx h0 hm hi
    have hlt : j < x.length := by omega
    have hw : wrap64 ((j : Int) + 1) = ((j + 1 : Nat) : Int) := by unfold wrap64; omega
    have wm : wrap64 (m + 1) = m + 1 := by unfold wrap64; omega
    have hr : rd x (j : Int) = m := by
      have h := hi j (Nat.le_refl _) hlt
      rw [Int.sub_self, Int.add_zero] at h
      unfold rd
      rw [Int.toNat_natCast, List.getD_eq_getElem?_getD, h]
      rfl
    have e : m + ((d + 1 : Nat) : Int) = m + 1 + (d : Int) := by omega
    rw [e]
    refine Ev.step (fun k => ?_) (ih (j + 1) x (m + 1) (by omega) hx (by omega) (by omega) (fun i h h' => by rw [hi i (by omega) h']; congr 1; omega))
    simp only [laws_heldInt64S.l0, hw, wm, hr]
    rw [if_pos (by omega), if_pos (by omega), if_pos trivial]
theorem markI (x : List Int) (hx : x.length ≤ 1048576) : ∃ m x', Ev (fun k => laws_markInt64S.f k x 1) (m, x') ∧ 0 ≤ m ∧ Ev (fun k => laws_heldInt64S.f k x' 1) m := by
  obtain ⟨x', h1, h2, h3, h4⟩ := markI_loop x.length 0 x 1 (by omega) (by omega) (by omega) (by omega)
  refine ⟨1 + x.length, x', h1, by omega, ?_⟩
  have := heldI_loop x.length 0 x' 1 (by omega) (by omega) (by omega) (by omega) (fun i h h' => h4 i h (by omega))
  exact this

theorem chosen_loop (l : List S48) (ix : List Int) (hx : ix.length ≤ 1000) (hb : ∀ i ∈ ix, 0 ≤ i ∧ i < (l.length : Int)) (n : Nat) : ∀ (j : Nat) (out : List S48), ix.length = j + n → out.length + n ≤ 2000 →
    Ev (fun g => spec_l01Chosen.l0 g l ix out (j : Int)) (out ++ (ix.drop j).map (fun i => rd_T48 l i)) := by
  induction n with
  | zero =>
    intro j out hj ho
    rw [List.drop_eq_nil_of_le (by omega)]
    refine Ev.step (f := fun _ => some out) (fun g => ?_) (by simp only [List.map_nil, List.append_nil]; exact Ev.now _)
    simp only [spec_l01Chosen.l0]
    rw [if_neg (by omega)]
  | succ n ih =>
    intro j out hj ho
    have hlt : j < ix.length := by omega
    have hi := hb _ (List.getElem_mem hlt)
    rw [List.drop_eq_getElem_cons hlt, List.map_cons, show out ++ rd_T48 l ix[j] :: (ix.drop (j + 1)).map (fun i => rd_T48 l i) = (out ++ [rd_T48 l ix[j]]) ++ (ix.drop (j + 1)).map (fun i => rd_T48 l i) from by simp]
    refine Ev.step (fun g => ?_) (ih (j + 1) (out ++ [rd_T48 l ix[j]]) (by omega) (by simp; omega))
    simp only [spec_l01Chosen.l0]
    rw [if_pos (by omega), if_pos (by omega), rdI hlt, if_pos hi.1, if_pos hi.2, if_pos (by omega), w64n hlt (by omega)]
theorem chosen_all (l : List S48) (ix : List Int) (hx : ix.length ≤ 1000) (hb : ∀ i ∈ ix, 0 ≤ i ∧ i < (l.length : Int)) : Ev (fun g => spec_l01Chosen.f g l ix) (ix.map (fun i => rd_T48 l i)) := by
  unfold spec_l01Chosen.f
  exact chosen_loop l ix hx hb ix.length 0 [] (by omega) (by simp; omega)
def upL (x b : List Int) : List Int := if b.length < x.length then x else b
theorem upL_assoc (y x b : List Int) : upL y (upL x b) = upL (upL y x) b := by
  unfold upL
  by_cases h1 : b.length < x.length <;> by_cases h2 : x.length < y.length
  · rw [if_pos h1, if_pos h2, if_pos (by omega)]
  · rw [if_pos h1, if_neg h2, if_pos h1]
  · rw [if_neg h1, if_pos h2]
  · rw [if_neg h1, if_neg h2, if_neg h1, if_neg (by omega)]
def comesB (a b : Int) (d : Nat → Int) (l : List S48) (t : S48) : Bool := safeS a b d t && l.all (fun s => !touchT d s t)
theorem comesB_iff {a b : Int} {d : Nat → Int} {l : List S48} {t : S48} : comesB a b d l t = true ↔ Comes a b d l t := by
  unfold comesB Comes
  simp only [Bool.and_eq_true, List.all_eq_true, Bool.not_eq_true']
def mostS (a b : Int) (d : Nat → Int) (l : List S48) : Nat → Nat → List Int → List Int → List Int
  | 0, _, _, best => best
  | n + 1, j, ch, best => if comesB a b d (ch.map (fun i => rd_T48 l i)) (rd_T48 l (j : Int)) = true then mostS a b d l n (j + 1) ch (upL (mostS a b d l n (j + 1) (ch ++ [(j : Int)]) (ch ++ [(j : Int)])) best) else mostS a b d l n (j + 1) ch best
def mostB (a b : Int) (d : Nat → Int) (l : List S48) : Nat → Nat → List Int → List Int → List Int
  | 0, _, _, best => best
  | n + 1, j, ch, best => if comesB a b d (ch.map (fun i => rd_T48 l i)) (rd_T48 l (j : Int)) = true then mostB a b d l n (j + 1) ch (mostB a b d l n (j + 1) (ch ++ [(j : Int)]) (upL (ch ++ [(j : Int)]) best)) else mostB a b d l n (j + 1) ch best
theorem mostS_up (a b : Int) (d : Nat → Int) (l : List S48) (n : Nat) : ∀ (j : Nat) (ch x best : List Int), mostS a b d l n j ch (upL x best) = upL (mostS a b d l n j ch x) best := by
  induction n with
  | zero => intro j ch x best; rfl
  | succ n ih =>
    intro j ch x best
    simp only [mostS]
    by_cases c : comesB a b d (ch.map (fun i => rd_T48 l i)) (rd_T48 l (j : Int)) = true
    · rw [if_pos c, if_pos c, upL_assoc, ih]
    · rw [if_neg c, if_neg c, ih]
theorem mostB_eq (a b : Int) (d : Nat → Int) (l : List S48) (n : Nat) : ∀ (j : Nat) (ch best : List Int), mostB a b d l n j ch best = mostS a b d l n j ch best := by
  induction n with
  | zero => intro j ch best; rfl
  | succ n ih =>
    intro j ch best
    simp only [mostS, mostB]
    by_cases c : comesB a b d (ch.map (fun i => rd_T48 l i)) (rd_T48 l (j : Int)) = true
    · rw [if_pos c, if_pos c, ih, ih, mostS_up]
    · rw [if_neg c, if_neg c, ih]
theorem mostS_len (a b : Int) (d : Nat → Int) (l : List S48) (n : Nat) : ∀ (j : Nat) (ch best : List Int), l.length = j + n → ch.length ≤ j → best.length ≤ l.length → (mostS a b d l n j ch best).length ≤ l.length := by
  induction n with
  | zero => intro j ch best _ _ h; exact h
  | succ n ih =>
    intro j ch best hj hc hb
    simp only [mostS]
    by_cases c : comesB a b d (ch.map (fun i => rd_T48 l i)) (rd_T48 l (j : Int)) = true
    · rw [if_pos c]
      have h1 := ih (j + 1) (ch ++ [(j : Int)]) (ch ++ [(j : Int)]) (by omega) (by simp; omega) (by simp; omega)
      refine ih (j + 1) ch _ (by omega) (by omega) ?_
      unfold upL
      by_cases c2 : best.length < (mostS a b d l n (j + 1) (ch ++ [(j : Int)]) (ch ++ [(j : Int)])).length
      · rw [if_pos c2]; exact h1
      · rw [if_neg c2]; exact hb
    · rw [if_neg c]
      exact ih (j + 1) ch best (by omega) (by omega) hb
theorem most_loop {a b : Int} {d : Nat → Int} (hf : FitB a b d) (ho : BayIn.okBay a b d) {l : List S48} (hl : l.length ≤ 10) (hb : ∀ t ∈ l, OkB a b d t) (n : Nat) : ∀ (j : Nat) (ch best : List Int), l.length = j + n → ch.length ≤ j → best.length ≤ l.length → (∀ i ∈ ch, 0 ≤ i ∧ i < (l.length : Int)) → Right a b d (ch.map (fun i => rd_T48 l i)) →
    Ev (fun g => spec_l01Most.l0 g l ch best (j : Int) a b d) (mostS a b d l n j ch best, a, b, d) ∧ Ev (fun g => impl_MostBoats_1.l0 g ch (ch.map (fun i => rd_T48 l i)) (j : Int) best l a b d) (mostB a b d l n j ch best) := by
  induction n with
  | zero =>
    intro j ch best hj hcl hbl hin hr
    refine ⟨Ev.step (f := fun _ => some (best, a, b, d)) (fun g => ?_) (Ev.now _), Ev.step (f := fun _ => some best) (fun g => ?_) (Ev.now _)⟩
    · simp only [spec_l01Most.l0]
      rw [if_neg (by omega)]
    · simp only [impl_MostBoats_1.l0]
      rw [if_neg (by omega)]
  | succ n ih =>
    intro j ch best hj hcl hbl hin hr
    have hlt : j < l.length := by omega
    have i1 : InB (rd_T48 l (j : Int)) := inB_all ho hb hlt
    have hkl : (ch.map (fun i => rd_T48 l i)).length = ch.length := List.length_map ..
    have hkb : ∀ t ∈ ch.map (fun i => rd_T48 l i), InB t := by
      intro t ht
      obtain ⟨i, hi, rfl⟩ := List.mem_map.1 ht
      have := hin i hi
      have e : i = ((i.toNat : Nat) : Int) := by omega
      rw [e]
      exact inB_all ho hb (by omega)
    have hin2 : ∀ i ∈ ch ++ [(j : Int)], 0 ≤ i ∧ i < (l.length : Int) := by
      intro i hi
      rcases List.mem_append.1 hi with h | h
      · exact hin i h
      · rw [List.mem_singleton.1 h]; omega
    have hc := chosen_all l (ch ++ [(j : Int)]) (by rw [List.length_append, List.length_singleton]; omega) hin2
    rw [List.map_append, List.map_cons, List.map_nil] at hc
    obtain ⟨q, s1, s2, s3⟩ := both_comes hf ho (by omega) hkb i1 hr
    have sp := fun g : Nat => show spec_l01Most.l0 (g + 1) l ch best (j : Int) a b d = (spec_l01Chosen.f g l (ch ++ [(j : Int)])).bind fun t219 => ((spec_l01Right.f g a b d t219).bind fun bt222 => (if bt222.1 = true then ((spec_l01Most.f g bt222.2.1 bt222.2.2.1 bt222.2.2.2 l ((j + 1 : Nat) : Int) (ch ++ [(j : Int)])).bind fun bt226 => (if (bt226.1.length : Int) > (best.length : Int) then (spec_l01Most.l0 g l ch bt226.1 ((j + 1 : Nat) : Int) bt226.2.1 bt226.2.2.1 bt226.2.2.2) else (spec_l01Most.l0 g l ch best ((j + 1 : Nat) : Int) bt226.2.1 bt226.2.2.1 bt226.2.2.2))) else (spec_l01Most.l0 g l ch best ((j + 1 : Nat) : Int) bt222.2.1 bt222.2.2.1 bt222.2.2.2))) by
      simp only [spec_l01Most.l0, Option.bind_some, List.nil_append, List.length_nil, if_pos (show ch.length < 17592186044416 by omega), if_pos (show 0 + ch.length < 17592186044416 by omega)]
      rw [if_pos (by omega), w64n hlt (by omega)]
    have im := fun g : Nat => show impl_MostBoats_1.l0 (g + 1) ch (ch.map (fun i => rd_T48 l i)) (j : Int) best l a b d = (impl_comes.f g a b d (ch.map (fun i => rd_T48 l i)) ((rd_T48 l (j : Int)).f0.f0) ((rd_T48 l (j : Int)).f0.f1) ((rd_T48 l (j : Int)).f1) ((rd_T48 l (j : Int)).f2) ((rd_T48 l (j : Int)).f3) ((rd_T48 l (j : Int)).f4)).bind fun t361 => (if t361 = true then ((if ((ch ++ [(j : Int)]).length : Int) > (best.length : Int) then (impl_MostBoats_1.j0 g ((j + 1 : Nat) : Int) (ch ++ [(j : Int)]) (ch.map (fun i => rd_T48 l i) ++ [rd_T48 l (j : Int)]) (ch ++ [(j : Int)]) l a b d) else (impl_MostBoats_1.j0 g ((j + 1 : Nat) : Int) (ch ++ [(j : Int)]) (ch.map (fun i => rd_T48 l i) ++ [rd_T48 l (j : Int)]) best l a b d)).bind fun xc => (impl_MostBoats_1.l0 g ch (ch.map (fun i => rd_T48 l i)) ((j + 1 : Nat) : Int) xc l a b d)) else (impl_MostBoats_1.l0 g ch (ch.map (fun i => rd_T48 l i)) ((j + 1 : Nat) : Int) best l a b d)) by
      have g1 : (ch ++ [(j : Int)]).length < 17592186044416 := by rw [List.length_append, List.length_singleton]; omega
      simp only [impl_MostBoats_1.l0, Option.bind_some, List.nil_append, List.length_nil, List.length_cons, hkl, Nat.zero_add, if_pos (show ch.length < 17592186044416 by omega), if_pos (show ch.length + 1 < 17592186044416 by omega), if_pos (show ch.length < 23456248059221 by omega), if_pos (show ch.length + 1 < 23456248059221 by omega), if_pos g1]
      rw [if_pos (by omega), if_pos (by omega), w64n hlt (by omega)]
    cases q with
    | true =>
      have hright := s3.1 rfl
      have hcm : comesB a b d (ch.map (fun i => rd_T48 l i)) (rd_T48 l (j : Int)) = true := comesB_iff.2 (right_snoc.1 hright).2
      have hr2 : Right a b d ((ch ++ [(j : Int)]).map (fun i => rd_T48 l i)) := by rw [List.map_append, List.map_cons, List.map_nil]; exact hright
      have hl2 : (ch ++ [(j : Int)]).length ≤ j + 1 := by rw [List.length_append, List.length_singleton]; omega
      obtain ⟨a1, _⟩ := ih (j + 1) (ch ++ [(j : Int)]) (ch ++ [(j : Int)]) (by omega) hl2 (by omega) hin2 hr2
      have hM := mostS_len a b d l n (j + 1) (ch ++ [(j : Int)]) (ch ++ [(j : Int)]) (by omega) hl2 (by omega)
      have hup : ∀ x : List Int, x.length ≤ l.length → (upL x best).length ≤ l.length := by
        intro x hx
        unfold upL
        by_cases c : best.length < x.length
        · rw [if_pos c]; exact hx
        · rw [if_neg c]; exact hbl
      have hu2 := hup (ch ++ [(j : Int)]) (by omega)
      obtain ⟨_, b1⟩ := ih (j + 1) (ch ++ [(j : Int)]) (upL (ch ++ [(j : Int)]) best) (by omega) hl2 hu2 hin2 hr2
      rw [List.map_append, List.map_cons, List.map_nil] at b1
      obtain ⟨a2, _⟩ := ih (j + 1) ch (upL (mostS a b d l n (j + 1) (ch ++ [(j : Int)]) (ch ++ [(j : Int)])) best) (by omega) (by omega) (hup _ hM) hin hr
      have hB2 : (mostB a b d l n (j + 1) (ch ++ [(j : Int)]) (upL (ch ++ [(j : Int)]) best)).length ≤ l.length := by rw [mostB_eq]; exact mostS_len a b d l n (j + 1) _ _ (by omega) hl2 hu2
      obtain ⟨_, b2⟩ := ih (j + 1) ch (mostB a b d l n (j + 1) (ch ++ [(j : Int)]) (upL (ch ++ [(j : Int)]) best)) (by omega) (by omega) hB2 hin hr
      have e1 : mostS a b d l (n + 1) j ch best = mostS a b d l n (j + 1) ch (upL (mostS a b d l n (j + 1) (ch ++ [(j : Int)]) (ch ++ [(j : Int)])) best) := by rw [mostS, if_pos hcm]
      have e2 : mostB a b d l (n + 1) j ch best = mostB a b d l n (j + 1) ch (mostB a b d l n (j + 1) (ch ++ [(j : Int)]) (upL (ch ++ [(j : Int)]) best)) := by rw [mostB, if_pos hcm]
      rw [e1, e2]
      have hf1 : Ev (fun g => spec_l01Most.f g a b d l ((j + 1 : Nat) : Int) (ch ++ [(j : Int)])) (mostS a b d l n (j + 1) (ch ++ [(j : Int)]) (ch ++ [(j : Int)]), a, b, d) := Ev.step (fun g => by simp only [spec_l01Most.f]) a1
      refine ⟨Ev.step sp (Ev.bind hc (Ev.bind s1 ?_)), Ev.step im (Ev.bind s2 ?_)⟩
      · simp only [if_true]
        refine Ev.bind hf1 ?_
        by_cases c : best.length < (mostS a b d l n (j + 1) (ch ++ [(j : Int)]) (ch ++ [(j : Int)])).length
        · have c2 : ((mostS a b d l n (j + 1) (ch ++ [(j : Int)]) (ch ++ [(j : Int)])).length : Int) > (best.length : Int) := by omega
          simp only [if_pos c2]
          rw [upL, if_pos c] at a2 ⊢
          exact a2
        · have c2 : ¬ ((mostS a b d l n (j + 1) (ch ++ [(j : Int)]) (ch ++ [(j : Int)])).length : Int) > (best.length : Int) := by omega
          simp only [if_neg c2]
          rw [upL, if_neg c] at a2 ⊢
          exact a2
      · simp only [if_true]
        refine Ev.bind ?_ b2
        by_cases c : best.length < (ch ++ [(j : Int)]).length
        · have c2 : ((ch ++ [(j : Int)]).length : Int) > (best.length : Int) := by omega
          simp only [if_pos c2]
          rw [upL, if_pos c] at b1 ⊢
          exact Ev.step (fun g => by simp only [impl_MostBoats_1.j0]) b1
        · have c2 : ¬ ((ch ++ [(j : Int)]).length : Int) > (best.length : Int) := by omega
          simp only [if_neg c2]
          rw [upL, if_neg c] at b1 ⊢
          exact Ev.step (fun g => by simp only [impl_MostBoats_1.j0]) b1
    | false =>
      have hcm : ¬ comesB a b d (ch.map (fun i => rd_T48 l i)) (rd_T48 l (j : Int)) = true := by
        intro h
        have := s3.2 (right_snoc.2 ⟨hr, comesB_iff.1 h⟩)
        cases this
      obtain ⟨a1, b1⟩ := ih (j + 1) ch best (by omega) (by omega) hbl hin hr
      have e1 : mostS a b d l (n + 1) j ch best = mostS a b d l n (j + 1) ch best := by rw [mostS, if_neg hcm]
      have e2 : mostB a b d l (n + 1) j ch best = mostB a b d l n (j + 1) ch best := by rw [mostB, if_neg hcm]
      rw [e1, e2]
      refine ⟨Ev.step sp (Ev.bind hc (Ev.bind s1 ?_)), Ev.step im (Ev.bind s2 ?_)⟩
      · simp only [Bool.false_eq_true, if_false]; exact a1
      · simp only [Bool.false_eq_true, if_false]; exact b1

def FnExactMostBoatsPure : Prop := ∀ (a0_0 a0_1 : Int) (a0_2 : Nat → Int) (l1 : List S52), (Lit.int .i8 a0_0).wf = true → (Lit.int .i8 a0_1).wf = true → (∀ i, i < 256 → (Lit.int .i8 (a0_2 i)).wf = true) → l1.length ≤ 9223372036854775807 → (∀ x ∈ l1, (Lit.int .i8 x.f0.f0).wf = true ∧ (Lit.int .i8 x.f0.f1).wf = true ∧ (Lit.int .i8 x.f1).wf = true ∧ (Lit.int .i8 x.f2).wf = true ∧ (Lit.int .i8 x.f3).wf = true ∧ (Lit.int .i8 x.f4).wf = true) → ∃ k, laws_FnExactMostBoats.f k a0_0 a0_1 a0_2 l1 = some true
theorem FnExactMostBoats : FnExactMostBoatsPure := by
  intro a b d l ha hb hd hl hw
  refine Ev.rounds ?_
  have hf := fitB ha hb hd
  have hsz := szBoat l hl 1048576 (by omega) (by omega)
  by_cases hlen : (1048576 : Int) < l.length
  · refine Ev.congr (f := fun _ => some true) (fun k => ?_) (Ev.now _)
    unfold laws_FnExactMostBoats.f
    rw [hsz, if_pos hlen]
    rfl
  · have hl2 : l.length ≤ 1048576 := by omega
    have hl3 : (l.map convBoat).length ≤ 1048576 := by rw [List.length_map]; exact hl2
    have ht := toBoat l hl2
    have hfs := fits_boats l hw
    have s := spec_asked hf (l.map convBoat) (by omega) hfs
    have i := impl_codes hf (l.map convBoat) (by omega)
    have el := eqBoat (l.map convBoat) (by omega)
    have hqq : ∀ q : Int, (q != q) = false := fun q => by simp
    obtain ⟨r, hr, hs, hi⟩ : ∃ r : List Int, r.length ≤ 10 ∧ Ev (fun k => spec_MostBoats.f k a b d (l.map convBoat)) (r, codeL a b d (l.map convBoat)) ∧ Ev (fun k => impl_MostBoats.f k a b d (l.map convBoat)) (r, codeL a b d (l.map convBoat)) := by
      unfold spec_MostBoats.f impl_MostBoats.f
      by_cases c0 : codeL a b d (l.map convBoat) = 0
      · obtain ⟨ho, hk, hn⟩ := codeL_ok c0
        obtain ⟨h1, h2⟩ := most_loop hf ho hn hk (l.map convBoat).length 0 [] [] (by omega) (Nat.zero_le _) (Nat.zero_le _) (fun i h => by cases h) right_nil
        have hM := mostS_len a b d (l.map convBoat) (l.map convBoat).length 0 [] [] (by omega) (Nat.zero_le _) (Nat.zero_le _)
        rw [mostB_eq] at h2
        refine ⟨mostS a b d (l.map convBoat) (l.map convBoat).length 0 [] [], by omega, Ev.bind s ?_, Ev.bind i ?_⟩
        · simp only [if_pos c0]
          refine Ev.bind (a := (mostS a b d (l.map convBoat) (l.map convBoat).length 0 [] [], a, b, d)) (Ev.step (fun g => by simp only [spec_l01Most.f]; rfl) h1) ?_
          rw [c0]
          exact Ev.now _
        · simp only [if_pos c0]
          refine Ev.bind (a := mostS a b d (l.map convBoat) (l.map convBoat).length 0 [] []) ?_ ?_
          · unfold impl_MostBoats_1.f
            simp only [List.length_nil, if_neg (show ¬ ((0 : Nat) : Int) > ((0 : Nat) : Int) by omega)]
            exact Ev.step (fun g => by simp only [impl_MostBoats_1.j0]; rfl) h2
          · rw [c0]
            exact Ev.now _
      · refine ⟨[], by simp, Ev.bind s ?_, Ev.bind i ?_⟩
        · simp only [if_neg c0]
          exact Ev.now _
        · simp only [if_neg c0]
          exact Ev.now _
    obtain ⟨m1, x1, e1, p1⟩ := markBoat (l.map convBoat) hl3
    obtain ⟨m2, x2, e2, p2, o2⟩ := markI r (by omega)
    have er := eqI r (by omega)
    simp only [laws_FnExactMostBoats.f, hsz, if_neg hlen, Option.bind_some, if_neg (show ¬ ((1048576 : Int) - l.length < 0) from by omega), laws_toBay.f]
    refine Ev.bind ht (Ev.bind hs (Ev.bind ht (Ev.bind hi (Ev.bind er ?_))))
    simp only [if_true, hqq]
    refine Ev.step (fun k => by simp only [laws_FnExactMostBoats.j0, Bool.false_eq_true, if_false]; rfl) (Ev.bind ht (Ev.bind el ?_))
    simp only [if_true]
    refine Ev.bind e1 ?_
    simp only [if_neg (show ¬ m1 < 0 from by omega)]
    refine Ev.bind er ?_
    simp only [if_true, hqq]
    refine Ev.step (fun k => by simp only [laws_FnExactMostBoats.j1, Bool.false_eq_true, if_false]; rfl) (Ev.bind e2 (Ev.bind o2 ?_))
    simp only [if_neg (show ¬ m2 < 0 from by omega), if_true, laws_toBay.f, Option.bind_some]
    refine Ev.bind ht (Ev.bind hi (Ev.bind er ?_))
    simp only [if_true, hqq]
    refine Ev.step (fun k => by simp only [laws_FnExactMostBoats.j2, Bool.false_eq_true, if_false]; rfl) (Ev.bind o2 ?_)
    simp only [if_neg (show ¬ m2 < 0 from by omega), if_true]
    exact Ev.now _

end Go.Proofs.Ytigafbmdedjgdaa.Pure
