/- AllAfloat of the program returns what the reference's returns, for all arguments. Conditions: none. -/
import Derived.Test.YtcollbifdfhfoaaPFnExactAllAfloatx13
namespace Go.Proofs.Ytcollbifdfhfoaa.Pure
open Go.RowKit Go.Proofs.Ytcollbifdfhfoaa.PFnExactAllAfloat Go.Proofs.YtcollbifdfhfoaaW.PrintWords Go.Proofs.YtcollbifdfhfoaaW.PrintLast
set_option linter.unusedVariables false
set_option linter.unusedSimpArgs false

/-- From some number of rounds on it answers a truth value: whether P holds. -/
def EvB (g : Nat → Option Bool) (P : Prop) : Prop := ∃ b, Ev g b ∧ (b = true ↔ P)
theorem EvB.iff {g : Nat → Option Bool} {P Q : Prop} (h : EvB g P) (e : P ↔ Q) : EvB g Q := by
  obtain ⟨b, h1, h2⟩ := h
  exact ⟨b, h1, h2.trans e⟩
theorem EvB.step {g f : Nat → Option Bool} {P : Prop} (h : ∀ k, g (k + 1) = f k) (k : EvB f P) : EvB g P := by
  obtain ⟨b, h1, h2⟩ := k
  exact ⟨b, Ev.step h h1, h2⟩
theorem EvB.congr {g f : Nat → Option Bool} {P : Prop} (h : ∀ k, g k = f k) (k : EvB f P) : EvB g P := by
  obtain ⟨b, h1, h2⟩ := k
  exact ⟨b, Ev.congr h h1, h2⟩
theorem EvB.yes {P : Prop} (h : P) : EvB (fun _ => some true) P := ⟨true, Ev.now _, by simp [h]⟩
theorem EvB.no {P : Prop} (h : ¬ P) : EvB (fun _ => some false) P := ⟨false, Ev.now _, by simp [h]⟩
theorem EvB.bind {α : Type} {g : Nat → Option α} {f : Nat → α → Option Bool} {a : α} {P : Prop} (h : Ev g a) (k : EvB (fun n => f n a) P) : EvB (fun n => (g n).bind (f n)) P := by
  obtain ⟨b, h1, h2⟩ := k
  exact ⟨b, Ev.bind h h1, h2⟩
theorem EvB.same {g f : Nat → Option Bool} {P : Prop} (h : EvB g P) (k : EvB f P) : ∃ b, Ev g b ∧ Ev f b ∧ (b = true ↔ P) := by
  obtain ⟨b, h1, h2⟩ := h
  obtain ⟨c, h3, h4⟩ := k
  have e : c = b := by rw [Bool.eq_iff_iff, h4, h2]
  subst e
  exact ⟨c, h1, h3, h2⟩

theorem i8_of {n : Int} (h : (Lit.int .i8 n).wf = true) : -128 ≤ n ∧ n ≤ 127 := by
  simp [Lit.wf, IntKind.min, IntKind.max, IntKind.signed, IntKind.bits] at h
  omega
theorem i16_of {n : Int} (h : (Lit.int .i16 n).wf = true) : -32768 ≤ n ∧ n ≤ 32767 := by
  simp [Lit.wf, IntKind.min, IntKind.max, IntKind.signed, IntKind.bits] at h
  omega
/-- What is known of a bay that came in. -/
def FitB (a b : Int) (d : Nat → Int) : Prop := (-128 ≤ a ∧ a ≤ 127) ∧ (-128 ≤ b ∧ b ≤ 127) ∧ ∀ i, i < 256 → -128 ≤ d i ∧ d i ≤ 127
theorem fitB {a b : Int} {d : Nat → Int} (ha : (Lit.int .i8 a).wf = true) (hb : (Lit.int .i8 b).wf = true) (hd : ∀ i, i < 256 → (Lit.int .i8 (d i)).wf = true) : FitB a b d := ⟨i8_of ha, i8_of hb, fun i hi => i8_of (hd i hi)⟩
theorem i8w (n : Int) (h : 0 ≤ n) (h2 : n ≤ 127) : IntKind.i8.wrap n = n := Bay.i8_wrap_le n h h2
/-- It answers whether P holds, and hands the bay back. -/
def EvR (a b : Int) (d : Nat → Int) (f : Nat → Option (Bool × Int × Int × (Nat → Int))) (P : Prop) : Prop := ∃ r : Bool, Ev f (r, a, b, d) ∧ (r = true ↔ P)
theorem EvR.step {a b : Int} {d : Nat → Int} {f g : Nat → Option (Bool × Int × Int × (Nat → Int))} {P : Prop} (h : ∀ k, g (k + 1) = f k) (k : EvR a b d f P) : EvR a b d g P := by
  obtain ⟨r, h1, h2⟩ := k
  exact ⟨r, Ev.step h h1, h2⟩
theorem EvR.iff {a b : Int} {d : Nat → Int} {f : Nat → Option (Bool × Int × Int × (Nat → Int))} {P Q : Prop} (k : EvR a b d f P) (e : P ↔ Q) : EvR a b d f Q := by
  obtain ⟨r, h1, h2⟩ := k
  exact ⟨r, h1, h2.trans e⟩
theorem EvR.no {a b : Int} {d : Nat → Int} {P : Prop} (h : ¬ P) : EvR a b d (fun _ => some (false, a, b, d)) P := ⟨false, Ev.now _, by simp [h]⟩
theorem EvR.yes {a b : Int} {d : Nat → Int} {P : Prop} (h : P) : EvR a b d (fun _ => some (true, a, b, d)) P := ⟨true, Ev.now _, by simp [h]⟩
theorem in_some (a b c : Int) : spec_l00In.f a b c = some (decide (b ≤ a ∧ a ≤ c)) := by
  unfold spec_l00In.f
  by_cases h : a ≥ b
  · rw [if_pos h]; simp [h]
  · rw [if_neg h, decide_eq_false (fun q => h q.1)]
theorem w64 {n : Int} (h : -9223372036854775808 ≤ n ∧ n ≤ 9223372036854775807) : wrap64 n = n := by unfold wrap64; omega
theorem is_some {a b : Int} {d : Nat → Int} (hf : FitB a b d) (x y : Int) (hx : -128 ≤ x ∧ x ≤ 127) (hy : -128 ≤ y ∧ y ≤ 127) : spec_l01Is.f a b d x y = some (decide ((0 ≤ x ∧ x < a) ∧ (0 ≤ y ∧ y < b)), a, b, d) := by
  unfold spec_l01Is.f
  have := hf.1
  have := hf.2.1
  rw [w64 (n := x) (by omega), w64 (n := y) (by omega), w64 (n := a) (by omega), w64 (n := b) (by omega), w64 (n := a - 1) (by omega), w64 (n := b - 1) (by omega), in_some, in_some]
  simp only [Option.bind_some]
  by_cases h1 : 0 ≤ x ∧ x ≤ a - 1
  · rw [decide_eq_true h1, if_pos rfl]
    congr 2
    rw [decide_eq_decide]
    omega
  · rw [decide_eq_false h1, if_neg (by decide)]
    congr 2
    rw [eq_comm, decide_eq_false_iff_not]
    omega
theorem okD_cell {a b : Int} {d : Nat → Int} (hf : FitB a b d) (y x : Nat) (hy : y < 16) (hx : x < 16) {f : Nat → Option (Bool × Int × Int × (Nat → Int))} {P : Prop} (k : EvR a b d f P) :
    EvR a b d (fun g => (spec_l00In.f (wrap64 (d (16 * y + x))) 0 30).bind fun t => (if t = true then (if d (16 * y + x) = 0 then f g else ((spec_l01Is.f a b d x y).bind fun q => (if q.1 = true then f g else (some (false, q.2.1, q.2.2.1, q.2.2.2))))) else (some (false, a, b, d)))) (BayIn.okD a b y x (d (16 * y + x)) ∧ P) := by
  have hd := hf.2.2 (16 * y + x) (by omega)
  rw [w64 (by omega)]
  simp only [in_some, is_some hf x y (by omega) (by omega), Option.bind_some]
  unfold BayIn.okD
  by_cases h1 : 0 ≤ d (16 * y + x) ∧ d (16 * y + x) ≤ 30
  · simp only [decide_eq_true h1, if_true]
    by_cases h2 : d (16 * y + x) = 0
    · simp only [if_pos h2]
      exact k.iff ⟨fun h => ⟨⟨h1.1, h1.2, fun q => absurd h2 q⟩, h⟩, fun h => h.2⟩
    · simp only [if_neg h2]
      by_cases h3 : (0 ≤ (x : Int) ∧ (x : Int) < a) ∧ (0 ≤ (y : Int) ∧ (y : Int) < b)
      · simp only [decide_eq_true h3, if_true]
        exact k.iff ⟨fun h => ⟨⟨h1.1, h1.2, fun _ => ⟨h3.1.2, h3.2.2⟩⟩, h⟩, fun h => h.2⟩
      · simp only [decide_eq_false h3, Bool.false_eq_true, if_false]
        exact EvR.no (fun h => h3 (by have := h.1.2.2 h2; omega))
  · simp only [decide_eq_false h1, Bool.false_eq_true, if_false]
    exact EvR.no (fun h => h1 ⟨h.1.1, h.1.2.1⟩)
theorem bay_row {a b : Int} {d : Nat → Int} (hf : FitB a b d) (y : Nat) (hy : y < 16) {P : Prop} (k : EvR a b d (fun g => spec_l01Bay.l0 g ((y + 1 : Nat) : Int) a b d) P) (n : Nat) : ∀ x : Nat, 16 = x + n →
    EvR a b d (fun g => spec_l01Bay.l1 g (y : Int) (x : Int) a b d) ((∀ j, x ≤ j → j < 16 → BayIn.okD a b y j (d (16 * y + j))) ∧ P) := by
  induction n with
  | zero =>
    intro x hx
    refine (EvR.step (fun g => ?_) k).iff ⟨fun h => ⟨fun j h1 h2 => by omega, h⟩, fun h => h.2⟩
    simp only [spec_l01Bay.l1]
    rw [if_neg (by omega), i8w _ (by omega) (by omega)]
    rfl
  | succ n ih =>
    intro x hx
    refine (EvR.step (fun g => ?_) (okD_cell hf y x hy (by omega) (ih (x + 1) (by omega)))).iff ?_
    · simp only [spec_l01Bay.l1]
      rw [if_pos (by omega), if_pos (by omega), if_pos (by omega), if_pos (by omega), i8w _ (by omega) (by omega), Int.toNat_natCast, Int.toNat_natCast]
      rw [is_some hf x y (by omega) (by omega)]
      rfl
    · refine ⟨fun h => ⟨fun j h1 h2 => ?_, h.2.2⟩, fun h => ⟨h.1 x (Nat.le_refl _) (by omega), fun j h1 h2 => h.1 j (by omega) h2, h.2⟩⟩
      by_cases e : j = x
      · rw [e]; exact h.1
      · exact h.2.1 j (by omega) h2
theorem bay_rows {a b : Int} {d : Nat → Int} (hf : FitB a b d) (n : Nat) : ∀ y : Nat, 16 = y + n → EvR a b d (fun g => spec_l01Bay.l0 g (y : Int) a b d) (∀ j, y ≤ j → j < 16 → ∀ x, x < 16 → BayIn.okD a b j x (d (16 * j + x))) := by
  induction n with
  | zero =>
    intro y hy
    refine EvR.step (fun g => ?_) (EvR.yes (fun j h1 h2 => by omega))
    simp only [spec_l01Bay.l0]
    rw [if_neg (by omega)]
  | succ n ih =>
    intro y hy
    refine (EvR.step (fun g => ?_) (bay_row hf y (by omega) (ih (y + 1) (by omega)) 16 0 (by omega))).iff ?_
    · simp only [spec_l01Bay.l0]
      rw [if_pos (by omega)]
      rfl
    · refine ⟨fun h j h1 h2 x hx => ?_, fun h => ⟨fun x _ hx => h y (Nat.le_refl _) (by omega) x hx, fun j h1 h2 => h j (by omega) h2⟩⟩
      by_cases e : j = y
      · rw [e]; exact h.1 x (by omega) hx
      · exact h.2 j (by omega) h2 x hx
/-- The reference's word on a bay. -/
theorem spec_bay {a b : Int} {d : Nat → Int} (hf : FitB a b d) : EvR a b d (fun g => spec_l01Bay.f g a b d) (BayIn.okBay a b d) := by
  have h1 := hf.1
  have h2 := hf.2.1
  have e : ∀ g, spec_l01Bay.f g a b d = spec_l01Bay.j0 g (! decide ((1 ≤ a ∧ a ≤ 16) ∧ (1 ≤ b ∧ b ≤ 16))) a b d := by
    intro g
    unfold spec_l01Bay.f
    rw [w64 (n := a) (by omega), w64 (n := b) (by omega), in_some, in_some]
    simp only [Option.bind_some]
    by_cases c1 : 1 ≤ a ∧ a ≤ 16
    · by_cases c2 : 1 ≤ b ∧ b ≤ 16 <;> simp [c1, c2]
    · simp [c1]
  obtain ⟨r, k1, k2⟩ := bay_rows hf 16 0 (by omega)
  unfold BayIn.okBay
  by_cases c : (1 ≤ a ∧ a ≤ 16) ∧ (1 ≤ b ∧ b ≤ 16)
  · rw [decide_eq_true c] at e
    refine ⟨r, Ev.congr e (Ev.step (fun g => by simp only [spec_l01Bay.j0, Bool.not_true, Bool.false_eq_true, if_false]; rfl) k1), k2.trans ?_⟩
    exact ⟨fun h => ⟨c.1.1, c.1.2, c.2.1, c.2.2, fun y hy => h y (Nat.zero_le _) hy⟩, fun h j _ hj => h.2.2.2.2 j hj⟩
  · rw [decide_eq_false c] at e
    refine ⟨false, Ev.congr e (Ev.step (f := fun _ => some (false, a, b, d)) (fun g => by simp only [spec_l01Bay.j0, Bool.not_false, if_true]) (Ev.now _)), ?_⟩
    simp only [Bool.false_eq_true, false_iff]
    intro h
    exact c ⟨⟨h.1, h.2.1⟩, h.2.2.1, h.2.2.2.1⟩

def dep (d : Nat → Int) (x y : Int) : Int := d (16 * y.toNat + x.toNat)
def OkBoat (a b : Int) (d : Nat → Int) (x y c l w q : Int) : Prop := (0 ≤ x ∧ x < a) ∧ (0 ≤ y ∧ y < b) ∧ 0 < dep d x y ∧ (1 ≤ c ∧ c ≤ 60) ∧ (0 ≤ l ∧ l ≤ 5) ∧ (1 ≤ w ∧ w ≤ 30) ∧ (0 ≤ q ∧ q ≤ 9)
instance (a b : Int) (d : Nat → Int) (x y c l w q : Int) : Decidable (OkBoat a b d x y c l w q) := by unfold OkBoat; infer_instance
theorem dep_bd {a b : Int} {d : Nat → Int} (hf : FitB a b d) {x y : Int} (hx : 0 ≤ x ∧ x < 16) (hy : 0 ≤ y ∧ y < 16) : -128 ≤ dep d x y ∧ dep d x y ≤ 127 := hf.2.2 _ (by omega)
theorem spec_depth {a b : Int} {d : Nat → Int} (hf : FitB a b d) {x y : Int} (hx : 0 ≤ x ∧ x < 16) (hy : 0 ≤ y ∧ y < 16) : spec_l01Depth.f a b d x y = some (dep d x y, a, b, d) := by
  have := dep_bd hf hx hy
  unfold spec_l01Depth.f
  rw [if_pos hy.1, if_pos hy.2, if_pos hx.1, if_pos hx.2, w64 (n := d (16 * y.toNat + x.toNat)) (by unfold dep at this; omega)]
  rfl
theorem impl_depth_at {a b : Int} {d : Nat → Int} (hf : FitB a b d) {x y : Int} (hx : 0 ≤ x ∧ x < 16) (hy : 0 ≤ y ∧ y < 16) : impl_depth.f a b d x y = some (dep d x y) := by
  have := dep_bd hf hx hy
  unfold impl_depth.f
  rw [if_pos hy.1, if_pos hy.2, if_pos hx.1, if_pos hx.2, w64 (n := d (16 * y.toNat + x.toNat)) (by unfold dep at this; omega)]
  rfl
def FitT (x y c l w q : Int) : Prop := (-128 ≤ x ∧ x ≤ 127) ∧ (-128 ≤ y ∧ y ≤ 127) ∧ (-128 ≤ c ∧ c ≤ 127) ∧ (-128 ≤ l ∧ l ≤ 127) ∧ (-128 ≤ w ∧ w ≤ 127) ∧ (-128 ≤ q ∧ q ≤ 127)
theorem spec_boat {a b : Int} {d : Nat → Int} (hf : FitB a b d) (ho : BayIn.okBay a b d) {x y c l w q : Int} (ht : FitT x y c l w q) : spec_l01Boat.f a b d x y c l w q = some (decide (OkBoat a b d x y c l w q), a, b, d) := by
  have h1 := ho.2.1
  have h2 := ho.2.2.2.1
  obtain ⟨t1, t2, t3, t4, t5, t6⟩ := ht
  unfold spec_l01Boat.f
  rw [is_some hf x y t1 t2, w64 (n := c) (by omega), w64 (n := l) (by omega), w64 (n := w) (by omega), w64 (n := q) (by omega), in_some, in_some, in_some, in_some]
  simp only [Option.bind_some]
  by_cases c1 : (0 ≤ x ∧ x < a) ∧ (0 ≤ y ∧ y < b)
  · rw [decide_eq_true c1, if_pos rfl, spec_depth hf (by omega) (by omega)]
    simp only [Option.bind_some]
    by_cases c2 : 0 < dep d x y
    · rw [if_pos c2]
      by_cases c3 : 1 ≤ c ∧ c ≤ 60
      · by_cases c4 : 0 ≤ l ∧ l ≤ 5
        · by_cases c5 : 1 ≤ w ∧ w ≤ 30
          · simp only [decide_eq_true c3, decide_eq_true c4, decide_eq_true c5, if_true]
            congr 2
            rw [decide_eq_decide]
            exact ⟨fun h => ⟨c1.1, c1.2, c2, c3, c4, c5, h⟩, fun h => h.2.2.2.2.2.2⟩
          · simp only [decide_eq_true c3, decide_eq_true c4, decide_eq_false c5, if_true, Bool.false_eq_true, if_false]
            rw [decide_eq_false (fun h : OkBoat a b d x y c l w q => c5 h.2.2.2.2.2.1)]
        · simp only [decide_eq_true c3, decide_eq_false c4, if_true, Bool.false_eq_true, if_false]
          rw [decide_eq_false (fun h : OkBoat a b d x y c l w q => c4 h.2.2.2.2.1)]
      · simp only [decide_eq_false c3, Bool.false_eq_true, if_false]
        rw [decide_eq_false (fun h : OkBoat a b d x y c l w q => c3 h.2.2.2.1)]
    · rw [if_neg c2, decide_eq_false (fun h : OkBoat a b d x y c l w q => c2 h.2.2.1)]
  · rw [decide_eq_false c1, if_neg (by decide), decide_eq_false (fun h : OkBoat a b d x y c l w q => c1 ⟨h.1, h.2.1⟩)]
theorem impl_water {a b : Int} {d : Nat → Int} (hf : FitB a b d) (ho : BayIn.okBay a b d) (x y : Int) : impl_isWater.f a b d x y = some (decide ((0 ≤ x ∧ x < a) ∧ (0 ≤ y ∧ y < b) ∧ 0 < dep d x y)) := by
  have h1 := ho.2.1
  have h2 := ho.2.2.2.1
  have e : impl_isPlace.f a b d x y = some (decide ((0 ≤ x ∧ x < a) ∧ (0 ≤ y ∧ y < b))) := by
    unfold impl_isPlace.f
    by_cases c1 : 0 ≤ x
    · by_cases c2 : x < a
      · by_cases c3 : 0 ≤ y <;> simp [c1, c2, c3]
      · simp [c1, c2]
    · simp [c1]
  unfold impl_isWater.f
  rw [e]
  simp only [Option.bind_some]
  by_cases c1 : (0 ≤ x ∧ x < a) ∧ (0 ≤ y ∧ y < b)
  · rw [decide_eq_true c1, if_pos rfl, impl_depth_at hf (by omega) (by omega)]
    simp only [Option.bind_some]
    congr 1
    rw [decide_eq_decide]
    exact ⟨fun h => ⟨c1.1, c1.2, h⟩, fun h => h.2.2⟩
  · rw [decide_eq_false c1, if_neg (by decide), decide_eq_false (fun h => c1 ⟨h.1, h.2.1⟩)]
theorem impl_boat {a b : Int} {d : Nat → Int} (hf : FitB a b d) (ho : BayIn.okBay a b d) (x y c l w q : Int) : impl_isBoat.f a b d x y c l w q = some (decide (OkBoat a b d x y c l w q)) := by
  unfold impl_isBoat.f
  rw [impl_water hf ho]
  simp only [Option.bind_some]
  by_cases c1 : (0 ≤ x ∧ x < a) ∧ (0 ≤ y ∧ y < b) ∧ 0 < dep d x y
  · rw [decide_eq_true c1, if_pos rfl]
    have e : ∀ P : Prop, [Decidable P] → (P ↔ OkBoat a b d x y c l w q) → some (decide P) = some (decide (OkBoat a b d x y c l w q)) := fun P _ h => by rw [decide_eq_decide.2 h]
    have no : ∀ P : Prop, ¬ P → (OkBoat a b d x y c l w q → P) → some false = some (decide (OkBoat a b d x y c l w q)) := fun P h k => by rw [decide_eq_false (fun q => h (k q))]
    by_cases c2 : 1 ≤ c
    · rw [if_pos c2]
      by_cases c3 : c ≤ 60
      · rw [if_pos c3]
        by_cases c4 : 0 ≤ l
        · rw [if_pos c4]
          by_cases c5 : l ≤ 5
          · rw [if_pos c5]
            by_cases c6 : 1 ≤ w
            · rw [if_pos c6]
              by_cases c7 : w ≤ 30
              · rw [if_pos c7]
                by_cases c8 : 0 ≤ q
                · rw [if_pos c8]
                  exact e _ ⟨fun h => ⟨c1.1, c1.2.1, c1.2.2, ⟨c2, c3⟩, ⟨c4, c5⟩, ⟨c6, c7⟩, c8, h⟩, fun h => h.2.2.2.2.2.2.2⟩
                · rw [if_neg c8]; exact no _ c8 (fun h => h.2.2.2.2.2.2.1)
              · rw [if_neg c7]; exact no _ c7 (fun h => h.2.2.2.2.2.1.2)
            · rw [if_neg c6]; exact no _ c6 (fun h => h.2.2.2.2.2.1.1)
          · rw [if_neg c5]; exact no _ c5 (fun h => h.2.2.2.2.1.2)
        · rw [if_neg c4]; exact no _ c4 (fun h => h.2.2.2.2.1.1)
      · rw [if_neg c3]; exact no _ c3 (fun h => h.2.2.2.1.2)
    · rw [if_neg c2]; exact no _ c2 (fun h => h.2.2.2.1.1)
  · rw [decide_eq_false c1, if_neg (by decide), decide_eq_false (fun h : OkBoat a b d x y c l w q => c1 ⟨h.1, h.2.1, h.2.2.1⟩)]

theorem boat_in {a b : Int} {d : Nat → Int} (ho : BayIn.okBay a b d) {x y c l w q : Int} (h : OkBoat a b d x y c l w q) : (0 ≤ x ∧ x < 16) ∧ (0 ≤ y ∧ y < 16) ∧ (0 ≤ c ∧ c ≤ 60) ∧ (0 ≤ l ∧ l ≤ 5) := by
  have h1 := ho.2.1
  have h2 := ho.2.2.2.1
  obtain ⟨k1, k2, k3, k4, k5, k6, k7⟩ := h
  omega

def OkB (a b : Int) (d : Nat → Int) (t : S38) : Prop := OkBoat a b d t.f0.f0 t.f0.f1 t.f1 t.f2 t.f3 t.f4
instance (a b : Int) (d : Nat → Int) (t : S38) : Decidable (OkB a b d t) := by unfold OkB; infer_instance
def FitS (t : S38) : Prop := FitT t.f0.f0 t.f0.f1 t.f1 t.f2 t.f3 t.f4
theorem rd38 {xs : List S38} {j : Nat} (h : j < xs.length) : rd_T38 xs (j : Int) = xs[j] := by
  unfold rd_T38
  rw [Int.toNat_natCast, List.getD_eq_getElem?_getD, List.getElem?_eq_getElem h]
  rfl
def okL (a b : Int) (d : Nat → Int) (l : List S38) : Bool := l.all fun t => decide (OkB a b d t)
def codeL (a b : Int) (d : Nat → Int) (l : List S38) : Int := if BayIn.okBay a b d then (if okL a b d l = true then (if (l.length : Int) > 10 then 3 else 0) else 1) else 1
theorem w64n {j : Nat} {n : Nat} (h : j < n) (hn : n ≤ 9223372036854775807) : wrap64 ((j : Int) + 1) = ((j + 1 : Nat) : Int) := by unfold wrap64; omega
theorem asked_loop {a b : Int} {d : Nat → Int} (hf : FitB a b d) (ho : BayIn.okBay a b d) (l : List S38) (hl : l.length ≤ 9223372036854775807) (ht : ∀ t ∈ l, FitS t) (n : Nat) : ∀ j : Nat, l.length = j + n →
    Ev (fun k => spec_l01Asked.l0 k l (j : Int) a b d) ((if okL a b d (l.drop j) = true then (if (l.length : Int) > 10 then 3 else 0) else 1), a, b, d) := by
  induction n with
  | zero =>
    intro j hj
    rw [List.drop_eq_nil_of_le (by omega)]
    refine Ev.step (f := fun _ => some ((if (l.length : Int) > 10 then 3 else 0), a, b, d)) (fun k => ?_) (Ev.now _)
    simp only [spec_l01Asked.l0]
    rw [if_neg (by omega)]
    split <;> rfl
  | succ n ih =>
    intro j hj
    have hlt : j < l.length := by omega
    rw [List.drop_eq_getElem_cons hlt]
    have e : okL a b d (l[j] :: l.drop (j + 1)) = (decide (OkB a b d l[j]) && okL a b d (l.drop (j + 1))) := rfl
    rw [e]
    have hb := spec_boat hf ho (x := l[j].f0.f0) (y := l[j].f0.f1) (c := l[j].f1) (l := l[j].f2) (w := l[j].f3) (q := l[j].f4) (ht _ (List.getElem_mem hlt))
    by_cases c : OkB a b d l[j]
    · rw [decide_eq_true c, Bool.true_and]
      refine Ev.step (fun k => ?_) (ih (j + 1) (by omega))
      simp only [spec_l01Asked.l0]
      rw [if_pos (by omega), if_pos (by omega), rd38 hlt, hb]
      simp only [Option.bind_some]
      rw [decide_eq_true (show OkBoat a b d _ _ _ _ _ _ from c), if_pos rfl, w64n hlt hl]
    · rw [decide_eq_false c, Bool.false_and]
      refine Ev.step (f := fun _ => some (1, a, b, d)) (fun k => ?_) (Ev.now _)
      simp only [spec_l01Asked.l0]
      rw [if_pos (by omega), if_pos (by omega), rd38 hlt, hb]
      simp only [Option.bind_some]
      rw [decide_eq_false (show ¬ OkBoat a b d _ _ _ _ _ _ from c), if_neg (by decide)]
theorem spec_asked {a b : Int} {d : Nat → Int} (hf : FitB a b d) (l : List S38) (hl : l.length ≤ 9223372036854775807) (ht : ∀ t ∈ l, FitS t) :
    Ev (fun k => spec_l01Asked.f k a b d l) (codeL a b d l, a, b, d) := by
  unfold spec_l01Asked.f codeL
  obtain ⟨r, k1, k2⟩ := spec_bay hf
  refine Ev.bind k1 ?_
  by_cases ho : BayIn.okBay a b d
  · obtain rfl := k2.2 ho
    simp only [if_true, if_pos ho]
    exact asked_loop hf ho l hl ht l.length 0 (by omega)
  · have : r = false := by cases r with | false => rfl | true => exact absurd (k2.1 rfl) ho
    subst this
    simp only [Bool.false_eq_true, if_false, if_neg ho]
    exact Ev.now _
/-- What the program and the reference ask of a boat whose place lies in the bay. -/
def InB (s : S38) : Prop := ((0 ≤ s.f0.f0 ∧ s.f0.f0 < 16) ∧ (0 ≤ s.f0.f1 ∧ s.f0.f1 < 16)) ∧ (0 ≤ s.f1 ∧ s.f1 ≤ 60) ∧ (0 ≤ s.f2 ∧ s.f2 ≤ 5) ∧ (-128 ≤ s.f3 ∧ s.f3 ≤ 127)
theorem InB_of {a b : Int} {d : Nat → Int} (ho : BayIn.okBay a b d) {s : S38} (h : OkB a b d s) : InB s := by
  obtain ⟨h1, h2, h3, h4⟩ := boat_in ho h
  have := h.2.2.2.2.2.1
  exact ⟨⟨h1, h2⟩, h3, h4, by omega⟩

theorem rdBoat' {xs : List S34} {j : Nat} (h : j < xs.length) : rd_T34 xs (j : Int) = xs[j] := by
  unfold rd_T34
  rw [Int.toNat_natCast, List.getD_eq_getElem?_getD, List.getElem?_eq_getElem h]
  rfl
def convBoat (x : S34) : S38 := ⟨⟨x.f0.f0, x.f0.f1⟩, x.f1, x.f2, x.f3, x.f4⟩
theorem toBoat_loop (l : List S34) (hl : l.length ≤ 1048576) (d : Nat) : ∀ (j : Nat) (x : List S38), l.length = j + d → x.length = l.length → (∀ i, i < j → x[i]? = (l[i]?).map convBoat) → ∀ k, d < k → laws_toBoatS.l0 k l x (j : Int) = some (l.map convBoat) := by
  induction d with
  | zero =>
    intro j x hj hx hi k hk
    obtain ⟨k, rfl⟩ : ∃ q, k = q + 1 := ⟨k - 1, by omega⟩
    simp only [laws_toBoatS.l0]
    rw [if_neg (by omega)]
    refine congrArg some (List.ext_getElem? fun i => ?_)
    rw [List.getElem?_map]
    by_cases h : i < j
    · exact hi i h
    · rw [List.getElem?_eq_none (by omega), List.getElem?_eq_none (by omega)]
      rfl
  | succ d ih =>
    intro j x hj hx hi k hk
    obtain ⟨k, rfl⟩ : ∃ q, k = q + 1 := ⟨k - 1, by omega⟩
    have hlt : j < l.length := by omega
    have hw : wrap64 ((j : Int) + 1) = ((j + 1 : Nat) : Int) := by unfold wrap64; omega
    simp only [laws_toBoatS.l0, hw]
    rw [if_pos (by omega), if_pos (by omega), rdBoat' hlt]
    simp only [laws_toBoat.f, laws_toPlace.f, Option.bind_some]
    rw [if_pos (by omega), Int.toNat_natCast]
    refine ih (j + 1) _ (by omega) (by rw [List.length_set]; exact hx) (fun i h => ?_) k (by omega)
    by_cases e : i = j
    · subst e
      rw [List.getElem?_set_self (by omega), List.getElem?_eq_getElem hlt]
      rfl
    · rw [List.getElem?_set_ne (by omega)]
      exact hi i (by omega)
theorem toBoat (l : List S34) (hl : l.length ≤ 1048576) : Ev (fun k => laws_toBoatS.f k l) (l.map convBoat) := by
  refine ⟨l.length + 1, fun k hk => ?_⟩
  show laws_toBoatS.f k l = _
  unfold laws_toBoatS.f
  rw [if_pos (by omega), Int.toNat_natCast, if_pos (by omega)]
  exact toBoat_loop l hl l.length 0 _ (by omega) (by simp) (fun i h => by omega) k (by omega)
theorem szBoat (l : List S34) (h : l.length ≤ 9223372036854775807) (a : Int) (ha : 0 ≤ a) (ha2 : a ≤ 1048576) : laws_szBoatS.f l a = some (if a < l.length then -1 else a - l.length) := by
  have hw : wrap64 (a - (l.length : Int)) = a - l.length := by unfold wrap64; omega
  unfold laws_szBoatS.f
  rw [hw]
  by_cases c : a < l.length
  · rw [if_pos (by omega), if_pos c]
  · rw [if_neg (by omega), if_neg c]
theorem eqBoat_loop (a : List S38) (ha : a.length ≤ 9223372036854775000) (d : Nat) : ∀ (j : Nat), a.length = j + d → ∀ k, d < k → laws_eqBoatS.l0 k a a (j : Int) = some true := by
  induction d with
  | zero =>
    intro j hj k hk
    obtain ⟨k, rfl⟩ : ∃ q, k = q + 1 := ⟨k - 1, by omega⟩
    simp only [laws_eqBoatS.l0]
    rw [if_neg (by omega)]
  | succ d ih =>
    intro j hj k hk
    obtain ⟨k, rfl⟩ : ∃ q, k = q + 1 := ⟨k - 1, by omega⟩
    have hw : wrap64 ((j : Int) + 1) = ((j + 1 : Nat) : Int) := by unfold wrap64; omega
    simp only [laws_eqBoatS.l0, hw, laws_eqBoat.f, laws_eqPlace.f, if_true, Option.bind_some]
    rw [if_pos (by omega), if_pos (by omega), if_pos (by omega)]
    exact ih (j + 1) (by omega) k (by omega)
theorem eqBoat (a : List S38) (ha : a.length ≤ 9223372036854775000) : Ev (fun k => laws_eqBoatS.f k a a) true := by
  refine ⟨a.length + 1, fun k hk => ?_⟩
  show laws_eqBoatS.f k a a = _
  unfold laws_eqBoatS.f
  rw [if_pos rfl]
  exact eqBoat_loop a ha a.length 0 (by omega) k (by omega)
/-- What the mark writes at number m. -/
def mkBoat (m : Int) : S38 := ⟨⟨IntKind.i8.wrap (m), IntKind.i8.wrap (m + 1)⟩, IntKind.i8.wrap (m + 2), IntKind.i8.wrap (m + 3), IntKind.i8.wrap (m + 4), IntKind.i8.wrap (m + 5)⟩
theorem markBoat_loop (d : Nat) : ∀ (j : Nat) (x : List S38) (m : Int), x.length = j + d → x.length ≤ 1099511627776 → 0 ≤ m → m + 6 * d ≤ 1099511627776000 →
    ∃ x', (∀ k, d < k → laws_markBoatS.l0 k x m (j : Int) = some (m + 6 * d, x')) ∧ x'.length = x.length ∧ (∀ i, i < j → x'[i]? = x[i]?) ∧ ∀ i, j ≤ i → i < x.length → x'[i]? = some (mkBoat (m + 6 * (i - j))) := by
  induction d with
  | zero =>
    intro j x m hj hx h0 hm
    refine ⟨x, fun k hk => ?_, rfl, fun _ _ => rfl, fun i h1 h2 => by omega⟩
    obtain ⟨k, rfl⟩ : ∃ q, k = q + 1 := ⟨k - 1, by omega⟩
    simp only [laws_markBoatS.l0]
    rw [if_neg (by omega)]
    simp
  | succ d ih =>
    intro j x m hj hx h0 hm
    have hlt : j < x.length := by omega
    have hw : wrap64 ((j : Int) + 1) = ((j + 1 : Nat) : Int) := by unfold wrap64; omega
    have w1 : wrap64 (m + 1) = m + 1 := by unfold wrap64; omega
    have w2 : wrap64 (m + 2) = m + 2 := by unfold wrap64; omega
    have w3 : wrap64 (m + 3) = m + 3 := by unfold wrap64; omega
    have w4 : wrap64 (m + 4) = m + 4 := by unfold wrap64; omega
    have w5 : wrap64 (m + 5) = m + 5 := by unfold wrap64; omega
    have w6 : wrap64 (m + 6) = m + 6 := by unfold wrap64; omega
    have v1 : wrap64 (m + 1 + 1) = m + 2 := by unfold wrap64; omega
    have v2 : wrap64 (m + 2 + 1) = m + 3 := by unfold wrap64; omega
    have v3 : wrap64 (m + 3 + 1) = m + 4 := by unfold wrap64; omega
    have v4 : wrap64 (m + 4 + 1) = m + 5 := by unfold wrap64; omega
    have v5 : wrap64 (m + 5 + 1) = m + 6 := by unfold wrap64; omega
    obtain ⟨x', h1, h2, h3, h4⟩ := ih (j + 1) (x.set j (mkBoat m)) (m + 6) (by rw [List.length_set]; omega) (by rw [List.length_set]; exact hx) (by omega) (by omega)
    refine ⟨x', fun k hk => ?_, by rw [h2, List.length_set], fun i h => ?_, fun i h h' => ?_⟩
    · obtain ⟨k, rfl⟩ : ∃ q, k = q + 1 := ⟨k - 1, by omega⟩
      have e : m + 6 * ((d + 1 : Nat) : Int) = m + 6 + 6 * (d : Int) := by omega
      rw [e, ← h1 k (by omega)]
      simp only [laws_markBoatS.l0, hw, w1, v1, v2, v3, v4, v5, Int.toNat_natCast, Option.bind_some]
      rw [if_pos (by omega), if_pos (by omega)]
      simp [rd_T38, hlt, mkBoat]
    · rw [h3 i (by omega), List.getElem?_set_ne (by omega)]
    · by_cases c : i = j
      · subst c
        rw [h3 i (by omega), List.getElem?_set_self hlt, Int.sub_self, Int.mul_zero, Int.add_zero]
      · rw [h4 i (by omega) (by rw [List.length_set]; exact h')]
        congr 2
        omega

theorem code_loop {a b : Int} {d : Nat → Int} (hf : FitB a b d) (ho : BayIn.okBay a b d) (l : List S38) (hl : l.length ≤ 9223372036854775807) (n : Nat) : ∀ j : Nat, l.length = j + n →
    Ev (fun k => impl_boatsCode.l0 k l l (l.length : Int) (j : Int) a b d) (if okL a b d (l.drop j) = true then (if (l.length : Int) > 10 then 3 else 0) else 1) := by
  induction n with
  | zero =>
    intro j hj
    rw [List.drop_eq_nil_of_le (by omega)]
    refine Ev.step (f := fun _ => some (if (l.length : Int) > 10 then 3 else 0)) (fun k => ?_) (Ev.now _)
    simp only [impl_boatsCode.l0]
    rw [if_neg (by omega)]
    split <;> rfl
  | succ n ih =>
    intro j hj
    have hlt : j < l.length := by omega
    rw [List.drop_eq_getElem_cons hlt]
    have e : okL a b d (l[j] :: l.drop (j + 1)) = (decide (OkB a b d l[j]) && okL a b d (l.drop (j + 1))) := rfl
    rw [e]
    have hb := impl_boat hf ho l[j].f0.f0 l[j].f0.f1 l[j].f1 l[j].f2 l[j].f3 l[j].f4
    by_cases c : OkB a b d l[j]
    · rw [decide_eq_true c, Bool.true_and]
      refine Ev.step (fun k => ?_) (ih (j + 1) (by omega))
      simp only [impl_boatsCode.l0]
      rw [if_pos (by omega), if_pos (by omega), if_pos (by omega), rd38 hlt, hb]
      simp only [Option.bind_some]
      rw [decide_eq_true (show OkBoat a b d _ _ _ _ _ _ from c), if_pos rfl, w64n hlt hl]
    · rw [decide_eq_false c, Bool.false_and]
      refine Ev.step (f := fun _ => some 1) (fun k => ?_) (Ev.now _)
      simp only [impl_boatsCode.l0]
      rw [if_pos (by omega), if_pos (by omega), if_pos (by omega), rd38 hlt, hb]
      simp only [Option.bind_some]
      rw [decide_eq_false (show ¬ OkBoat a b d _ _ _ _ _ _ from c), if_neg (by decide)]
theorem impl_codes {a b : Int} {d : Nat → Int} (hf : FitB a b d) (l : List S38) (hl : l.length ≤ 9223372036854775807) : Ev (fun k => impl_boatsCode.f k a b d l) (codeL a b d l) := by
  unfold impl_boatsCode.f impl_ValidBay.f codeL
  simp only [Option.bind_some]
  by_cases ho : BayIn.okBay a b d
  · simp only [decide_eq_true ho, if_true, if_pos ho]
    exact code_loop hf ho l hl l.length 0 (by omega)
  · simp only [decide_eq_false ho, Bool.false_eq_true, if_false, if_neg ho]
    exact Ev.now _
/-- What is known of boats whose code is 0. -/
theorem codeL_ok {a b : Int} {d : Nat → Int} {l : List S38} (h : codeL a b d l = 0) : BayIn.okBay a b d ∧ (∀ t ∈ l, OkB a b d t) ∧ l.length ≤ 10 := by
  unfold codeL at h
  by_cases ho : BayIn.okBay a b d
  · rw [if_pos ho] at h
    by_cases hk : okL a b d l = true
    · rw [if_pos hk] at h
      refine ⟨ho, fun t ht => of_decide_eq_true (List.all_eq_true.1 hk t ht), ?_⟩
      by_cases c : (l.length : Int) > 10
      · rw [if_pos c] at h; exact absurd h (by decide)
      · omega
    · rw [if_neg hk] at h; exact absurd h (by decide)
  · rw [if_neg ho] at h; exact absurd h (by decide)
theorem inB_all {a b : Int} {d : Nat → Int} {l : List S38} (ho : BayIn.okBay a b d) (h : ∀ t ∈ l, OkB a b d t) {j : Nat} (hj : j < l.length) : InB (rd_T38 l (j : Int)) := by
  rw [rd38 hj]
  exact InB_of ho (h _ (List.getElem_mem hj))
theorem fits_boats (l : List S34) (h : ∀ x ∈ l, (Lit.int .i8 x.f0.f0).wf = true ∧ (Lit.int .i8 x.f0.f1).wf = true ∧ (Lit.int .i8 x.f1).wf = true ∧ (Lit.int .i8 x.f2).wf = true ∧ (Lit.int .i8 x.f3).wf = true ∧ (Lit.int .i8 x.f4).wf = true) : ∀ t ∈ l.map convBoat, FitS t := by
  intro t ht
  obtain ⟨x, hx, rfl⟩ := List.mem_map.1 ht
  obtain ⟨h1, h2, h3, h4, h5, h6⟩ := h x hx
  exact ⟨i8_of h1, i8_of h2, i8_of h3, i8_of h4, i8_of h5, i8_of h6⟩

theorem rdWater {xs : List S103} {j : Nat} (h : j < xs.length) : rd_T103 xs (j : Int) = xs[j] := by
  unfold rd_T103
  rw [Int.toNat_natCast, List.getD_eq_getElem?_getD, List.getElem?_eq_getElem h]
  rfl
theorem rdWater' {xs : List S145} {j : Nat} (h : j < xs.length) : rd_T145 xs (j : Int) = xs[j] := by
  unfold rd_T145
  rw [Int.toNat_natCast, List.getD_eq_getElem?_getD, List.getElem?_eq_getElem h]
  rfl
def convWater (x : S145) : S103 := ⟨x.f0, x.f1⟩
theorem toWater_loop (l : List S145) (hl : l.length ≤ 1048576) (d : Nat) : ∀ (j : Nat) (x : List S103), l.length = j + d → x.length = l.length → (∀ i, i < j → x[i]? = (l[i]?).map convWater) → ∀ k, d < k → laws_toWaterS.l0 k l x (j : Int) = some (l.map convWater) := by
  induction d with
  | zero =>
    intro j x hj hx hi k hk
    obtain ⟨k, rfl⟩ : ∃ q, k = q + 1 := ⟨k - 1, by omega⟩
    simp only [laws_toWaterS.l0]
    rw [if_neg (by omega)]
    refine congrArg some (List.ext_getElem? fun i => ?_)
    rw [List.getElem?_map]
    by_cases h : i < j
    · exact hi i h
    · rw [List.getElem?_eq_none (by omega), List.getElem?_eq_none (by omega)]
      rfl
  | succ d ih =>
    intro j x hj hx hi k hk
    obtain ⟨k, rfl⟩ : ∃ q, k = q + 1 := ⟨k - 1, by omega⟩
    have hlt : j < l.length := by omega
    have hw : wrap64 ((j : Int) + 1) = ((j + 1 : Nat) : Int) := by unfold wrap64; omega
    simp only [laws_toWaterS.l0, hw]
    rw [if_pos (by omega), if_pos (by omega), rdWater' hlt]
    simp only [laws_toWater.f, Option.bind_some]
    rw [if_pos (by omega), Int.toNat_natCast]
    refine ih (j + 1) _ (by omega) (by rw [List.length_set]; exact hx) (fun i h => ?_) k (by omega)
    by_cases e : i = j
    · subst e
      rw [List.getElem?_set_self (by omega), List.getElem?_eq_getElem hlt]
      rfl
    · rw [List.getElem?_set_ne (by omega)]
      exact hi i (by omega)
theorem toWater (l : List S145) (hl : l.length ≤ 1048576) : Ev (fun k => laws_toWaterS.f k l) (l.map convWater) := by
  refine ⟨l.length + 1, fun k hk => ?_⟩
  show laws_toWaterS.f k l = _
  unfold laws_toWaterS.f
  rw [if_pos (by omega), Int.toNat_natCast, if_pos (by omega)]
  exact toWater_loop l hl l.length 0 _ (by omega) (by simp) (fun i h => by omega) k (by omega)
theorem szWater (l : List S145) (h : l.length ≤ 9223372036854775807) (a : Int) (ha : 0 ≤ a) (ha2 : a ≤ 1048576) : laws_szWaterS.f l a = some (if a < l.length then -1 else a - l.length) := by
  have hw : wrap64 (a - (l.length : Int)) = a - l.length := by unfold wrap64; omega
  unfold laws_szWaterS.f
  rw [hw]
  by_cases c : a < l.length
  · rw [if_pos (by omega), if_pos c]
  · rw [if_neg (by omega), if_neg c]
theorem eqWater_loop (a : List S103) (ha : a.length ≤ 9223372036854775000) (d : Nat) : ∀ (j : Nat), a.length = j + d → ∀ k, d < k → laws_eqWaterS.l0 k a a (j : Int) = some true := by
  induction d with
  | zero =>
    intro j hj k hk
    obtain ⟨k, rfl⟩ : ∃ q, k = q + 1 := ⟨k - 1, by omega⟩
    simp only [laws_eqWaterS.l0]
    rw [if_neg (by omega)]
  | succ d ih =>
    intro j hj k hk
    obtain ⟨k, rfl⟩ : ∃ q, k = q + 1 := ⟨k - 1, by omega⟩
    have hw : wrap64 ((j : Int) + 1) = ((j + 1 : Nat) : Int) := by unfold wrap64; omega
    simp only [laws_eqWaterS.l0, hw, laws_eqWater.f, if_true, Option.bind_some]
    rw [if_pos (by omega), if_pos (by omega), if_pos (by omega)]
    exact ih (j + 1) (by omega) k (by omega)
theorem eqWater (a : List S103) (ha : a.length ≤ 9223372036854775000) : Ev (fun k => laws_eqWaterS.f k a a) true := by
  refine ⟨a.length + 1, fun k hk => ?_⟩
  show laws_eqWaterS.f k a a = _
  unfold laws_eqWaterS.f
  rw [if_pos rfl]
  exact eqWater_loop a ha a.length 0 (by omega) k (by omega)
/-- What the mark writes at number m. -/
def mkWater (m : Int) : S103 := ⟨IntKind.i16.wrap (m), IntKind.i8.wrap (m + 1)⟩
theorem markWater_loop (d : Nat) : ∀ (j : Nat) (x : List S103) (m : Int), x.length = j + d → x.length ≤ 1099511627776 → 0 ≤ m → m + 2 * d ≤ 1099511627776000 →
    ∃ x', (∀ k, d < k → laws_markWaterS.l0 k x m (j : Int) = some (m + 2 * d, x')) ∧ x'.length = x.length ∧ (∀ i, i < j → x'[i]? = x[i]?) ∧ ∀ i, j ≤ i → i < x.length → x'[i]? = some (mkWater (m + 2 * (i - j))) := by
  induction d with
  | zero =>
    intro j x m hj hx h0 hm
    refine ⟨x, fun k hk => ?_, rfl, fun _ _ => rfl, fun i h1 h2 => by omega⟩
    obtain ⟨k, rfl⟩ : ∃ q, k = q + 1 := ⟨k - 1, by omega⟩
    simp only [laws_markWaterS.l0]
    rw [if_neg (by omega)]
    simp
  | succ d ih =>
    intro j x m hj hx h0 hm
    have hlt : j < x.length := by omega
    have hw : wrap64 ((j : Int) + 1) = ((j + 1 : Nat) : Int) := by unfold wrap64; omega
    have w1 : wrap64 (m + 1) = m + 1 := by unfold wrap64; omega
    have w2 : wrap64 (m + 2) = m + 2 := by unfold wrap64; omega
    have v1 : wrap64 (m + 1 + 1) = m + 2 := by unfold wrap64; omega
    obtain ⟨x', h1, h2, h3, h4⟩ := ih (j + 1) (x.set j (mkWater m)) (m + 2) (by rw [List.length_set]; omega) (by rw [List.length_set]; exact hx) (by omega) (by omega)
    refine ⟨x', fun k hk => ?_, by rw [h2, List.length_set], fun i h => ?_, fun i h h' => ?_⟩
    · obtain ⟨k, rfl⟩ : ∃ q, k = q + 1 := ⟨k - 1, by omega⟩
      have e : m + 2 * ((d + 1 : Nat) : Int) = m + 2 + 2 * (d : Int) := by omega
      rw [e, ← h1 k (by omega)]
      simp only [laws_markWaterS.l0, hw, w1, v1, Int.toNat_natCast, Option.bind_some]
      rw [if_pos (by omega), if_pos (by omega)]
      simp [rd_T103, hlt, mkWater]
    · rw [h3 i (by omega), List.getElem?_set_ne (by omega)]
    · by_cases c : i = j
      · subst c
        rw [h3 i (by omega), List.getElem?_set_self hlt, Int.sub_self, Int.mul_zero, Int.add_zero]
      · rw [h4 i (by omega) (by rw [List.length_set]; exact h')]
        congr 2
        omega

/-- Water i's minute and level. -/
def M (l : List S103) (i : Nat) : Int := (rd_T103 l (i : Int)).f0
def V (l : List S103) (i : Nat) : Int := (rd_T103 l (i : Int)).f1
def Fits (l : List S103) : Prop := ∀ i : Nat, (-32768 ≤ M l i ∧ M l i ≤ 32767) ∧ (-128 ≤ V l i ∧ V l i ≤ 127)
theorem fits_conv (l : List S145) (h : ∀ x ∈ l, (Lit.int .i16 x.f0).wf = true ∧ (Lit.int .i8 x.f1).wf = true) : Fits (l.map convWater) := by
  intro i
  unfold M V
  by_cases hi : i < (l.map convWater).length
  · rw [rdWater hi, List.getElem_map]
    have := h _ (List.getElem_mem (l := l) (n := i) (by simpa using hi))
    exact ⟨i16_of this.1, i8_of this.2⟩
  · have e : rd_T103 (l.map convWater) (i : Int) = z103 := by
      unfold rd_T103
      rw [Int.toNat_natCast, List.getD_eq_getElem?_getD, List.getElem?_eq_none (by omega)]
      rfl
    rw [e]
    exact ⟨by decide, by decide⟩
/-- Water i is right behind those ahead of it. -/
def okAt (l : List S103) (i : Nat) : Prop := (0 ≤ M l i ∧ M l i ≤ 3000) ∧ (0 ≤ V l i ∧ V l i ≤ 100) ∧ (0 < i → M l (i - 1) + 6 ≤ M l i ∧ V l i ≠ V l (i - 1)) ∧ (1 < i → ¬ (V l i > V l (i - 1) ↔ V l (i - 1) > V l (i - 2)))
def Tides (l : List S103) : Prop := (2 ≤ l.length ∧ l.length ≤ 8) ∧ ∀ q, q < l.length → okAt l q
theorem EvB.same_of {g f : Nat → Option Bool} {P : Prop} (h : ∀ k, g k = f k) (k : EvB f P) : EvB g P := EvB.congr h k
theorem dec_beq (p q : Prop) [Decidable p] [Decidable q] : ((decide p == decide q) = true) ↔ (p ↔ q) := by
  by_cases hp : p <;> by_cases hq : q <;> simp [hp, hq]

theorem spec_tides_loop (l : List S103) (hf : Fits l) (hl : l.length ≤ 1048576) (d : Nat) : ∀ i : Nat, l.length = i + d → EvB (fun k => spec_l02Tides.l0 k l (i : Int)) ((2 ≤ l.length ∧ l.length ≤ 8) ∧ ∀ q, i ≤ q → q < l.length → okAt l q) := by
  induction d with
  | zero =>
    intro i hi
    have e : ¬ (i : Int) < l.length := by omega
    refine EvB.step (f := fun _ => some (decide (2 ≤ (l.length : Int) ∧ (l.length : Int) ≤ 8))) (fun k => ?_) ⟨_, Ev.now _, ?_⟩
    · simp only [spec_l02Tides.l0]
      rw [if_neg e, in_some]
      rfl
    · rw [decide_eq_true_iff]
      exact ⟨fun h => ⟨by omega, fun q h1 h2 => by omega⟩, fun h => by omega⟩
  | succ d ih =>
    intro i hi
    have hi1 : (i : Int) < l.length := by omega
    obtain ⟨f0, f1⟩ := hf i
    have w0 : wrap64 (rd_T103 l (i : Int)).f0 = M l i := w64 (by unfold M at f0; omega)
    have w1 : wrap64 (rd_T103 l (i : Int)).f1 = V l i := w64 (by unfold V at f1; omega)
    have hw : wrap64 ((i : Int) + 1) = ((i + 1 : Nat) : Int) := w64 (by omega)
    have no : ∀ {P : Prop}, ¬ okAt l i → ¬ (P ∧ ∀ q, i ≤ q → q < l.length → okAt l q) := fun h g => h (g.2 i (Nat.le_refl _) (by omega))
    have next : okAt l i → (((2 ≤ l.length ∧ l.length ≤ 8) ∧ ∀ q, i + 1 ≤ q → q < l.length → okAt l q) ↔ ((2 ≤ l.length ∧ l.length ≤ 8) ∧ ∀ q, i ≤ q → q < l.length → okAt l q)) := fun h => ⟨fun g => ⟨g.1, fun q h1 h2 => by
      by_cases e : q = i
      · rw [e]; exact h
      · exact g.2 q (by omega) h2⟩, fun g => ⟨g.1, fun q h1 h2 => g.2 q (by omega) h2⟩⟩
    by_cases a0 : 0 ≤ M l i ∧ M l i ≤ 3000
    · by_cases a1 : 0 ≤ V l i ∧ V l i ≤ 100
      · refine EvB.step (f := fun k => spec_l02Tides.j1 k l (i : Int) false (M l i) (V l i)) (fun k => ?_) ?_
        · simp only [spec_l02Tides.l0, w0, w1, in_some, Option.bind_some]
          rw [if_pos hi1, if_pos (by omega), if_pos (decide_eq_true a0), decide_eq_true a1]
          rfl
        · have wm : wrap64 (M l i) = M l i := w64 (by omega)
          by_cases p0 : 0 < i
          · have hp : wrap64 ((i : Int) - 1) = ((i - 1 : Nat) : Int) := by rw [w64 (by omega)]; omega
            obtain ⟨g0, g1⟩ := hf (i - 1)
            have v0 : wrap64 (rd_T103 l ((i - 1 : Nat) : Int)).f0 = M l (i - 1) := w64 (by unfold M at g0; omega)
            have v6 : wrap64 (M l (i - 1) + 6) = M l (i - 1) + 6 := w64 (by omega)
            by_cases b0 : M l i < M l (i - 1) + 6
            · refine EvB.step (f := fun k => spec_l02Tides.j2 k l (i : Int) true (M l i) (V l i)) (fun k => ?_) (EvB.step (f := fun _ => some false) (fun k => by simp [spec_l02Tides.j2]) (EvB.no (no fun h => by have := (h.2.2.1 p0).1; omega)))
              simp only [spec_l02Tides.j1, hp, wm, v0, v6, Bool.false_eq_true, if_false]
              rw [if_pos (by omega), if_pos (by omega), if_pos (by omega), if_pos b0]
            · by_cases b1 : V l i = V l (i - 1)
              · have e1 : (V l i == (rd_T103 l ((i - 1 : Nat) : Int)).f1) = true := beq_iff_eq.2 b1
                refine EvB.step (f := fun k => spec_l02Tides.j2 k l (i : Int) true (M l i) (V l i)) (fun k => ?_) (EvB.step (f := fun _ => some false) (fun k => by simp [spec_l02Tides.j2]) (EvB.no (no fun h => (h.2.2.1 p0).2 b1)))
                simp only [spec_l02Tides.j1, hp, wm, v0, v6, Bool.false_eq_true, if_false]
                rw [if_pos (by omega), if_pos (by omega), if_pos (by omega), if_neg b0, e1]
              · have e1 : (V l i == (rd_T103 l ((i - 1 : Nat) : Int)).f1) = false := beq_eq_false_iff_ne.2 b1
                refine EvB.step (f := fun k => spec_l02Tides.j2 k l (i : Int) false (M l i) (V l i)) (fun k => ?_) ?_
                · simp only [spec_l02Tides.j1, hp, wm, v0, v6, Bool.false_eq_true, if_false]
                  rw [if_pos (by omega), if_pos (by omega), if_pos (by omega), if_neg b0, e1]
                · by_cases p1 : 1 < i
                  · have hp2 : wrap64 ((i : Int) - 2) = ((i - 2 : Nat) : Int) := by rw [w64 (by omega)]; omega
                    by_cases c0 : V l i > V l (i - 1) ↔ V l (i - 1) > V l (i - 2)
                    · refine EvB.step (f := fun _ => some false) (fun k => ?_) (EvB.no (no fun h => h.2.2.2 p1 c0))
                      simp only [spec_l02Tides.j2, hp, hp2, hw, Bool.false_eq_true, if_false]
                      rw [if_pos (by omega), if_pos (by omega), if_pos (by omega), if_pos (by omega), if_pos (by omega), if_pos ((dec_beq (V l i > (rd_T103 l ((i - 1 : Nat) : Int)).f1) ((rd_T103 l ((i - 1 : Nat) : Int)).f1 > (rd_T103 l ((i - 2 : Nat) : Int)).f1)).2 c0)]
                    · refine EvB.step (fun k => ?_) ((ih (i + 1) (by omega)).iff (next ⟨a0, a1, fun _ => ⟨by omega, b1⟩, fun _ => c0⟩))
                      simp only [spec_l02Tides.j2, hp, hp2, hw, Bool.false_eq_true, if_false]
                      rw [if_pos (by omega), if_pos (by omega), if_pos (by omega), if_pos (by omega), if_pos (by omega), if_neg (fun h => c0 ((dec_beq (V l i > (rd_T103 l ((i - 1 : Nat) : Int)).f1) ((rd_T103 l ((i - 1 : Nat) : Int)).f1 > (rd_T103 l ((i - 2 : Nat) : Int)).f1)).1 h))]
                  · refine EvB.step (fun k => ?_) ((ih (i + 1) (by omega)).iff (next ⟨a0, a1, fun _ => ⟨by omega, b1⟩, fun h => absurd h p1⟩))
                    simp only [spec_l02Tides.j2, hw, Bool.false_eq_true, if_false]
                    rw [if_neg (by omega)]
          · refine EvB.step (f := fun k => spec_l02Tides.j2 k l (i : Int) false (M l i) (V l i)) (fun k => ?_) (EvB.step (fun k => ?_) ((ih (i + 1) (by omega)).iff (next ⟨a0, a1, fun h => absurd h p0, fun h => by omega⟩)))
            · simp only [spec_l02Tides.j1, Bool.false_eq_true, if_false]
              rw [if_neg (by omega)]
            · simp only [spec_l02Tides.j2, hw, Bool.false_eq_true, if_false]
              rw [if_neg (by omega)]
      · refine EvB.step (f := fun k => spec_l02Tides.j1 k l (i : Int) true (M l i) (V l i)) (fun k => ?_) (EvB.step (f := fun _ => some false) (fun k => by simp [spec_l02Tides.j1]) (EvB.no (no fun h => a1 h.2.1)))
        simp only [spec_l02Tides.l0, w0, w1, in_some, Option.bind_some]
        rw [if_pos hi1, if_pos (by omega), if_pos (decide_eq_true a0), decide_eq_false a1]
        rfl
    · refine EvB.step (f := fun k => spec_l02Tides.j1 k l (i : Int) true (M l i) (V l i)) (fun k => ?_) (EvB.step (f := fun _ => some false) (fun k => by simp [spec_l02Tides.j1]) (EvB.no (no fun h => a0 h.1)))
      simp only [spec_l02Tides.l0, w0, in_some, Option.bind_some]
      rw [if_pos hi1, if_pos (by omega), if_neg (by simpa using a0)]
      rfl

theorem spec_tides (l : List S103) (hf : Fits l) (hl : l.length ≤ 1048576) : EvB (fun k => spec_l02Tides.f k l) (Tides l) :=
  (spec_tides_loop l hf hl l.length 0 (by omega)).iff ⟨fun h => ⟨h.1, fun q hq => h.2 q (Nat.zero_le _) hq⟩, fun h => ⟨h.1, fun q _ hq => h.2 q hq⟩⟩

theorem impl_tides_loop (l : List S103) (hf : Fits l) (hl : l.length ≤ 1048576) (d : Nat) : ∀ i : Nat, l.length = i + d → (∀ q, q < i → okAt l q) → EvB (fun k => impl_ValidTides.l0 k l l l.length (i : Int)) (∀ q, q < l.length → okAt l q) := by
  induction d with
  | zero =>
    intro i hi ho
    have e : ¬ (i : Int) < l.length := by omega
    refine EvB.step (f := fun _ => some true) (fun k => ?_) (EvB.yes fun q hq => ho q (by omega))
    simp only [impl_ValidTides.l0]
    rw [if_neg e]
  | succ d ih =>
    intro i hi ho
    have hi1 : (i : Int) < l.length := by omega
    obtain ⟨f0, f1⟩ := hf i
    have hw : wrap64 ((i : Int) + 1) = ((i + 1 : Nat) : Int) := w64 (by omega)
    have no : ¬ okAt l i → ¬ ∀ q, q < l.length → okAt l q := fun h g => h (g i (by omega))
    have next : okAt l i → EvB (fun k => impl_ValidTides.l0 k l l l.length ((i + 1 : Nat) : Int)) (∀ q, q < l.length → okAt l q) := fun h => ih (i + 1) (by omega) fun q hq => by
      by_cases e : q = i
      · rw [e]; exact h
      · exact ho q (by omega)
    have bad : ¬ okAt l i → EvB (fun k => impl_ValidTides.j2 k l (i : Int) l l.length (i : Int) true (M l i) (V l i)) (∀ q, q < l.length → okAt l q) := fun h =>
      EvB.step (f := fun _ => some false) (fun k => by simp [impl_ValidTides.j2]) (EvB.no (no h))
    by_cases a0 : 0 ≤ M l i ∧ M l i ≤ 3000
    · by_cases a1 : 0 ≤ V l i ∧ V l i ≤ 100
      · refine EvB.step (f := fun k => impl_ValidTides.j2 k l (i : Int) l l.length (i : Int) false (M l i) (V l i)) (fun k => ?_) ?_
        · simp only [impl_ValidTides.l0]
          have q0 : ¬ (rd_T103 l (i : Int)).f0 < 0 := by unfold M at a0; omega
          have q1 : ¬ (rd_T103 l (i : Int)).f0 > 3000 := by unfold M at a0; omega
          have q2 : ¬ (rd_T103 l (i : Int)).f1 < 0 := by unfold V at a1; omega
          have q3 : decide ((rd_T103 l (i : Int)).f1 > 100) = false := decide_eq_false (by unfold V at a1; omega)
          rw [if_pos hi1, if_pos (by omega), if_pos hi1, if_neg q0, if_neg q1, if_neg q2, q3]
          rfl
        · by_cases p0 : 0 < i
          · have hp : wrap64 ((i : Int) - 1) = ((i - 1 : Nat) : Int) := by rw [w64 (by omega)]; omega
            have op := (ho (i - 1) (by omega)).1
            have v6 : IntKind.i16.wrap ((rd_T103 l ((i - 1 : Nat) : Int)).f0 + 6) = M l (i - 1) + 6 := by
              show IntKind.i16.wrap (M l (i - 1) + 6) = _
              simp [IntKind.wrap, IntKind.signed, IntKind.bits]
              omega
            by_cases b0 : M l i < M l (i - 1) + 6
            · refine EvB.step (f := fun _ => some false) (fun k => ?_) (EvB.no (no fun h => by have := (h.2.2.1 p0).1; omega))
              simp only [impl_ValidTides.j2, hp, v6, Bool.false_eq_true, if_false]
              rw [if_neg (by omega), if_pos (by omega), if_pos (by omega), if_pos b0]
            · by_cases b1 : V l i = V l (i - 1)
              · refine EvB.step (f := fun _ => some false) (fun k => ?_) (EvB.no (no fun h => (h.2.2.1 p0).2 b1))
                simp only [impl_ValidTides.j2, hp, v6, Bool.false_eq_true, if_false]
                rw [if_neg (by omega), if_pos (by omega), if_pos (by omega), if_neg b0, if_pos (show V l i = (rd_T103 l ((i - 1 : Nat) : Int)).f1 from b1)]
              · by_cases p1 : 1 < i
                · have hp2 : wrap64 ((i : Int) - 2) = ((i - 2 : Nat) : Int) := by rw [w64 (by omega)]; omega
                  by_cases c0 : V l i > V l (i - 1) ↔ V l (i - 1) > V l (i - 2)
                  · refine EvB.step (f := fun _ => some false) (fun k => ?_) (EvB.no (no fun h => h.2.2.2 p1 c0))
                    simp only [impl_ValidTides.j2, hp, hp2, hw, v6, Bool.false_eq_true, if_false]
                    rw [if_neg (by omega), if_pos (by omega), if_pos (by omega), if_neg b0, if_neg (show ¬ V l i = (rd_T103 l ((i - 1 : Nat) : Int)).f1 from b1), if_pos (by omega), if_pos (by omega), if_pos (by omega), if_pos ((dec_beq (V l i > (rd_T103 l ((i - 1 : Nat) : Int)).f1) ((rd_T103 l ((i - 1 : Nat) : Int)).f1 > (rd_T103 l ((i - 2 : Nat) : Int)).f1)).2 c0)]
                  · refine EvB.step (fun k => ?_) (next ⟨a0, a1, fun _ => ⟨by omega, b1⟩, fun _ => c0⟩)
                    simp only [impl_ValidTides.j2, hp, hp2, hw, v6, Bool.false_eq_true, if_false]
                    rw [if_neg (by omega), if_pos (by omega), if_pos (by omega), if_neg b0, if_neg (show ¬ V l i = (rd_T103 l ((i - 1 : Nat) : Int)).f1 from b1), if_pos (by omega), if_pos (by omega), if_pos (by omega), if_neg (fun h => c0 ((dec_beq (V l i > (rd_T103 l ((i - 1 : Nat) : Int)).f1) ((rd_T103 l ((i - 1 : Nat) : Int)).f1 > (rd_T103 l ((i - 2 : Nat) : Int)).f1)).1 h))]
                · refine EvB.step (fun k => ?_) (next ⟨a0, a1, fun _ => ⟨by omega, b1⟩, fun h => absurd h p1⟩)
                  simp only [impl_ValidTides.j2, hp, hw, v6, Bool.false_eq_true, if_false]
                  rw [if_neg (by omega), if_pos (by omega), if_pos (by omega), if_neg b0, if_neg (show ¬ V l i = (rd_T103 l ((i - 1 : Nat) : Int)).f1 from b1), if_neg (by omega)]
          · refine EvB.step (fun k => ?_) (next ⟨a0, a1, fun h => absurd h p0, fun h => by omega⟩)
            simp only [impl_ValidTides.j2, hw, Bool.false_eq_true, if_false]
            rw [if_pos (by omega)]
      · by_cases a2 : V l i < 0
        · refine EvB.step (fun k => ?_) (bad fun h => a1 h.2.1)
          simp only [impl_ValidTides.l0]
          have q0 : ¬ (rd_T103 l (i : Int)).f0 < 0 := by unfold M at a0; omega
          have q1 : ¬ (rd_T103 l (i : Int)).f0 > 3000 := by unfold M at a0; omega
          rw [if_pos hi1, if_pos (by omega), if_pos hi1, if_neg q0, if_neg q1, if_pos (show (rd_T103 l (i : Int)).f1 < 0 from a2)]
          rfl
        · refine EvB.step (fun k => ?_) (bad fun h => a1 h.2.1)
          simp only [impl_ValidTides.l0]
          have q0 : ¬ (rd_T103 l (i : Int)).f0 < 0 := by unfold M at a0; omega
          have q1 : ¬ (rd_T103 l (i : Int)).f0 > 3000 := by unfold M at a0; omega
          have q3 : decide ((rd_T103 l (i : Int)).f1 > 100) = true := decide_eq_true (by unfold V at a1 a2; omega)
          rw [if_pos hi1, if_pos (by omega), if_pos hi1, if_neg q0, if_neg q1, if_neg (show ¬ (rd_T103 l (i : Int)).f1 < 0 from a2), q3]
          rfl
    · by_cases a2 : M l i < 0
      · refine EvB.step (fun k => ?_) (bad fun h => a0 h.1)
        simp only [impl_ValidTides.l0]
        rw [if_pos hi1, if_pos (by omega), if_pos hi1, if_pos (show (rd_T103 l (i : Int)).f0 < 0 from a2)]
        rfl
      · refine EvB.step (fun k => ?_) (bad fun h => a0 h.1)
        simp only [impl_ValidTides.l0]
        have q1 : (rd_T103 l (i : Int)).f0 > 3000 := by unfold M at a0 a2; omega
        rw [if_pos hi1, if_pos (by omega), if_pos hi1, if_neg (show ¬ (rd_T103 l (i : Int)).f0 < 0 from a2), if_pos q1]
        rfl

theorem impl_tides (l : List S103) (hf : Fits l) (hl : l.length ≤ 1048576) : EvB (fun k => impl_ValidTides.f k l) (Tides l) := by
  by_cases h2 : 2 ≤ l.length
  · by_cases h8 : l.length ≤ 8
    · refine EvB.congr (f := fun k => impl_ValidTides.j0 k l false) (fun k => ?_) (EvB.step (f := fun k => impl_ValidTides.l0 k l l l.length ((0 : Nat) : Int)) (fun k => by simp [impl_ValidTides.j0]) ((impl_tides_loop l hf hl l.length 0 (by omega) (fun q hq => by omega)).iff ⟨fun h => ⟨⟨h2, h8⟩, h⟩, fun h => h.2⟩))
      unfold impl_ValidTides.f
      rw [if_neg (by omega), decide_eq_false (by omega)]
    · refine EvB.congr (f := fun k => impl_ValidTides.j0 k l true) (fun k => ?_) (EvB.step (f := fun _ => some false) (fun k => by simp [impl_ValidTides.j0]) (EvB.no fun h => h8 h.1.2))
      unfold impl_ValidTides.f
      rw [if_neg (by omega), decide_eq_true (by omega)]
  · refine EvB.congr (f := fun k => impl_ValidTides.j0 k l true) (fun k => ?_) (EvB.step (f := fun _ => some false) (fun k => by simp [impl_ValidTides.j0]) (EvB.no fun h => h2 h.1.1))
    unfold impl_ValidTides.f
    rw [if_pos (by omega)]

def tw (k : Nat) : Int := rd [1, 2, 3, 3, 2, 1] (k : Int)
def sm : Nat → Int
  | 0 => 0
  | k + 1 => sm k + tw k
theorem sm_six : sm 6 = 12 := rfl
theorem tw_six : tw 6 = 0 := rfl
theorem tw_bd (k : Nat) : 0 ≤ tw k ∧ tw k ≤ 3 := by
  by_cases h : k < 6
  · have : k = 0 ∨ k = 1 ∨ k = 2 ∨ k = 3 ∨ k = 4 ∨ k = 5 := by omega
    rcases this with rfl | rfl | rfl | rfl | rfl | rfl <;> decide
  · have : tw k = 0 := by
      unfold tw rd
      rw [Int.toNat_natCast, List.getD_eq_getElem?_getD, List.getElem?_eq_none (by simp; omega)]
      rfl
    rw [this]; decide
theorem sm_bd {k : Nat} (h : k ≤ 6) : 0 ≤ sm k ∧ sm k ≤ 12 := by
  have : k = 0 ∨ k = 1 ∨ k = 2 ∨ k = 3 ∨ k = 4 ∨ k = 5 ∨ k = 6 := by omega
  rcases this with rfl | rfl | rfl | rfl | rfl | rfl | rfl <;> decide
theorem prod_bd {x y a b : Int} (h1 : -a ≤ x) (h2 : x ≤ a) (h3 : 0 ≤ y) (h4 : y ≤ b) (ha : 0 ≤ a) : -(a * b) ≤ x * y ∧ x * y ≤ a * b := by
  have g1 := Int.mul_nonneg (show 0 ≤ a - x by omega) h3
  have g2 := Int.mul_nonneg (show 0 ≤ a + x by omega) h3
  have g3 := Int.mul_le_mul_of_nonneg_left h4 ha
  rw [Int.sub_mul] at g1
  rw [Int.add_mul] at g2
  omega
/-- What is rounded towards 0 and corrected is rounded down. -/
theorem floor_div {u b : Int} (hb : 0 < b) : (if Int.tmod u b < 0 then Int.tdiv u b - 1 else Int.tdiv u b) = u / b := by
  have h1 := Int.tmod_def u b
  have h2 := Int.mul_ediv_add_emod u b
  have h3 := Int.emod_nonneg u (show b ≠ 0 by omega)
  have h4 := Int.emod_lt_of_pos u hb
  have h5 := Int.tdiv_eq_ediv (a := u) (b := b)
  rw [h5] at h1 ⊢
  by_cases c : 0 ≤ u ∨ b ∣ u
  · rw [if_pos c] at h1 ⊢
    have e : b * (u / b + 0) = b * (u / b) := by rw [Int.add_zero]
    rw [if_neg (by omega)]
    omega
  · rw [if_neg c] at h1 ⊢
    have hs : b.sign = 1 := Int.sign_eq_one_of_pos hb
    rw [hs] at h1 ⊢
    have e : b * (u / b + 1) = b * (u / b) + b := by rw [Int.mul_add, Int.mul_one]
    rw [if_pos (by omega)]
    omega

/-- Minute m lies between waters i and i + 1. -/
def Seg (l : List S103) (m : Int) (i : Nat) : Prop := i + 1 < l.length ∧ M l i ≤ m ∧ m ≤ M l (i + 1) ∧ (i + 2 < l.length → m < M l (i + 1))
def kOf (l : List S103) (m : Int) (i : Nat) : Nat := (6 * (m - M l i) / (M l (i + 1) - M l i)).toNat
def rOf (l : List S103) (m : Int) (i : Nat) : Int := 6 * (m - M l i) % (M l (i + 1) - M l i)
def nOf (l : List S103) (m : Int) (i : Nat) : Int := sm (kOf l m i) * (M l (i + 1) - M l i) + tw (kOf l m i) * rOf l m i
/-- The height at a minute between waters i and i + 1. -/
def hgt (l : List S103) (m : Int) (i : Nat) : Int := V l i + ((V l (i + 1) - V l i) * nOf l m i) / (12 * (M l (i + 1) - M l i))

theorem step_up {l : List S103} (ht : Tides l) {i : Nat} (hi : i + 1 < l.length) : M l i + 6 ≤ M l (i + 1) ∧ V l (i + 1) ≠ V l i := by
  have := (ht.2 (i + 1) hi).2.2.1 (by omega)
  simpa using this
theorem M_bd {l : List S103} (ht : Tides l) {i : Nat} (hi : i < l.length) : 0 ≤ M l i ∧ M l i ≤ 3000 := (ht.2 i hi).1
theorem V_bd {l : List S103} (ht : Tides l) {i : Nat} (hi : i < l.length) : 0 ≤ V l i ∧ V l i ≤ 100 := (ht.2 i hi).2.1
theorem M_le {l : List S103} (ht : Tides l) {i j : Nat} (h : i ≤ j) (hj : j < l.length) : M l i ≤ M l j := by
  induction j with
  | zero =>
    have : i = 0 := by omega
    rw [this]
    exact Int.le_refl _
  | succ j ih =>
    by_cases e : i = j + 1
    · rw [e]; exact Int.le_refl _
    · have h1 := ih (by omega) (by omega)
      have h2 := (step_up ht hj).1
      omega
theorem seg_some {l : List S103} (ht : Tides l) {m : Int} (h0 : M l 0 ≤ m) (h1 : m ≤ M l (l.length - 1)) : ∃ i, Seg l m i := by
  have hl := ht.1
  suffices g : ∀ n, n + 1 < l.length → (∃ i, i < n ∧ Seg l m i) ∨ M l n ≤ m by
    rcases g (l.length - 2) (by omega) with ⟨i, _, hi⟩ | hi
    · exact ⟨i, hi⟩
    · refine ⟨l.length - 2, by omega, hi, ?_, fun h => by omega⟩
      rwa [show l.length - 2 + 1 = l.length - 1 from by omega]
  intro n
  induction n with
  | zero => exact fun _ => .inr h0
  | succ n ih =>
    intro hn
    rcases ih (by omega) with ⟨i, hi, hs⟩ | hi
    · exact .inl ⟨i, by omega, hs⟩
    · by_cases c : M l (n + 1) ≤ m
      · exact .inr c
      · exact .inl ⟨n, by omega, by omega, hi, by omega, fun _ => by omega⟩
theorem k_le {l : List S103} (ht : Tides l) {m : Int} {i : Nat} (h : Seg l m i) : kOf l m i ≤ 6 := by
  obtain ⟨h1, h2, h3, _⟩ := h
  have := (step_up ht h1).1
  unfold kOf
  have : 6 * (m - M l i) / (M l (i + 1) - M l i) ≤ 6 := Int.ediv_le_of_le_mul (by omega) (by omega)
  omega
theorem k_lt {l : List S103} (ht : Tides l) {m : Int} {i : Nat} (h : Seg l m i) (hm : m < M l (i + 1)) : kOf l m i < 6 := by
  obtain ⟨h1, h2, h3, _⟩ := h
  have := (step_up ht h1).1
  unfold kOf
  have : 6 * (m - M l i) / (M l (i + 1) - M l i) < 6 := Int.ediv_lt_of_lt_mul (by omega) (by omega)
  omega
theorem k_cast {l : List S103} (ht : Tides l) {m : Int} {i : Nat} (h : Seg l m i) : ((kOf l m i : Nat) : Int) = 6 * (m - M l i) / (M l (i + 1) - M l i) := by
  obtain ⟨h1, h2, h3, _⟩ := h
  have := (step_up ht h1).1
  have := Int.ediv_nonneg (show 0 ≤ 6 * (m - M l i) by omega) (show 0 ≤ M l (i + 1) - M l i by omega)
  unfold kOf
  omega
theorem r_bd {l : List S103} (ht : Tides l) {m : Int} {i : Nat} (h : i + 1 < l.length) : 0 ≤ rOf l m i ∧ rOf l m i < M l (i + 1) - M l i := by
  have := (step_up ht h).1
  exact ⟨Int.emod_nonneg _ (by omega), Int.emod_lt_of_pos _ (by omega)⟩
theorem k_last {l : List S103} (ht : Tides l) {m : Int} {i : Nat} (h : i + 1 < l.length) (hm : m = M l (i + 1)) : kOf l m i = 6 ∧ rOf l m i = 0 := by
  have := (step_up ht h).1
  unfold kOf rOf
  subst hm
  rw [Int.mul_ediv_cancel _ (by omega), Int.mul_emod_left]
  exact ⟨rfl, rfl⟩
theorem k_first {l : List S103} {m : Int} {i : Nat} (hm : m = M l i) : kOf l m i = 0 ∧ rOf l m i = 0 := by
  unfold kOf rOf
  subst hm
  simp
theorem hgt_last {l : List S103} (ht : Tides l) {i : Nat} (h : i + 1 < l.length) : hgt l (M l (i + 1)) i = V l (i + 1) := by
  have h6 := (step_up ht h).1
  obtain ⟨h1, h2⟩ := k_last ht h (m := M l (i + 1)) rfl
  unfold hgt nOf
  rw [h1, h2, sm_six, tw_six, Int.mul_zero, Int.add_zero, Int.mul_ediv_cancel _ (by omega)]
  omega
theorem hgt_first (l : List S103) (i : Nat) : hgt l (M l i) i = V l i := by
  obtain ⟨h1, h2⟩ := k_first (l := l) (m := M l i) (i := i) rfl
  unfold hgt nOf
  rw [h1, h2]
  simp [sm]
theorem n_bd {l : List S103} (ht : Tides l) {m : Int} {i : Nat} (h : Seg l m i) : 0 ≤ nOf l m i ∧ nOf l m i ≤ 45000 := by
  have h6 := (step_up ht h.1).1
  have ha := M_bd ht (i := i) (by have := h.1; omega)
  have hb := M_bd ht h.1
  have hr := r_bd ht (m := m) h.1
  have hs := sm_bd (k_le ht h)
  have hw := tw_bd (kOf l m i)
  have p1 := prod_bd (x := sm (kOf l m i)) (y := M l (i + 1) - M l i) (a := 12) (b := 3000) (by omega) (by omega) (by omega) (by omega) (by omega)
  have p2 := prod_bd (x := tw (kOf l m i)) (y := rOf l m i) (a := 3) (b := 3000) (by omega) (by omega) (by omega) (by omega) (by omega)
  have p3 := Int.mul_nonneg hs.1 (show 0 ≤ M l (i + 1) - M l i by omega)
  have p4 := Int.mul_nonneg hw.1 hr.1
  unfold nOf
  omega
theorem up_bd {l : List S103} (ht : Tides l) {m : Int} {i : Nat} (h : Seg l m i) : -4500000 ≤ (V l (i + 1) - V l i) * nOf l m i ∧ (V l (i + 1) - V l i) * nOf l m i ≤ 4500000 := by
  have va := V_bd ht (i := i) (by have := h.1; omega)
  have vb := V_bd ht h.1
  have hn := n_bd ht h
  have := prod_bd (x := V l (i + 1) - V l i) (y := nOf l m i) (a := 100) (b := 45000) (by omega) (by omega) hn.1 hn.2 (by omega)
  omega

theorem rdM {l : List S103} (i : Nat) : (rd_T103 l (i : Int)).f0 = M l i := rfl
theorem rdV {l : List S103} (i : Nat) : (rd_T103 l (i : Int)).f1 = V l i := rfl

theorem spec_tw_loop (k : Nat) (hk : k < 6) (d : Nat) : ∀ j : Nat, k = j + d → ∀ g, d < g → spec_l02Twelfths.l0 g (k : Int) [1, 2, 3, 3, 2, 1] (sm j) (j : Int) = some (tw k, sm k) := by
  induction d with
  | zero =>
    intro j hj g hg
    obtain ⟨g, rfl⟩ : ∃ q, g = q + 1 := ⟨g - 1, by omega⟩
    obtain rfl : k = j := by omega
    simp only [spec_l02Twelfths.l0]
    rw [if_neg (by omega), if_pos (by omega), if_pos (by simp; omega)]
    rfl
  | succ d ih =>
    intro j hj g hg
    obtain ⟨g, rfl⟩ : ∃ q, g = q + 1 := ⟨g - 1, by omega⟩
    have hw : wrap64 ((j : Int) + 1) = ((j + 1 : Nat) : Int) := w64 (by omega)
    have hs : wrap64 (sm j + rd [1, 2, 3, 3, 2, 1] (j : Int)) = sm (j + 1) := by
      show wrap64 (sm j + tw j) = _
      have := sm_bd (k := j) (by omega)
      have := tw_bd j
      rw [w64 (by omega)]
      rfl
    simp only [spec_l02Twelfths.l0, hw, hs]
    rw [if_pos (by omega), if_pos (by omega), if_pos (by simp; omega)]
    exact ih (j + 1) (by omega) g (by omega)
theorem spec_tw (k : Nat) (hk : k < 6) : Ev (fun g => spec_l02Twelfths.f g (k : Int)) (tw k, sm k) :=
  ⟨7, fun g hg => spec_tw_loop k hk k 0 (by omega) g (by omega)⟩

/-- What the reference tells of a minute. -/
theorem spec_at_loop (l : List S103) (ht : Tides l) (m : Int) (i : Nat) (hs : Seg l m i) (d : Nat) : ∀ j : Nat, 1 ≤ j → i + 1 = j + d →
    Ev (fun g => spec_l02At.l0 g l m (j : Int)) (if m = M l (i + 1) then (M l (i + 1), V l (i + 1), M l (i + 1), V l (i + 1), 0, 0, true) else (M l i, V l i, M l (i + 1), V l (i + 1), (kOf l m i : Int), rOf l m i, decide (m = M l i))) := by
  have hl := ht.1
  have hm0 := M_bd ht (i := i) (by have := hs.1; omega)
  have hm1 := M_bd ht hs.1
  have h6 := (step_up ht hs.1).1
  obtain ⟨s1, s2, s3, s4⟩ := hs
  induction d with
  | zero =>
    intro j hj hd
    obtain rfl : j = i + 1 := by omega
    have hp : wrap64 (((i + 1 : Nat) : Int) - 1) = (i : Int) := by rw [w64 (by omega)]; omega
    have w0 : wrap64 (M l i) = M l i := w64 (by omega)
    have w1 : wrap64 (M l (i + 1)) = M l (i + 1) := w64 (by omega)
    have wl : wrap64 ((l.length : Int) - 1) = (l.length : Int) - 1 := w64 (by omega)
    by_cases e : m = M l (i + 1)
    · have hlast : ¬ i + 2 < l.length := fun h => by have := s4 h; omega
      rw [if_pos e]
      refine Ev.step (f := fun g => spec_l02At.j1 g l m ((i + 1 : Nat) : Int) (M l i) (M l (i + 1)) false) (fun g => ?_) (Ev.step (f := fun _ => some (M l (i + 1), V l (i + 1), M l (i + 1), V l (i + 1), 0, 0, true)) (fun g => ?_) (Ev.now _))
      · simp only [spec_l02At.l0, hp, rdM, w0, w1, wl]
        rw [if_pos (by omega), if_pos (by omega), if_pos (by omega), if_pos (by omega), if_neg (by omega), if_neg (by omega), if_pos e, decide_eq_false (by omega)]
      · simp only [spec_l02At.j1, rdM, rdV, Bool.false_eq_true, if_false]
        rw [if_pos e, if_pos (by omega), if_pos (by omega)]
    · have e' : m < M l (i + 1) := by omega
      have hk := k_cast ht ⟨s1, s2, s3, s4⟩
      have hk6 := k_le ht ⟨s1, s2, s3, s4⟩
      have hr := r_bd ht (m := m) s1
      have a1 : wrap64 (M l (i + 1) - M l i) = M l (i + 1) - M l i := w64 (by omega)
      have a2 : wrap64 (m - M l i) = m - M l i := w64 (by omega)
      have a3 : wrap64 (6 * (m - M l i)) = 6 * (m - M l i) := w64 (by omega)
      have a4 : wrap64 (Int.tdiv (6 * (m - M l i)) (M l (i + 1) - M l i)) = (kOf l m i : Int) := by
        rw [Int.tdiv_eq_ediv_of_nonneg (by omega), ← hk]
        exact w64 (by omega)
      have a5 : Int.tmod (6 * (m - M l i)) (M l (i + 1) - M l i) = rOf l m i := Int.tmod_eq_emod_of_nonneg (by omega)
      have a6 : (6 * (m - M l i) == 0) = decide (m = M l i) := by
        by_cases c : m = M l i
        · rw [decide_eq_true c]; exact beq_iff_eq.2 (by omega)
        · rw [decide_eq_false c]; exact beq_eq_false_iff_ne.2 (by omega)
      rw [if_neg e]
      refine Ev.step (f := fun g => spec_l02At.j1 g l m ((i + 1 : Nat) : Int) (M l i) (M l (i + 1)) false) (fun g => ?_) (Ev.step (f := fun _ => some (M l i, V l i, M l (i + 1), V l (i + 1), (kOf l m i : Int), rOf l m i, decide (m = M l i))) (fun g => ?_) (Ev.now _))
      · simp only [spec_l02At.l0, hp, rdM, w0, w1]
        rw [if_pos (by omega), if_pos (by omega), if_pos (by omega), if_pos (by omega), if_neg (by omega), if_neg (by omega), if_neg e]
      · simp only [spec_l02At.j1, hp, rdM, rdV, a1, a2, a3, a4, a5, a6, Bool.false_eq_true, if_false]
        rw [if_neg e, if_pos (by omega), if_pos (by omega), if_pos (by omega), if_pos (by omega), if_neg (by omega)]
  | succ d ih =>
    intro j hj hd
    have hp : wrap64 ((j : Int) - 1) = ((j - 1 : Nat) : Int) := by rw [w64 (by omega)]; omega
    have hw : wrap64 ((j : Int) + 1) = ((j + 1 : Nat) : Int) := w64 (by omega)
    have b0 := M_bd ht (i := j - 1) (by omega)
    have b1 := M_bd ht (i := j) (by omega)
    have w0 : wrap64 (M l (j - 1)) = M l (j - 1) := w64 (by omega)
    have w1 : wrap64 (M l j) = M l j := w64 (by omega)
    have wl : wrap64 ((l.length : Int) - 1) = (l.length : Int) - 1 := w64 (by omega)
    have c0 := M_le ht (i := j - 1) (j := j) (by omega) (by omega)
    have c1 := M_le ht (i := j) (j := i) (by omega) (by omega)
    refine Ev.step (f := fun g => spec_l02At.j1 g l m (j : Int) (M l (j - 1)) (M l j) true) (fun g => ?_) (Ev.step (fun g => ?_) (ih (j + 1) (by omega) (by omega)))
    · simp only [spec_l02At.l0, hp, rdM, w0, w1, wl]
      rw [if_pos (by omega), if_pos (by omega), if_pos (by omega), if_pos (by omega), if_neg (by omega)]
      by_cases c : m > M l j
      · rw [if_pos c]
      · rw [if_neg c, if_pos (by omega), decide_eq_true (by omega)]
    · simp only [spec_l02At.j1, if_true, hw]

theorem spec_at (l : List S103) (ht : Tides l) (m : Int) (i : Nat) (hs : Seg l m i) :
    Ev (fun g => spec_l02At.f g l m) (if m = M l (i + 1) then (M l (i + 1), V l (i + 1), M l (i + 1), V l (i + 1), 0, 0, true) else (M l i, V l i, M l (i + 1), V l (i + 1), (kOf l m i : Int), rOf l m i, decide (m = M l i))) :=
  spec_at_loop l ht m i hs i 1 (Nat.le_refl _) (by omega)

theorem impl_part_loop (l : List S103) (ht : Tides l) (m : Int) (i : Nat) (hs : Seg l m i) (d : Nat) : ∀ j : Nat, i = j + d →
    Ev (fun g => impl_part.l0 g l m (j : Int)) ((i : Int), (kOf l m i : Int), rOf l m i) := by
  have hl := ht.1
  have hm0 := M_bd ht (i := i) (by have := hs.1; omega)
  have hm1 := M_bd ht hs.1
  have h6 := (step_up ht hs.1).1
  obtain ⟨s1, s2, s3, s4⟩ := hs
  induction d with
  | zero =>
    intro j hj
    obtain rfl : i = j := by omega
    have hp : wrap64 ((i : Int) + 1) = ((i + 1 : Nat) : Int) := w64 (by omega)
    have hp2 : wrap64 ((i : Int) + 2) = ((i + 2 : Nat) : Int) := w64 (by omega)
    have w0 : wrap64 (M l i) = M l i := w64 (by omega)
    have w1 : wrap64 (M l (i + 1)) = M l (i + 1) := w64 (by omega)
    have hk := k_cast ht ⟨s1, s2, s3, s4⟩
    have hk6 := k_le ht ⟨s1, s2, s3, s4⟩
    have a1 : wrap64 (M l (i + 1) - M l i) = M l (i + 1) - M l i := w64 (by omega)
    have a2 : wrap64 (m - M l i) = m - M l i := w64 (by omega)
    have a3 : wrap64 (6 * (m - M l i)) = 6 * (m - M l i) := w64 (by omega)
    have a4 : wrap64 (Int.tdiv (6 * (m - M l i)) (M l (i + 1) - M l i)) = (kOf l m i : Int) := by
      rw [Int.tdiv_eq_ediv_of_nonneg (by omega), ← hk]
      exact w64 (by omega)
    have a5 : Int.tmod (6 * (m - M l i)) (M l (i + 1) - M l i) = rOf l m i := Int.tmod_eq_emod_of_nonneg (by omega)
    refine Ev.step (f := fun _ => some ((i : Int), (kOf l m i : Int), rOf l m i)) (fun g => ?_) (Ev.now _)
    simp only [impl_part.l0, hp, hp2, rdM, w0, w1, a1, a2, a3, a4, a5]
    rw [if_pos (by omega), if_pos (by omega)]
    by_cases c : M l (i + 1) ≤ m
    · rw [if_pos c, if_neg (fun h => by have := s4 (by omega); omega), if_pos (by omega), if_pos (by omega), if_neg (by omega)]
    · rw [if_neg c, if_pos (by omega), if_pos (by omega), if_neg (by omega)]
  | succ d ih =>
    intro j hj
    have hp : wrap64 ((j : Int) + 1) = ((j + 1 : Nat) : Int) := w64 (by omega)
    have hp2 : wrap64 ((j : Int) + 2) = ((j + 2 : Nat) : Int) := w64 (by omega)
    have b1 := M_bd ht (i := j + 1) (by omega)
    have w1 : wrap64 (M l (j + 1)) = M l (j + 1) := w64 (by omega)
    have c1 := M_le ht (i := j + 1) (j := i) (by omega) (by omega)
    refine Ev.step (fun g => ?_) (ih (j + 1) (by omega))
    simp only [impl_part.l0, hp, hp2, rdM, w1]
    rw [if_pos (by omega), if_pos (by omega), if_pos (by omega), if_pos (by omega)]
theorem impl_part_at (l : List S103) (ht : Tides l) (m : Int) (i : Nat) (hs : Seg l m i) : Ev (fun g => impl_part.f g l m) ((i : Int), (kOf l m i : Int), rOf l m i) :=
  impl_part_loop l ht m i hs i 0 (by omega)

/-- The common last step of both heights. -/
theorem last_step {l : List S103} (ht : Tides l) {m : Int} {i : Nat} (hs : Seg l m i) : ∀ (b : Int), b = 12 * (M l (i + 1) - M l i) → b ≠ 0 ∧
    (if Int.tmod ((V l (i + 1) - V l i) * nOf l m i) b < 0 then some (wrap64 (V l i + wrap64 (wrap64 (Int.tdiv ((V l (i + 1) - V l i) * nOf l m i) b) - 1))) else some (wrap64 (V l i + wrap64 (Int.tdiv ((V l (i + 1) - V l i) * nOf l m i) b)))) = some (hgt l m i) := by
  rintro b rfl
  have h6 := (step_up ht hs.1).1
  have hu := up_bd ht hs
  have va := V_bd ht (i := i) (by have := hs.1; omega)
  refine ⟨by omega, ?_⟩
  have hb : 0 < 12 * (M l (i + 1) - M l i) := by omega
  have hf := floor_div (u := (V l (i + 1) - V l i) * nOf l m i) hb
  have q1 : -4500000 ≤ (V l (i + 1) - V l i) * nOf l m i / (12 * (M l (i + 1) - M l i)) := by
    refine Int.le_ediv_of_mul_le hb ?_
    have := prod_bd (x := -4500000) (y := 12 * (M l (i + 1) - M l i)) (a := 4500000) (b := 12 * (M l (i + 1) - M l i)) (by omega) (by omega) (by omega) (by omega) (by omega)
    omega
  have q2 : (V l (i + 1) - V l i) * nOf l m i / (12 * (M l (i + 1) - M l i)) ≤ 4500000 := by
    refine Int.ediv_le_of_le_mul hb ?_
    omega
  unfold hgt
  by_cases c : Int.tmod ((V l (i + 1) - V l i) * nOf l m i) (12 * (M l (i + 1) - M l i)) < 0
  · rw [if_pos c] at hf ⊢
    rw [w64 (n := Int.tdiv _ _) (by omega), w64 (n := Int.tdiv _ _ - 1) (by omega), w64 (by omega), hf]
  · rw [if_neg c] at hf ⊢
    rw [w64 (n := Int.tdiv _ _) (by omega), w64 (by omega), hf]

theorem spec_height (l : List S103) (ht : Tides l) (m : Int) (i : Nat) (hs : Seg l m i) : Ev (fun g => spec_l02Height.f g l m) (hgt l m i) := by
  have h6 := (step_up ht hs.1).1
  have ma := M_bd ht (i := i) (by have := hs.1; omega)
  have mb := M_bd ht hs.1
  have va := V_bd ht (i := i) (by have := hs.1; omega)
  have vb := V_bd ht hs.1
  have hat := spec_at l ht m i hs
  by_cases e : m = M l (i + 1)
  · rw [if_pos e] at hat
    refine Ev.congr (fun g => by unfold spec_l02Height.f; rfl) (Ev.bind hat ?_)
    simp only [if_true]
    rw [w64 (n := V l (i + 1)) (by omega), e, hgt_last ht hs.1]
    exact Ev.now _
  · rw [if_neg e] at hat
    refine Ev.congr (fun g => by unfold spec_l02Height.f; rfl) (Ev.bind hat ?_)
    by_cases e0 : m = M l i
    · simp only [decide_eq_true e0, if_true]
      rw [w64 (n := V l i) (by omega), e0, hgt_first]
      exact Ev.now _
    · simp only [decide_eq_false e0, Bool.false_eq_true, if_false]
      have hk := k_lt ht hs (by have := hs.2.2.1; omega)
      refine Ev.bind (spec_tw _ hk) ?_
      have hn := n_bd ht hs
      have hu := up_bd ht hs
      have hr := r_bd ht (m := m) hs.1
      have hsb := sm_bd (k_le ht hs)
      have hw := tw_bd (kOf l m i)
      have p1 := prod_bd (x := sm (kOf l m i)) (y := M l (i + 1) - M l i) (a := 12) (b := 3000) (by omega) (by omega) (by omega) (by omega) (by omega)
      have p2 := prod_bd (x := tw (kOf l m i)) (y := rOf l m i) (a := 3) (b := 3000) (by omega) (by omega) (by omega) (by omega) (by omega)
      have q0 : wrap64 (M l (i + 1)) = M l (i + 1) := w64 (by omega)
      have q1 : wrap64 (M l i) = M l i := w64 (by omega)
      have q2 : wrap64 (M l (i + 1) - M l i) = M l (i + 1) - M l i := w64 (by omega)
      have q3 : wrap64 (12 * (M l (i + 1) - M l i)) = 12 * (M l (i + 1) - M l i) := w64 (by omega)
      have q4 : wrap64 (V l (i + 1)) = V l (i + 1) := w64 (by omega)
      have q5 : wrap64 (V l i) = V l i := w64 (by omega)
      have q6 : wrap64 (V l (i + 1) - V l i) = V l (i + 1) - V l i := w64 (by omega)
      have q7 : wrap64 (sm (kOf l m i) * (M l (i + 1) - M l i)) = sm (kOf l m i) * (M l (i + 1) - M l i) := w64 (by omega)
      have q8 : wrap64 (tw (kOf l m i) * rOf l m i) = tw (kOf l m i) * rOf l m i := w64 (by omega)
      have q9 : wrap64 (sm (kOf l m i) * (M l (i + 1) - M l i) + tw (kOf l m i) * rOf l m i) = nOf l m i := w64 (by omega)
      have q10 : wrap64 ((V l (i + 1) - V l i) * nOf l m i) = (V l (i + 1) - V l i) * nOf l m i := w64 (by omega)
      obtain ⟨hb0, hl⟩ := last_step ht hs _ rfl
      refine Ev.congr (f := fun _ => some (hgt l m i)) (fun g => ?_) (Ev.now _)
      simp only [q0, q1, q2, q3, q4, q5, q6, q7, q8, q9, q10]
      rw [if_neg hb0, hl]

theorem impl_height_loop (l : List S103) (ht : Tides l) (m : Int) (i : Nat) (hs : Seg l m i) (hm : m < M l (i + 1)) (d : Nat) : ∀ j : Nat, kOf l m i = j + d →
    Ev (fun g => impl_height.l0 g l (i : Int) (kOf l m i : Int) (rOf l m i) (sm j) (([1, 2, 3, 3, 2, 1] : List Int).take (kOf l m i)) (kOf l m i : Int) (j : Int)) (hgt l m i) := by
  have hk := k_lt ht hs hm
  have hlen := ht.1
  induction d with
  | zero =>
    intro j hj
    rw [show sm j = sm (kOf l m i) from by rw [show j = kOf l m i from by omega]]
    have h6 := (step_up ht hs.1).1
    have ma := M_bd ht (i := i) (by have := hs.1; omega)
    have mb := M_bd ht hs.1
    have va := V_bd ht (i := i) (by have := hs.1; omega)
    have vb := V_bd ht hs.1
    have hn := n_bd ht hs
    have hu := up_bd ht hs
    have hr := r_bd ht (m := m) hs.1
    have hsb := sm_bd (k_le ht hs)
    have hw := tw_bd (kOf l m i)
    have p1 := prod_bd (x := sm (kOf l m i)) (y := M l (i + 1) - M l i) (a := 12) (b := 3000) (by omega) (by omega) (by omega) (by omega) (by omega)
    have p2 := prod_bd (x := tw (kOf l m i)) (y := rOf l m i) (a := 3) (b := 3000) (by omega) (by omega) (by omega) (by omega) (by omega)
    have hp : wrap64 ((i : Int) + 1) = ((i + 1 : Nat) : Int) := w64 (by have := hs.1; omega)
    have q0 : wrap64 (M l (i + 1)) = M l (i + 1) := w64 (by omega)
    have q1 : wrap64 (M l i) = M l i := w64 (by omega)
    have q2 : wrap64 (M l (i + 1) - M l i) = M l (i + 1) - M l i := w64 (by omega)
    have q3 : wrap64 (12 * (M l (i + 1) - M l i)) = 12 * (M l (i + 1) - M l i) := w64 (by omega)
    have q4 : wrap64 (V l (i + 1)) = V l (i + 1) := w64 (by omega)
    have q5 : wrap64 (V l i) = V l i := w64 (by omega)
    have q6 : wrap64 (V l (i + 1) - V l i) = V l (i + 1) - V l i := w64 (by omega)
    have q7 : wrap64 (sm (kOf l m i) * (M l (i + 1) - M l i)) = sm (kOf l m i) * (M l (i + 1) - M l i) := w64 (by omega)
    have q8 : wrap64 (rd [1, 2, 3, 3, 2, 1] (kOf l m i : Int) * rOf l m i) = tw (kOf l m i) * rOf l m i := w64 (by show _ ≤ tw (kOf l m i) * rOf l m i ∧ tw (kOf l m i) * rOf l m i ≤ _; omega)
    have q9 : wrap64 (sm (kOf l m i) * (M l (i + 1) - M l i) + tw (kOf l m i) * rOf l m i) = nOf l m i := w64 (by omega)
    have q10 : wrap64 ((V l (i + 1) - V l i) * nOf l m i) = (V l (i + 1) - V l i) * nOf l m i := w64 (by omega)
    obtain ⟨hb0, hl⟩ := last_step ht hs _ rfl
    refine Ev.step (f := fun _ => some (hgt l m i)) (fun g => ?_) (Ev.now _)
    simp only [impl_height.l0, impl_twelfths.f, Option.bind_some, hp, rdM, rdV, q0, q1, q2, q3, q4, q5, q6, q7, q8, q9, q10]
    have hs1 := hs.1
    rw [if_neg (by omega), if_pos (by omega), if_pos (by omega), if_pos (by omega), if_pos (by omega), if_pos (by omega), if_pos (by simp; omega), if_neg hb0, hl]
  | succ d ih =>
    intro j hj
    have hw : wrap64 ((j : Int) + 1) = ((j + 1 : Nat) : Int) := w64 (by omega)
    have hrd : rd (([1, 2, 3, 3, 2, 1] : List Int).take (kOf l m i)) (j : Int) = tw j := by
      unfold tw rd
      rw [Int.toNat_natCast, List.getD_eq_getElem?_getD, List.getD_eq_getElem?_getD, List.getElem?_take, if_pos (by omega)]
    have hsj : wrap64 (sm j + tw j) = sm (j + 1) := by
      have := sm_bd (k := j) (by omega)
      have := tw_bd j
      rw [w64 (by omega)]
      rfl
    refine Ev.step (fun g => ?_) (ih (j + 1) (by omega))
    simp only [impl_height.l0, hw, hrd, hsj]
    rw [if_pos (by omega), if_pos (by omega), if_pos (by rw [List.length_take]; simp; omega)]

theorem span_some (l : List S103) (ht : Tides l) : impl_span.f l = some (M l 0, M l (l.length - 1)) := by
  have hl := ht.1
  have m0 := M_bd ht (i := 0) (by omega)
  have m1 := M_bd ht (i := l.length - 1) (by omega)
  have hwl : wrap64 ((l.length : Int) - 1) = ((l.length - 1 : Nat) : Int) := by rw [w64 (by omega)]; omega
  unfold impl_span.f
  rw [hwl, if_pos (by omega), if_pos (by omega), if_pos (by omega), rdM]
  have e0 : wrap64 (rd_T103 l 0).f0 = M l 0 := w64 (by unfold M at m0; simp at m0; omega)
  rw [e0, w64 (by omega)]

theorem impl_height_at (l : List S103) (ht : Tides l) (m : Int) (i : Nat) (hs : Seg l m i) : Ev (fun g => impl_height.f g l m) (hgt l m i) := by
  have hl := ht.1
  have hwl : wrap64 ((l.length : Int) - 1) = ((l.length - 1 : Nat) : Int) := by rw [w64 (by omega)]; omega
  have vb := V_bd ht hs.1
  by_cases e : m = M l (l.length - 1)
  · have hi : i + 1 = l.length - 1 := by
      have h1 := hs.1
      by_cases c : i + 2 < l.length
      · have h4 := hs.2.2.2 c
        have := M_le ht (i := i + 1) (j := l.length - 1) (by omega) (by omega)
        omega
      · omega
    refine Ev.congr (f := fun _ => some (hgt l m i)) (fun g => ?_) (Ev.now _)
    unfold impl_height.f
    rw [span_some l ht]
    simp only [Option.bind_some, hwl, rdV]
    rw [if_pos e, if_pos (by omega), if_pos (by omega), ← hi, w64 (by omega)]
    rw [← hi] at e
    rw [e, hgt_last ht hs.1]
  · have hm : m < M l (i + 1) := by
      by_cases c : i + 2 < l.length
      · exact hs.2.2.2 c
      · have h1 := hs.1
        have h3 := hs.2.2.1
        rw [show l.length - 1 = i + 1 from by omega] at e
        omega
    have hk := k_lt ht hs hm
    refine Ev.congr (f := fun g => (impl_part.f g l m).bind fun bt181 => ((impl_twelfths.f).bind fun t184 => (if 0 ≤ bt181.2.1 then (if bt181.2.1 ≤ (t184.length : Int) then ((some (t184.take (bt181.2.1 : Int).toNat : List Int)).bind fun y187 => (impl_height.l0 g l bt181.1 bt181.2.1 bt181.2.2 0 y187 (y187.length : Int) 0)) else (none)) else (none)))) (fun g => ?_) (Ev.bind (impl_part_at l ht m i hs) ?_)
    · unfold impl_height.f
      rw [span_some l ht]
      simp only [Option.bind_some]
      rw [if_neg e]
    · have hlen : ((([1, 2, 3, 3, 2, 1] : List Int).take (kOf l m i)).length : Int) = (kOf l m i : Int) := by rw [List.length_take]; simp; omega
      have hg := impl_height_loop l ht m i hs hm (kOf l m i) 0 (by omega)
      refine Ev.congr (fun g => ?_) hg
      simp only [impl_twelfths.f, Option.bind_some, Int.toNat_natCast, hlen]
      rw [if_pos (by omega), if_pos (by simp; omega)]
      rfl

/-- A minute of tides. -/
def InT (l : List S103) (m : Int) : Prop := M l 0 ≤ m ∧ m ≤ M l (l.length - 1)
/-- What the program's code tells of some minutes and levels that are few. -/
theorem impl_code2 (l : List S103) (c : Bool) (h : Ev (fun k => impl_ValidTides.f k l) c) (hc : c = true → Tides l) (ms ls : List Int) (q : Int)
    (hq : Tides l → Ev (fun k => impl_tidesCode.l0 k ms ls (M l 0) (M l (l.length - 1)) ms ms.length 0) q) : Ev (fun k => impl_tidesCode.f k l ms ls) (if c = true then q else 1) := by
  refine Ev.congr (fun k => by unfold impl_tidesCode.f; rfl) (Ev.bind h ?_)
  cases c with
  | true =>
    simp only [if_true]
    rw [span_some l (hc rfl)]
    exact hq (hc rfl)
  | false => exact Ev.now _
theorem last_some (l : List S103) (ht : Tides l) : spec_l02Last.f l = some (M l (l.length - 1)) := by
  have hl := ht.1
  have m1 := M_bd ht (i := l.length - 1) (by omega)
  have hwl : wrap64 ((l.length : Int) - 1) = ((l.length - 1 : Nat) : Int) := by rw [w64 (by omega)]; omega
  unfold spec_l02Last.f
  rw [hwl, if_pos (by omega), if_pos (by omega), rdM, w64 (by omega)]
theorem div_bd {u b : Int} (h1 : -4500000 ≤ u) (h2 : u ≤ 4500000) (hb : 0 < b) : -4500000 ≤ u / b ∧ u / b ≤ 4500000 := by
  constructor
  · refine (Int.le_ediv_iff_mul_le hb).2 ?_
    have : (-4500000 : Int) * b ≤ -4500000 * 1 := Int.mul_le_mul_of_nonpos_left (by omega) (by omega)
    omega
  · have h3 : u / b ≤ 4500000 / b := Int.ediv_le_ediv hb h2
    have h4 : (4500000 : Int) / b ≤ 4500000 := Int.ediv_le_self _ (by omega)
    omega
theorem hgt_bd {l : List S103} (ht : Tides l) {m : Int} {i : Nat} (hs : Seg l m i) : -5000000 ≤ hgt l m i ∧ hgt l m i ≤ 5000000 := by
  have h1 := up_bd ht hs
  have h2 := (step_up ht hs.1).1
  have h3 := div_bd h1.1 h1.2 (b := 12 * (M l (i + 1) - M l i)) (by omega)
  have h4 := V_bd ht (i := i) (by have := hs.1; omega)
  unfold hgt
  omega
theorem tidesB (l : List S103) (hf : Fits l) (hl : l.length ≤ 1048576) : ∃ c : Bool, Ev (fun k => spec_l02Tides.f k l) c ∧ Ev (fun k => impl_ValidTides.f k l) c ∧ (c = true → Tides l) := by
  obtain ⟨c, h1, h2, h3⟩ := EvB.same (spec_tides l hf hl) (impl_tides l hf hl)
  exact ⟨c, h1, h2, h3.1⟩
def codeF (q : Int) (c fine : Bool) : Int := if q = 1 then 1 else if c = true then (if q = 0 then (if fine = true then 0 else 2) else q) else 1
theorem spec_boats {a b : Int} {d : Nat → Int} (hf : FitB a b d) (lb : List S38) (hl : lb.length ≤ 9223372036854775807) (ht : ∀ t ∈ lb, FitS t) (lw : List S103) {c : Bool} (hc : Ev (fun k => spec_l02Tides.f k lw) c) (fine : Bool) :
    Ev (fun k => spec_l02Boats.f k a b d lb lw fine) (codeF (codeL a b d lb) c fine, a, b, d) := by
  unfold spec_l02Boats.f codeF
  refine Ev.bind (spec_asked hf lb hl ht) ?_
  by_cases e : codeL a b d lb = 1
  · simp only [if_pos e]
    exact Ev.step (f := fun _ => some (1, a, b, d)) (fun k => by simp only [spec_l02Boats.j0, if_true]) (Ev.now _)
  · simp only [if_neg e]
    refine Ev.bind hc ?_
    cases c with
    | false => exact Ev.step (f := fun _ => some (1, a, b, d)) (fun k => by simp only [spec_l02Boats.j0, Bool.not_false, if_true]) (Ev.now _)
    | true =>
      refine Ev.step (f := fun _ => some ((if codeL a b d lb = 0 then (if fine = true then 0 else 2) else codeL a b d lb), a, b, d)) (fun k => ?_) (Ev.now _)
      simp only [spec_l02Boats.j0, Bool.not_true, Bool.false_eq_true, if_false]
      by_cases e0 : codeL a b d lb = 0
      · simp only [if_pos e0]
        cases fine <;> rfl
      · simp only [if_neg e0]
theorem first_some (l : List S103) (ht : Tides l) : spec_l02First.f l = some (M l 0) := by
  have hl := ht.1
  have m1 := M_bd ht (i := 0) (by omega)
  have e : (rd_T103 l 0).f0 = M l 0 := rfl
  unfold spec_l02First.f
  rw [if_pos (by omega), e, w64 (by omega)]
theorem impl_floats {a b : Int} {d : Nat → Int} (hf : FitB a b d) (lb : List S38) (hl : lb.length ≤ 9223372036854775807) (lw : List S103) {c : Bool} (hc : Ev (fun k => impl_ValidTides.f k lw) c) (ms : List Int) {v : Int} (hv : c = true → Ev (fun k => impl_tidesCode.f k lw ms []) v) {fine : Bool} (he : c = true → v = if fine = true then 0 else 2) :
    Ev (fun k => impl_floatCode.f k a b d lb lw ms) (codeF (codeL a b d lb) c fine) := by
  unfold impl_floatCode.f codeF
  refine Ev.bind (impl_codes hf lb hl) ?_
  by_cases e : codeL a b d lb = 1
  · simp only [if_pos e]
    exact Ev.step (f := fun _ => some 1) (fun k => by simp only [impl_floatCode.j0, if_true]) (Ev.now _)
  · simp only [if_neg e]
    refine Ev.bind hc ?_
    cases c with
    | false => exact Ev.step (f := fun _ => some 1) (fun k => by simp only [impl_floatCode.j0, Bool.not_false, if_true]) (Ev.now _)
    | true =>
      simp only [if_true]
      by_cases e0 : codeL a b d lb = 0
      · rw [if_pos e0, ← he rfl]
        refine Ev.step (fun k => ?_) (Ev.bind (hv rfl) (Ev.now _))
        simp only [impl_floatCode.j0, Bool.not_true, Bool.false_eq_true, if_false, if_pos e0]
      · rw [if_neg e0]
        exact Ev.step (f := fun _ => some (codeL a b d lb)) (fun k => by simp only [impl_floatCode.j0, Bool.not_true, Bool.false_eq_true, if_false, if_neg e0]) (Ev.now _)
theorem codeF_ok {q : Int} {c fine : Bool} (h : codeF q c fine = 0) : q = 0 ∧ c = true ∧ fine = true := by
  unfold codeF at h
  by_cases e : q = 1
  · rw [if_pos e] at h; exact absurd h (by decide)
  · rw [if_neg e] at h
    cases c with
    | false => simp at h
    | true =>
      simp only [if_true] at h
      by_cases e0 : q = 0
      · rw [if_pos e0] at h
        cases fine with
        | false => simp at h
        | true => exact ⟨e0, rfl, rfl⟩
      · rw [if_neg e0] at h; exact absurd h e0
theorem eqA2 (a b : Int) : Ev (fun k => laws_eqInt64A2.f k a b a b) true := by
  have w1 : wrap64 ((0 : Int) + 1) = 1 := by unfold wrap64; rfl
  have w2 : wrap64 ((1 : Int) + 1) = 2 := by unfold wrap64; rfl
  unfold laws_eqInt64A2.f
  refine Ev.step (f := fun k => laws_eqInt64A2.l0 k 1 a b a b) (fun k => ?_) (Ev.step (f := fun k => laws_eqInt64A2.l0 k 2 a b a b) (fun k => ?_) (Ev.step (f := fun _ => some true) (fun k => ?_) (Ev.now _)))
  · simp only [laws_eqInt64A2.l0, w1]
    rw [if_pos (by decide), if_pos (by decide), if_pos trivial, if_pos trivial]
  · simp only [laws_eqInt64A2.l0, w2]
    rw [if_pos (by decide), if_pos (by decide), if_neg (by decide), if_pos trivial, if_pos trivial]
  · simp only [laws_eqInt64A2.l0]
    rw [if_neg (by decide)]
theorem eqA2S_loop (a : List S82) (ha : a.length ≤ 9223372036854775000) (d : Nat) : ∀ (j : Nat), a.length = j + d → Ev (fun k => laws_eqInt64A2S.l0 k a a (j : Int)) true := by
  induction d with
  | zero =>
    intro j hj
    refine Ev.step (f := fun _ => some true) (fun k => ?_) (Ev.now _)
    simp only [laws_eqInt64A2S.l0]
    rw [if_neg (by omega)]
  | succ d ih =>
    intro j hj
    have hw : wrap64 ((j : Int) + 1) = ((j + 1 : Nat) : Int) := by unfold wrap64; omega
    refine Ev.step (f := fun k => (laws_eqInt64A2.f k ((rd_T82 a (j : Int)).f0) ((rd_T82 a (j : Int)).f1) ((rd_T82 a (j : Int)).f0) ((rd_T82 a (j : Int)).f1)).bind fun t251 => (if t251 = true then (laws_eqInt64A2S.l0 k a a ((j + 1 : Nat) : Int)) else (some false))) (fun k => ?_) (Ev.bind (eqA2 _ _) ?_)
    · simp only [laws_eqInt64A2S.l0, hw]
      rw [if_pos (by omega), if_pos (by omega), if_pos (by omega)]
    · simp only [if_true]
      exact ih (j + 1) (by omega)
theorem eqA2S (a : List S82) (ha : a.length ≤ 9223372036854775000) : Ev (fun k => laws_eqInt64A2S.f k a a) true := by
  unfold laws_eqInt64A2S.f
  simp only [if_true]
  exact eqA2S_loop a ha a.length 0 (by omega)
theorem rd82 {xs : List S82} {j : Nat} (h : j < xs.length) : rd_T82 xs (j : Int) = xs[j] := by
  unfold rd_T82
  rw [Int.toNat_natCast, List.getD_eq_getElem?_getD, List.getElem?_eq_getElem h]
  rfl
theorem markA2_step {x : List S82} {j : Nat} (hj : j < x.length) (hx : x.length ≤ 1099511627776) {m : Int} (h0 : 0 ≤ m) (hm : m ≤ 1099511627776000) {r : Int × List S82}
    (h : Ev (fun k => laws_markInt64A2S.l0 k (x.set j ⟨m, m + 1⟩) (m + 2) ((j + 1 : Nat) : Int)) r) : Ev (fun k => laws_markInt64A2S.l0 k x m (j : Int)) r := by
  have w1 : wrap64 ((0 : Int) + 1) = 1 := by unfold wrap64; rfl
  have w2 : wrap64 ((1 : Int) + 1) = 2 := by unfold wrap64; rfl
  have wm : wrap64 (m + 1) = m + 1 := by unfold wrap64; omega
  have wn : wrap64 (m + 1 + 1) = m + 2 := by unfold wrap64; omega
  have hw : wrap64 ((j : Int) + 1) = ((j + 1 : Nat) : Int) := by unfold wrap64; omega
  have e1 : ∀ y : S82, rd_T82 (x.set j y) (j : Int) = y := fun y => by rw [rd82 (by rw [List.length_set]; exact hj), List.getElem_set_self]
  refine Ev.step (f := fun k => laws_markInt64A2S.l1 k x m (j : Int) 0) (fun k => ?_) (Ev.step (f := fun k => laws_markInt64A2S.l1 k (x.set j ⟨m, (rd_T82 x (j : Int)).f1⟩) (m + 1) (j : Int) 1) (fun k => ?_) (Ev.step (f := fun k => laws_markInt64A2S.l1 k (x.set j ⟨m, m + 1⟩) (m + 2) (j : Int) 2) (fun k => ?_) (Ev.step (fun k => ?_) h)))
  · simp only [laws_markInt64A2S.l0]
    rw [if_pos (by omega)]
  · simp only [laws_markInt64A2S.l1, w1, wm, Int.toNat_natCast]
    rw [if_pos (by decide), if_pos (by omega), if_pos (by omega), if_pos (by decide), if_pos trivial]
  · simp only [laws_markInt64A2S.l1, w2, wn, Int.toNat_natCast, e1, List.set_set, List.length_set]
    rw [if_pos (by decide), if_pos (by omega), if_pos (by omega), if_pos (by decide), if_neg (by decide), if_pos trivial]
  · simp only [laws_markInt64A2S.l1, hw]
    rw [if_neg (by decide)]
theorem markA2_loop (d : Nat) : ∀ (j : Nat) (x : List S82) (m : Int), x.length = j + d → x.length ≤ 1099511627776 → 0 ≤ m → m + 2 * d ≤ 1099511627776000 →
    ∃ x', Ev (fun k => laws_markInt64A2S.l0 k x m (j : Int)) (m + 2 * d, x') ∧ x'.length = x.length ∧ (∀ i, i < j → x'[i]? = x[i]?) ∧ ∀ i, j ≤ i → i < x.length → x'[i]? = some (⟨m + 2 * (i - j), m + 2 * (i - j) + 1⟩ : S82) := by
  induction d with
  | zero =>
    intro j x m hj hx h0 hm
    refine ⟨x, Ev.step (f := fun _ => some (m, x)) (fun k => ?_) (by simp; exact Ev.now _), rfl, fun _ _ => rfl, fun i h1 h2 => by omega⟩
    simp only [laws_markInt64A2S.l0]
    rw [if_neg (by omega)]
  | succ d ih =>
    intro j x m hj hx h0 hm
    have hlt : j < x.length := by omega
    obtain ⟨x', h1, h2, h3, h4⟩ := ih (j + 1) (x.set j ⟨m, m + 1⟩) (m + 2) (by rw [List.length_set]; omega) (by rw [List.length_set]; exact hx) (by omega) (by omega)
    refine ⟨x', ?_, by rw [h2, List.length_set], fun i h => ?_, fun i h h' => ?_⟩
    · have e : m + 2 * ((d + 1 : Nat) : Int) = m + 2 + 2 * (d : Int) := by omega
      rw [e]
      exact markA2_step hlt hx h0 (by omega) h1
    · rw [h3 i (by omega), List.getElem?_set_ne (by omega)]
    · by_cases c : i = j
      · subst c
        rw [h3 i (by omega), List.getElem?_set_self hlt, Int.sub_self, Int.mul_zero, Int.add_zero]
      · rw [h4 i (by omega) (by rw [List.length_set]; exact h')]
        congr 2 <;> omega
theorem heldA2_loop (d : Nat) : ∀ (j : Nat) (x : List S82) (m : Int), x.length = j + d → x.length ≤ 1099511627776 → 0 ≤ m → m + 2 * d ≤ 1099511627776000 → (∀ i, j ≤ i → i < x.length → x[i]? = some (⟨m + 2 * (i - j), m + 2 * (i - j) + 1⟩ : S82)) →
    Ev (fun k => laws_heldInt64A2S.l0 k x m (j : Int)) (m + 2 * d) := by
  induction d with
  | zero =>
    intro j x m hj hx h0 hm hi
    refine Ev.step (f := fun _ => some m) (fun k => ?_) (by simp; exact Ev.now _)
    simp only [laws_heldInt64A2S.l0]
    rw [if_neg (by omega)]
  | succ d ih =>
    intro j x m hj hx h0 hm hi
    have hlt : j < x.length := by omega
    have w1 : wrap64 ((0 : Int) + 1) = 1 := by unfold wrap64; rfl
    have w2 : wrap64 ((1 : Int) + 1) = 2 := by unfold wrap64; rfl
    have wm : wrap64 (m + 1) = m + 1 := by unfold wrap64; omega
    have wn : wrap64 (m + 1 + 1) = m + 2 := by unfold wrap64; omega
    have hw : wrap64 ((j : Int) + 1) = ((j + 1 : Nat) : Int) := by unfold wrap64; omega
    have hr : rd_T82 x (j : Int) = ⟨m, m + 1⟩ := by
      have h := hi j (Nat.le_refl _) hlt
      rw [Int.sub_self, Int.mul_zero, Int.add_zero] at h
      unfold rd_T82
      rw [Int.toNat_natCast, List.getD_eq_getElem?_getD, h]
      rfl
    have e : m + 2 * ((d + 1 : Nat) : Int) = m + 2 + 2 * (d : Int) := by omega
    rw [e]
    refine Ev.step (f := fun k => laws_heldInt64A2S.l1 k x m (j : Int) 0) (fun k => ?_) (Ev.step (f := fun k => laws_heldInt64A2S.l1 k x (m + 1) (j : Int) 1) (fun k => ?_) (Ev.step (f := fun k => laws_heldInt64A2S.l1 k x (m + 2) (j : Int) 2) (fun k => ?_) (Ev.step (fun k => ?_) (ih (j + 1) x (m + 2) (by omega) hx (by omega) (by omega) (fun i h h' => by rw [hi i (by omega) h']; congr 2 <;> omega)))))
    · simp only [laws_heldInt64A2S.l0]
      rw [if_pos (by omega)]
    · simp only [laws_heldInt64A2S.l1, w1, wm, hr]
      rw [if_pos (by decide), if_pos (by omega), if_pos (by omega), if_pos (by decide), if_pos trivial, if_pos trivial]
    · simp only [laws_heldInt64A2S.l1, w2, wn, hr]
      rw [if_pos (by decide), if_pos (by omega), if_pos (by omega), if_pos (by decide), if_neg (by decide), if_pos trivial, if_pos trivial]
    · simp only [laws_heldInt64A2S.l1, hw]
      rw [if_neg (by decide)]
/-- A row of pairs is marked, and holds the marks. -/
theorem markA2 (x : List S82) (hx : x.length ≤ 1048576) : ∃ m x', Ev (fun k => laws_markInt64A2S.f k x 1) (m, x') ∧ 0 ≤ m ∧ Ev (fun k => laws_heldInt64A2S.f k x' 1) m := by
  obtain ⟨x', h1, h2, h3, h4⟩ := markA2_loop x.length 0 x 1 (by omega) (by omega) (by omega) (by omega)
  refine ⟨1 + 2 * x.length, x', h1, by omega, ?_⟩
  have := heldA2_loop x.length 0 x' 1 (by omega) (by omega) (by omega) (by omega) (fun i h h' => h4 i h (by omega))
  exact this

theorem Ev.same_from {α : Type} {f g : Nat → Option α} {r : α} (K : Nat) (h : ∀ k, K ≤ k → f k = g k) (hg : Ev g r) : Ev f r := by
  obtain ⟨K2, h2⟩ := hg
  exact ⟨max K K2, fun k hk => by rw [h k (Nat.le_trans (Nat.le_max_left _ _) hk)]; exact h2 k (Nat.le_trans (Nat.le_max_right _ _) hk)⟩
theorem n_bd12 {l : List S103} (ht : Tides l) {m : Int} {i : Nat} (h : Seg l m i) : 0 ≤ nOf l m i ∧ nOf l m i ≤ 12 * (M l (i + 1) - M l i) := by
  refine ⟨(n_bd ht h).1, ?_⟩
  have h6 := (step_up ht h.1).1
  have hr := r_bd ht (m := m) h.1
  have hk := k_le ht h
  unfold nOf
  by_cases e : kOf l m i = 6
  · rw [e, sm_six, tw_six, Int.zero_mul, Int.add_zero]
    exact Int.le_refl _
  · have hs := sm_bd (k := kOf l m i + 1) (by omega)
    have hw := tw_bd (kOf l m i)
    have e1 : sm (kOf l m i + 1) = sm (kOf l m i) + tw (kOf l m i) := rfl
    have p1 := Int.mul_le_mul_of_nonneg_left (Int.le_of_lt hr.2) hw.1
    have p2 := Int.mul_le_mul_of_nonneg_right hs.2 (show 0 ≤ M l (i + 1) - M l i by omega)
    rw [e1, Int.add_mul] at p2
    omega
theorem hgt_pos {l : List S103} (ht : Tides l) {m : Int} {i : Nat} (h : Seg l m i) : 0 ≤ hgt l m i := by
  have h6 := (step_up ht h.1).1
  have va := V_bd ht (i := i) (by have := h.1; omega)
  have vb := V_bd ht h.1
  have hn := n_bd12 ht h
  unfold hgt
  by_cases c : V l i ≤ V l (i + 1)
  · have := Int.ediv_nonneg (Int.mul_nonneg (show 0 ≤ V l (i + 1) - V l i by omega) hn.1) (show 0 ≤ 12 * (M l (i + 1) - M l i) by omega)
    omega
  · have p := Int.mul_le_mul_of_nonpos_left (show V l (i + 1) - V l i ≤ 0 by omega) hn.2
    have := Int.le_ediv_of_mul_le (show 0 < 12 * (M l (i + 1) - M l i) by omega) p
    omega
theorem at_pos {l : List S103} (ht : Tides l) {m : Int} (h : InT l m) : ∃ q : Int, Ev (fun g => spec_l02Height.f g l m) q ∧ Ev (fun g => impl_height.f g l m) q ∧ 0 ≤ q ∧ q ≤ 5000000 := by
  obtain ⟨i, hs⟩ := seg_some ht h.1 h.2
  have := hgt_bd ht hs
  exact ⟨hgt l m i, spec_height l ht m i hs, impl_height_at l ht m i hs, hgt_pos ht hs, this.2⟩
theorem rd82_last (o : List S82) (x : S82) : rd_T82 (o ++ [x]) (o.length : Int) = x := by
  rw [rd82 (by simp)]; simp
theorem set82_last (o : List S82) (x y : S82) : (o ++ [x]).set o.length y = o ++ [y] := by
  rw [List.set_append_right _ _ (Nat.le_refl _)]; simp
/-- What both programs hold at minute m: the windows, and whether the last one is open. -/
def WinI (out : List S82) (fl : Bool) (m : Int) : Prop := (out = [] ∧ fl = false) ∨ ∃ (o : List S82) (p q : Int), out = o ++ [(⟨p, q⟩ : S82)] ∧ q ≤ m - 1 ∧ fl = decide (q = m - 1)
theorem win_loop (P : Int → Bool) (need : Int) (l : List S103) (ht : Tides l) (hP : ∀ h : Int, 0 ≤ h → h ≤ 5000000 → (P h = true ↔ need ≤ h)) (n : Nat) : ∀ (m : Int) (out : List S82) (fl : Bool), M l 0 ≤ m → M l (l.length - 1) + 1 = m + n → out.length + n ≤ 100000 → WinI out fl m →
    ∃ r : List S82, r.length ≤ 100000 ∧ Ev (fun k => spec_l02Windows.l0 k l need out fl m) r ∧ Ev (fun k => impl_windows.l0 (fun h => some (P h)) k l out (M l (l.length - 1)) m) r := by
  have hl := ht.1
  have hb := M_bd ht (i := l.length - 1) (by omega)
  have hb0 := M_bd ht (i := 0) (by omega)
  induction n with
  | zero =>
    intro m out fl h0 hm hc hi
    refine ⟨out, by omega, Ev.step (f := fun _ => some out) (fun k => ?_) (Ev.now _), Ev.step (f := fun _ => some out) (fun k => ?_) (Ev.now _)⟩
    · simp only [spec_l02Windows.l0, last_some l ht, Option.bind_some]
      rw [if_neg (by omega)]
    · simp only [impl_windows.l0]
      rw [if_neg (by omega)]
  | succ n ih =>
    intro m out fl h0 hm hc hi
    obtain ⟨h, a1, a2, a3, a4⟩ := at_pos ht (m := m) ⟨h0, by omega⟩
    have hw1 : wrap64 (m + 1) = m + 1 := w64 (by omega)
    have hwm : wrap64 (m - 1) = m - 1 := w64 (by omega)
    have hp := hP h a3 a4
    have lim1 : out.length < 8796093022208 := by omega
    by_cases c : need ≤ h
    · have hpt : P h = true := hp.2 c
      have key : ∀ out2 : List S82, out2.length ≤ out.length + 1 → WinI out2 true (m + 1) → 
          (∀ k, (impl_windows.l0 (fun h => some (P h)) (k + 1) l out (M l (l.length - 1)) m) = ((impl_height.f k l m).bind fun t => (if P t = true then impl_windows.l0 (fun h => some (P h)) k l out2 (M l (l.length - 1)) (m + 1) else impl_windows.l0 (fun h => some (P h)) k l out (M l (l.length - 1)) (m + 1)))) →
          (∀ k, (spec_l02Windows.l0 (k + 1) l need out fl m) = ((spec_l02Height.f k l m).bind fun t => (if t < need then spec_l02Windows.l0 k l need out false (m + 1) else spec_l02Windows.l0 k l need out2 true (m + 1)))) →
          ∃ r : List S82, r.length ≤ 100000 ∧ Ev (fun k => spec_l02Windows.l0 k l need out fl m) r ∧ Ev (fun k => impl_windows.l0 (fun h => some (P h)) k l out (M l (l.length - 1)) m) r := by
        intro out2 h2 hi2 e1 e2
        obtain ⟨r, r0, r1, r2⟩ := ih (m + 1) out2 true (by omega) (by omega) (by omega) hi2
        refine ⟨r, r0, Ev.step e2 (Ev.bind a1 ?_), Ev.step e1 (Ev.bind a2 ?_)⟩
        · simp only [if_neg (show ¬ h < need by omega)]; exact r1
        · simp only [if_pos hpt]; exact r2
      rcases hi with ⟨rfl, rfl⟩ | ⟨o, p, q, rfl, hq, rfl⟩
      · refine key [(⟨m, m⟩ : S82)] (by simp) (.inr ⟨[], m, m, rfl, by omega, by rw [decide_eq_true (by omega)]⟩) (fun k => ?_) (fun k => ?_)
        · simp only [impl_windows.l0, if_pos (show m ≤ M l (l.length - 1) by omega), hw1, Option.bind_some, List.length_nil, List.nil_append]
          rfl
        · have e : wrap64 (((([⟨m, m⟩] : List S82).length : Nat) : Int) - 1) = 0 := by
            rw [show ((([(⟨m, m⟩ : S82)] : List S82).length : Nat) : Int) - 1 = 0 from by simp]
            exact w64 (by omega)
          simp only [spec_l02Windows.l0, last_some l ht, Option.bind_some, if_pos (show m ≤ M l (l.length - 1) by omega), hw1, List.nil_append, Bool.false_eq_true, if_false, e, if_pos lim1]
          rfl
      · have hlen : (o ++ [(⟨p, q⟩ : S82)]).length = o.length + 1 := by simp
        have e0 : wrap64 (((o ++ [(⟨p, q⟩ : S82)]).length : Int) - 1) = (o.length : Int) := by rw [hlen, w64 (by omega)]; omega
        have e1 := rd82_last o ⟨p, q⟩
        have e2 := fun y => set82_last o ⟨p, q⟩ y
        by_cases c2 : q = m - 1
        · refine key (o ++ [(⟨p, m⟩ : S82)]) (by simp) (.inr ⟨o, p, m, rfl, by omega, by rw [decide_eq_true (by omega)]⟩) (fun k => ?_) (fun k => ?_)
          · simp only [impl_windows.l0, if_pos (show m ≤ M l (l.length - 1) by omega), hw1, hwm, Option.bind_some, e0, e1, Int.toNat_natCast, e2, if_pos c2]
            rw [if_pos (show ((o ++ [(⟨p, q⟩ : S82)]).length : Int) > 0 by omega), if_pos (show (0 : Int) ≤ o.length by omega), if_pos (show (o.length : Int) < ((o ++ [(⟨p, q⟩ : S82)]).length : Int) by omega)]
          · simp only [spec_l02Windows.l0, last_some l ht, Option.bind_some, if_pos (show m ≤ M l (l.length - 1) by omega), hw1, decide_eq_true c2, if_true, e0, e1, Int.toNat_natCast, e2]
            rw [if_pos (show (0 : Int) ≤ o.length by omega), if_pos (show (o.length : Int) < ((o ++ [(⟨p, q⟩ : S82)]).length : Int) by omega)]
        · have hlen2 : ((o ++ [(⟨p, q⟩ : S82)]) ++ [(⟨m, m⟩ : S82)]).length = (o ++ [(⟨p, q⟩ : S82)]).length + 1 := by simp
          have f0 : wrap64 ((((o ++ [(⟨p, q⟩ : S82)]) ++ [(⟨m, m⟩ : S82)]).length : Int) - 1) = ((o ++ [(⟨p, q⟩ : S82)]).length : Int) := by rw [hlen2, w64 (by omega)]; omega
          have f1 := rd82_last (o ++ [(⟨p, q⟩ : S82)]) ⟨m, m⟩
          have f2 := fun y => set82_last (o ++ [(⟨p, q⟩ : S82)]) ⟨m, m⟩ y
          refine key ((o ++ [(⟨p, q⟩ : S82)]) ++ [(⟨m, m⟩ : S82)]) (by simp) (.inr ⟨_, m, m, rfl, by omega, by rw [decide_eq_true (by omega)]⟩) (fun k => ?_) (fun k => ?_)
          · simp only [impl_windows.l0, if_pos (show m ≤ M l (l.length - 1) by omega), hw1, hwm, Option.bind_some, e0, e1, if_neg c2, if_pos lim1]
            rw [if_pos (show ((o ++ [(⟨p, q⟩ : S82)]).length : Int) > 0 by omega), if_pos (show (0 : Int) ≤ o.length by omega), if_pos (show (o.length : Int) < ((o ++ [(⟨p, q⟩ : S82)]).length : Int) by omega)]
          · simp only [spec_l02Windows.l0, last_some l ht, Option.bind_some, if_pos (show m ≤ M l (l.length - 1) by omega), hw1, decide_eq_false c2, Bool.false_eq_true, if_false, f0, f1, Int.toNat_natCast, f2, if_pos lim1]
            rw [if_pos (show (0 : Int) ≤ ((o ++ [(⟨p, q⟩ : S82)]).length : Int) by omega), if_pos (show ((o ++ [(⟨p, q⟩ : S82)]).length : Int) < (((o ++ [(⟨p, q⟩ : S82)]) ++ [(⟨m, m⟩ : S82)]).length : Int) by omega)]
    · have hpf : ¬ P h = true := fun g => c (hp.1 g)
      obtain ⟨r, r0, r1, r2⟩ := ih (m + 1) out false (by omega) (by omega) (by omega) (by
        rcases hi with ⟨rfl, rfl⟩ | ⟨o, p, q, rfl, hq, rfl⟩
        · exact .inl ⟨rfl, rfl⟩
        · exact .inr ⟨o, p, q, rfl, by omega, by rw [decide_eq_false (by omega)]⟩)
      refine ⟨r, r0, Ev.step (f := fun k => (spec_l02Height.f k l m).bind fun t => (if t < need then spec_l02Windows.l0 k l need out false (m + 1) else (if fl = true then (if 0 ≤ (wrap64 ((out.length : Int) - 1)) then (if (wrap64 ((out.length : Int) - 1)) < (out.length : Int) then (spec_l02Windows.l0 k l need (out.set ((wrap64 ((out.length : Int) - 1)) : Int).toNat (⟨(rd_T82 out (wrap64 ((out.length : Int) - 1))).f0, m⟩ : S82)) fl (wrap64 (m + 1))) else (none)) else (none)) else (if out.length < 8796093022208 then ((some (out ++ [(⟨m, m⟩ : S82)] : List (S82))).bind fun y238 => (if 0 ≤ (wrap64 ((y238.length : Int) - 1)) then (if (wrap64 ((y238.length : Int) - 1)) < (y238.length : Int) then (spec_l02Windows.l0 k l need (y238.set ((wrap64 ((y238.length : Int) - 1)) : Int).toNat (⟨(rd_T82 y238 (wrap64 ((y238.length : Int) - 1))).f0, m⟩ : S82)) true (wrap64 (m + 1))) else (none)) else (none))) else (none))))) (fun k => ?_) (Ev.bind a1 ?_), Ev.step (f := fun k => (impl_height.f k l m).bind fun t => ((fun h => some (P h)) t : Option Bool).bind fun b => (if b = true then (if (out.length : Int) > 0 then (if 0 ≤ (wrap64 ((out.length : Int) - 1)) then (if (wrap64 ((out.length : Int) - 1)) < (out.length : Int) then (if ((rd_T82 out (wrap64 ((out.length : Int) - 1))).f1) = (wrap64 (m - 1)) then (impl_windows.l0 (fun h => some (P h)) k l (out.set ((wrap64 ((out.length : Int) - 1)) : Int).toNat (⟨(rd_T82 out (wrap64 ((out.length : Int) - 1))).f0, m⟩ : S82)) (M l (l.length - 1)) (wrap64 (m + 1))) else (if out.length < 8796093022208 then (impl_windows.l0 (fun h => some (P h)) k l (out ++ [(⟨m, m⟩ : S82)]) (M l (l.length - 1)) (wrap64 (m + 1))) else (none))) else (none)) else (none)) else (if out.length < 8796093022208 then (impl_windows.l0 (fun h => some (P h)) k l (out ++ [(⟨m, m⟩ : S82)]) (M l (l.length - 1)) (wrap64 (m + 1))) else (none))) else (impl_windows.l0 (fun h => some (P h)) k l out (M l (l.length - 1)) (wrap64 (m + 1))))) (fun k => ?_) (Ev.bind a2 ?_)⟩
      · simp only [spec_l02Windows.l0, last_some l ht, Option.bind_some]
        rw [if_pos (by omega), hw1]
      · simp only [if_pos (show h < need by omega)]; exact r1
      · simp only [impl_windows.l0]
        rw [if_pos (by omega)]
      · simp only [Option.bind_some, if_neg hpf, hw1]; exact r2
theorem both_windows (P : Int → Bool) (need : Int) (l : List S103) (ht : Tides l) (hP : ∀ h : Int, 0 ≤ h → h ≤ 5000000 → (P h = true ↔ need ≤ h)) :
    ∃ r : List S82, r.length ≤ 100000 ∧ Ev (fun k => spec_l02Windows.f k l need) r ∧ Ev (fun k => impl_windows.f (fun h => some (P h)) k l) r := by
  have hl := ht.1
  have b0 := M_bd ht (i := 0) (by omega)
  have b1 := M_bd ht (i := l.length - 1) (by omega)
  have b2 := M_le ht (i := 0) (j := l.length - 1) (by omega) (by omega)
  obtain ⟨r, r0, r1, r2⟩ := win_loop P need l ht hP (M l (l.length - 1) + 1 - M l 0).toNat (M l 0) [] false (by omega) (by omega) (by simp; omega) (.inl ⟨rfl, rfl⟩)
  refine ⟨r, r0, ?_, ?_⟩
  · unfold spec_l02Windows.f
    rw [first_some l ht]
    exact r1
  · unfold impl_windows.f
    rw [span_some l ht]
    exact r2

def allA (d : Nat → Int) (l : List S38) (h : Int) : Bool := l.all fun t => decide (wrap64 (dep d t.f0.f0 t.f0.f1 + h) ≥ wrap64 t.f3)
theorem impl_afloat_any {a b : Int} {d : Nat → Int} (hf : FitB a b d) {x y : Int} (hx : 0 ≤ x ∧ x < 16) (hy : 0 ≤ y ∧ y < 16) (c l w q h : Int) :
    impl_afloat.f a b d x y c l w q h = some (decide (wrap64 (dep d x y + h) ≥ wrap64 w)) := by
  unfold impl_afloat.f
  rw [impl_depth_at hf hx hy]
  rfl
theorem clo_loop {a b : Int} {d : Nat → Int} (hf : FitB a b d) (ho : BayIn.okBay a b d) {l : List S38} (hl : l.length ≤ 10) (hb : ∀ t ∈ l, OkB a b d t) (h : Int) (n : Nat) : ∀ (j k : Nat), l.length = j + n → n < k →
    impl_AllAfloat_1.l0 k h l (l.length : Int) (j : Int) a b d = some (allA d (l.drop j) h) := by
  induction n with
  | zero =>
    intro j k hj hk
    obtain ⟨k, rfl⟩ : ∃ q, k = q + 1 := ⟨k - 1, by omega⟩
    simp only [impl_AllAfloat_1.l0]
    rw [if_neg (by omega), List.drop_of_length_le (by omega)]
    rfl
  | succ n ih =>
    intro j k hj hk
    obtain ⟨k, rfl⟩ : ∃ q, k = q + 1 := ⟨k - 1, by omega⟩
    have hlt : j < l.length := by omega
    have i1 : InB (rd_T38 l (j : Int)) := inB_all ho hb hlt
    have e : allA d (l.drop j) h = (decide (wrap64 (dep d (rd_T38 l (j : Int)).f0.f0 (rd_T38 l (j : Int)).f0.f1 + h) ≥ wrap64 (rd_T38 l (j : Int)).f3) && allA d (l.drop (j + 1)) h) := by
      rw [List.drop_eq_getElem_cons hlt]
      have : rd_T38 l (j : Int) = l[j] := by
        unfold rd_T38
        rw [Int.toNat_natCast, List.getD_eq_getElem?_getD, List.getElem?_eq_getElem hlt]
        rfl
      rw [this]
      simp only [allA, List.all_cons]
    simp only [impl_AllAfloat_1.l0]
    rw [if_pos (by omega), if_pos (by omega), if_pos (by omega), impl_afloat_any hf i1.1.1 i1.1.2, Option.bind_some, w64n hlt (by omega), e]
    by_cases c : wrap64 (dep d (rd_T38 l (j : Int)).f0.f0 (rd_T38 l (j : Int)).f0.f1 + h) ≥ wrap64 (rd_T38 l (j : Int)).f3
    · rw [decide_eq_true c, if_pos rfl, ih (j + 1) k (by omega) (by omega), Bool.true_and]
    · rw [decide_eq_false c, if_neg (by decide), Bool.false_and]
theorem need_loop {a b : Int} {d : Nat → Int} (hf : FitB a b d) (ho : BayIn.okBay a b d) {l : List S38} (hl : l.length ≤ 10) (hb : ∀ t ∈ l, OkB a b d t) (lw : List S103) (n : Nat) : ∀ (j : Nat) (need : Int), l.length = j + n → 0 ≤ need → need ≤ 1000 →
    ∃ v : Int, (∀ h : Int, 0 ≤ h → h ≤ 5000000 → ((decide (need ≤ h) && allA d (l.drop j) h) = true ↔ v ≤ h)) ∧ ∀ w : List S82, Ev (fun k => spec_l02Windows.f k lw v) w → Ev (fun k => spec_AllAfloat.l0 k l lw need (j : Int) a b d) (w, 0) := by
  induction n with
  | zero =>
    intro j need hj h0 h1
    refine ⟨need, fun h _ _ => ?_, fun w hw => Ev.step (f := fun k => (spec_l02Windows.f k lw need).bind fun t257 => some (t257, 0)) (fun k => ?_) (Ev.bind hw (Ev.now _))⟩
    · rw [List.drop_of_length_le (by omega)]
      simp [allA]
    · simp only [spec_AllAfloat.l0]
      rw [if_neg (by omega)]
  | succ n ih =>
    intro j need hj h0 h1
    have hlt : j < l.length := by omega
    have i1 : InB (rd_T38 l (j : Int)) := inB_all ho hb hlt
    have hd := dep_bd hf i1.1.1 i1.1.2
    have hw := i1.2.2.2
    have e : ∀ h : Int, 0 ≤ h → h ≤ 5000000 → allA d (l.drop j) h = (decide ((rd_T38 l (j : Int)).f3 - dep d (rd_T38 l (j : Int)).f0.f0 (rd_T38 l (j : Int)).f0.f1 ≤ h) && allA d (l.drop (j + 1)) h) := by
      intro h g0 g1
      rw [List.drop_eq_getElem_cons hlt]
      have er : rd_T38 l (j : Int) = l[j] := by
        unfold rd_T38
        rw [Int.toNat_natCast, List.getD_eq_getElem?_getD, List.getElem?_eq_getElem hlt]
        rfl
      rw [er] at hd hw ⊢
      simp only [allA, List.all_cons]
      congr 1
      rw [w64 (by omega), w64 (by omega)]
      exact decide_eq_decide.2 (by omega)
    have ws : wrap64 ((wrap64 (rd_T38 l (j : Int)).f3) - dep d (rd_T38 l (j : Int)).f0.f0 (rd_T38 l (j : Int)).f0.f1) = (rd_T38 l (j : Int)).f3 - dep d (rd_T38 l (j : Int)).f0.f0 (rd_T38 l (j : Int)).f0.f1 := by
      rw [w64 (n := (rd_T38 l (j : Int)).f3) (by omega), w64 (by omega)]
    have st : ∀ k, spec_AllAfloat.l0 (k + 1) l lw need (j : Int) a b d = spec_AllAfloat.l0 k l lw (if need > (rd_T38 l (j : Int)).f3 - dep d (rd_T38 l (j : Int)).f0.f0 (rd_T38 l (j : Int)).f0.f1 then need else (rd_T38 l (j : Int)).f3 - dep d (rd_T38 l (j : Int)).f0.f0 (rd_T38 l (j : Int)).f0.f1) ((j + 1 : Nat) : Int) a b d := by
      intro k
      simp only [spec_AllAfloat.l0]
      rw [if_pos (by omega), if_pos (by omega), spec_depth hf i1.1.1 i1.1.2, Option.bind_some]
      simp only [ws, spec_l00Max.f, w64n hlt (show l.length ≤ 9223372036854775807 by omega)]
      by_cases c : need > (rd_T38 l (j : Int)).f3 - dep d (rd_T38 l (j : Int)).f0.f0 (rd_T38 l (j : Int)).f0.f1
      · simp only [if_pos c, Option.bind_some]
      · simp only [if_neg c, Option.bind_some]
    by_cases c : need > (rd_T38 l (j : Int)).f3 - dep d (rd_T38 l (j : Int)).f0.f0 (rd_T38 l (j : Int)).f0.f1
    · obtain ⟨v, v1, v2⟩ := ih (j + 1) need (by omega) h0 h1
      refine ⟨v, fun h g0 g1 => ?_, fun w hw => Ev.step (fun k => by rw [st k, if_pos c]) (v2 w hw)⟩
      rw [← v1 h g0 g1, e h g0 g1]
      simp only [Bool.and_eq_true, decide_eq_true_eq]
      constructor
      · exact fun g => ⟨g.1, g.2.2⟩
      · exact fun g => ⟨g.1, by have := g.1; omega, g.2⟩
    · obtain ⟨v, v1, v2⟩ := ih (j + 1) ((rd_T38 l (j : Int)).f3 - dep d (rd_T38 l (j : Int)).f0.f0 (rd_T38 l (j : Int)).f0.f1) (by omega) (by omega) (by omega)
      refine ⟨v, fun h g0 g1 => ?_, fun w hw => Ev.step (fun k => by rw [st k, if_neg c]) (v2 w hw)⟩
      rw [← v1 h g0 g1, e h g0 g1]
      simp only [Bool.and_eq_true, decide_eq_true_eq]
      constructor
      · exact fun g => g.2
      · exact fun g => ⟨by have := g.1; omega, g⟩
theorem both_all {a b : Int} {d : Nat → Int} (hf : FitB a b d) (lb : List S38) (hl : lb.length ≤ 9223372036854775807) (hfs : ∀ t ∈ lb, FitS t) (lw : List S103) (hfl : Fits lw) (hlw : lw.length ≤ 1048576) :
    ∃ (r : List S82) (v : Int), r.length ≤ 100000 ∧ Ev (fun k => spec_AllAfloat.f k a b d lb lw) (r, v) ∧ Ev (fun k => impl_AllAfloat.f k a b d lb lw) (r, v) := by
  obtain ⟨tc, e2, e2', e3⟩ := tidesB lw hfl hlw
  have s := spec_boats hf lb hl hfs lw e2 true
  have i := impl_floats hf lb hl lw e2' [] (v := 0) (fun hc => ?_) (fine := true) (fun _ => rfl)
  · unfold spec_AllAfloat.f impl_AllAfloat.f
    by_cases c0 : codeF (codeL a b d lb) tc true = 0
    · obtain ⟨q0, q1, q2⟩ := codeF_ok c0
      obtain ⟨ho, hk, hn⟩ := codeL_ok q0
      have ht := e3 q1
      obtain ⟨v, v1, v2⟩ := need_loop hf ho hn hk lw lb.length 0 0 (by omega) (by omega) (by omega)
      obtain ⟨r, r0, r1, r2⟩ := both_windows (allA d lb) v lw ht (fun h g0 g1 => by
        rw [← v1 h g0 g1, decide_eq_true g0, Bool.true_and, List.drop_zero])
      refine ⟨r, codeF (codeL a b d lb) tc true, r0, Ev.bind s ?_, Ev.bind i ?_⟩
      · simp only [if_pos c0]; rw [c0]; exact v2 r r1
      · simp only [if_pos c0]; rw [c0]
        refine Ev.bind (Ev.same_from (g := fun k => impl_windows.f (fun h => some (allA d lb h)) k lw) 11 (fun k hk' => ?_) r2) (Ev.now _)
        have : (fun h_ => impl_AllAfloat_1.f k h_ lb a b d) = fun h => some (allA d lb h) := by
          funext h
          exact clo_loop hf ho hn hk h lb.length 0 k (by omega) (by omega)
        rw [this]
    · refine ⟨[], codeF (codeL a b d lb) tc true, by simp, Ev.bind s ?_, Ev.bind i ?_⟩
      · simp only [if_neg c0]; exact Ev.now _
      · simp only [if_neg c0]; exact Ev.now _
  · have hc2 := impl_code2 lw true (by rw [hc] at e2'; exact e2') (fun _ => e3 hc) [] [] 0 (fun _ => ⟨2, fun k hk => by
      obtain ⟨k, rfl⟩ : ∃ q, k = q + 2 := ⟨k - 2, by omega⟩
      simp [impl_tidesCode.l0, impl_tidesCode.l1]⟩)
    simpa using hc2

def FnExactAllAfloatPure : Prop := ∀ (a0_0 a0_1 : Int) (a0_2 : Nat → Int) (l1 : List S34) (l2 : List S145), (Lit.int .i8 a0_0).wf = true → (Lit.int .i8 a0_1).wf = true → (∀ i, i < 256 → (Lit.int .i8 (a0_2 i)).wf = true) → l1.length ≤ 9223372036854775807 → (∀ x ∈ l1, (Lit.int .i8 x.f0.f0).wf = true ∧ (Lit.int .i8 x.f0.f1).wf = true ∧ (Lit.int .i8 x.f1).wf = true ∧ (Lit.int .i8 x.f2).wf = true ∧ (Lit.int .i8 x.f3).wf = true ∧ (Lit.int .i8 x.f4).wf = true) → l2.length ≤ 9223372036854775807 → (∀ x ∈ l2, (Lit.int .i16 x.f0).wf = true ∧ (Lit.int .i8 x.f1).wf = true) → ∃ k, laws_FnExactAllAfloat.f k a0_0 a0_1 a0_2 l1 l2 = some true
theorem FnExactAllAfloat : FnExactAllAfloatPure := by
  intro a b d l lw ha hb hd hl hw hlw hfw
  refine Ev.rounds ?_
  have hf := fitB ha hb hd
  have hsz := szBoat l hl 1048576 (by omega) (by omega)
  by_cases hlen : (1048576 : Int) < l.length
  · refine Ev.congr (f := fun _ => some true) (fun k => ?_) (Ev.now _)
    unfold laws_FnExactAllAfloat.f
    rw [hsz, if_pos hlen]
    rfl
  · have hl2 : l.length ≤ 1048576 := by omega
    have hsz2 := szWater lw hlw (1048576 - l.length) (by omega) (by omega)
    by_cases hlen2 : (1048576 : Int) - l.length < lw.length
    · refine Ev.congr (f := fun _ => some true) (fun k => ?_) (Ev.now _)
      unfold laws_FnExactAllAfloat.f
      rw [hsz, if_neg hlen]
      simp only [Option.bind_some]
      rw [if_neg (show ¬ ((1048576 : Int) - l.length < 0) from by omega), hsz2, if_pos hlen2]
      rfl
    · have hlw2 : lw.length ≤ 1048576 := by omega
      have hl3 : (l.map convBoat).length ≤ 1048576 := by rw [List.length_map]; exact hl2
      have hlw3 : (lw.map convWater).length ≤ 1048576 := by rw [List.length_map]; exact hlw2
      have ht := toBoat l hl2
      have htw := toWater lw hlw2
      have el := eqBoat (l.map convBoat) (by omega)
      have ew := eqWater (lw.map convWater) (by omega)
      have hqq : ∀ q : Int, (q != q) = false := fun q => by simp
      obtain ⟨r, v, hr, hs, hi⟩ := both_all hf (l.map convBoat) (by omega) (fits_boats l hw) (lw.map convWater) (fits_conv lw hfw) hlw3
      obtain ⟨x1, e1, _⟩ := markBoat_loop (l.map convBoat).length 0 (l.map convBoat) 1 (by omega) (by omega) (by omega) (by omega)
      obtain ⟨x3, e3, _⟩ := markWater_loop (lw.map convWater).length 0 (lw.map convWater) (1 + 6 * (l.map convBoat).length) (by omega) (by omega) (by omega) (by omega)
      have e1' : Ev (fun k => laws_markBoatS.f k (l.map convBoat) 1) (1 + 6 * (l.map convBoat).length, x1) := ⟨(l.map convBoat).length + 1, fun k hk => e1 k (by omega)⟩
      have e3' : Ev (fun k => laws_markWaterS.f k (lw.map convWater) (1 + 6 * (l.map convBoat).length)) (1 + 6 * (l.map convBoat).length + 2 * (lw.map convWater).length, x3) := ⟨(lw.map convWater).length + 1, fun k hk => e3 k (by omega)⟩
      obtain ⟨m2, x2, e2, p2, o2⟩ := markA2 r (by omega)
      have er := eqA2S r (by omega)
      simp only [laws_FnExactAllAfloat.f, hsz, if_neg hlen, Option.bind_some, if_neg (show ¬ ((1048576 : Int) - l.length < 0) from by omega), hsz2, if_neg hlen2, if_neg (show ¬ ((1048576 : Int) - l.length - lw.length < 0) from by omega), laws_toBay.f]
      refine Ev.bind ht (Ev.bind htw (Ev.bind hs (Ev.bind ht (Ev.bind htw (Ev.bind hi (Ev.bind er ?_))))))
      simp only [if_true, hqq]
      refine Ev.step (fun k => by simp only [laws_FnExactAllAfloat.j0, Bool.false_eq_true, if_false]; rfl) (Ev.bind ht (Ev.bind el ?_))
      simp only [if_true]
      refine Ev.bind htw (Ev.bind ew ?_)
      simp only [if_true]
      refine Ev.bind e1' (Ev.bind e3' ?_)
      simp only [if_neg (show ¬ (1 + 6 * ((l.map convBoat).length : Int) + 2 * ((lw.map convWater).length : Int) < 0) from by omega)]
      refine Ev.bind er ?_
      simp only [if_true, hqq]
      refine Ev.step (fun k => by simp only [laws_FnExactAllAfloat.j1, Bool.false_eq_true, if_false]; rfl) (Ev.bind e2 (Ev.bind o2 ?_))
      simp only [if_neg (show ¬ m2 < 0 from by omega), if_true, laws_toBay.f, Option.bind_some]
      refine Ev.bind ht (Ev.bind htw (Ev.bind hi (Ev.bind er ?_)))
      simp only [if_true, hqq]
      refine Ev.step (fun k => by simp only [laws_FnExactAllAfloat.j2, Bool.false_eq_true, if_false]; rfl) (Ev.bind o2 ?_)
      simp only [if_neg (show ¬ m2 < 0 from by omega), if_true]
      exact Ev.now _

end Go.Proofs.Ytcollbifdfhfoaa.Pure
