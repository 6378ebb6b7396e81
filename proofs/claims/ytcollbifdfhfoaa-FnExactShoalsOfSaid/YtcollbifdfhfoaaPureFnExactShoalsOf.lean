/- ShoalsOf of the program returns what the reference's returns, for all bays and boats. Conditions: none. -/
import Derived.Test.YtcollbifdfhfoaaPFnExactShoalsOfx7
namespace Go.Proofs.Ytcollbifdfhfoaa.Pure
open Go.RowKit Go.Proofs.Ytcollbifdfhfoaa.PFnExactShoalsOf Go.Proofs.YtcollbifdfhfoaaW.PrintWords Go.Proofs.YtcollbifdfhfoaaW.PrintLast
set_option linter.unusedVariables false
set_option linter.unusedSimpArgs false

theorem i8_of {n : Int} (h : (Lit.int .i8 n).wf = true) : -128 ≤ n ∧ n ≤ 127 := by
  simp [Lit.wf, IntKind.min, IntKind.max, IntKind.signed, IntKind.bits] at h
  omega
/-- What is known of a bay that came in. -/
def FitB (a b : Int) (d : Nat → Int) : Prop := (-128 ≤ a ∧ a ≤ 127) ∧ (-128 ≤ b ∧ b ≤ 127) ∧ ∀ i, i < 256 → -128 ≤ d i ∧ d i ≤ 127
theorem fitB {a b : Int} {d : Nat → Int} (ha : (Lit.int .i8 a).wf = true) (hb : (Lit.int .i8 b).wf = true) (hd : ∀ i, i < 256 → (Lit.int .i8 (d i)).wf = true) : FitB a b d := ⟨i8_of ha, i8_of hb, fun i hi => i8_of (hd i hi)⟩
theorem i8w (n : Int) (h : 0 ≤ n) (h2 : n ≤ 127) : IntKind.i8.wrap n = n := Bay.i8_wrap_le n h h2
/-- It answers whether P holds, and hands the bay back. -/
def EvR (a b : Int) (d : Nat → Int) (f : Nat → Option (Bool × Int × Int × (Nat → Int))) (P : Prop) : Prop := ∃ r : Bool, Ev f (r, a, b, d) ∧ (r = true ↔ P)
theorem EvR.step {a b : Int} {d : Nat → Int} {f g : Nat → Option (Bool × Int × Int × (Nat → Int))} {P : Prop} (h : ∀ k, g (k + 1) = f k) (k : EvR a b d f P) : EvR a b d g P := by
  obtain ⟨r, h1, h2⟩ := k
  exact ⟨r, Ev.step h h1, h2⟩
theorem EvR.iff {a b : Int} {d : Nat → Int} {f : Nat → Option (Bool × Int × Int × (Nat → Int))} {P Q : Prop} (k : EvR a b d f P) (e : P ↔ Q) : EvR a b d f Q := by
  obtain ⟨r, h1, h2⟩ := k
  exact ⟨r, h1, h2.trans e⟩
theorem EvR.no {a b : Int} {d : Nat → Int} {P : Prop} (h : ¬ P) : EvR a b d (fun _ => some (false, a, b, d)) P := ⟨false, Ev.now _, by simp [h]⟩
theorem EvR.yes {a b : Int} {d : Nat → Int} {P : Prop} (h : P) : EvR a b d (fun _ => some (true, a, b, d)) P := ⟨true, Ev.now _, by simp [h]⟩
theorem in_some (a b c : Int) : spec_l00In.f a b c = some (decide (b ≤ a ∧ a ≤ c)) := by
  unfold spec_l00In.f
  by_cases h : a ≥ b
  · rw [if_pos h]; simp [h]
  · rw [if_neg h, decide_eq_false (fun q => h q.1)]
theorem w64 {n : Int} (h : -9223372036854775808 ≤ n ∧ n ≤ 9223372036854775807) : wrap64 n = n := by unfold wrap64; omega
theorem is_some {a b : Int} {d : Nat → Int} (hf : FitB a b d) (x y : Int) (hx : -128 ≤ x ∧ x ≤ 127) (hy : -128 ≤ y ∧ y ≤ 127) : spec_l01Is.f a b d x y = some (decide ((0 ≤ x ∧ x < a) ∧ (0 ≤ y ∧ y < b)), a, b, d) := by
  unfold spec_l01Is.f
  have := hf.1
  have := hf.2.1
  rw [w64 (n := x) (by omega), w64 (n := y) (by omega), w64 (n := a) (by omega), w64 (n := b) (by omega), w64 (n := a - 1) (by omega), w64 (n := b - 1) (by omega), in_some, in_some]
  simp only [Option.bind_some]
  by_cases h1 : 0 ≤ x ∧ x ≤ a - 1
  · rw [decide_eq_true h1, if_pos rfl]
    congr 2
    rw [decide_eq_decide]
    omega
  · rw [decide_eq_false h1, if_neg (by decide)]
    congr 2
    rw [eq_comm, decide_eq_false_iff_not]
    omega
theorem okD_cell {a b : Int} {d : Nat → Int} (hf : FitB a b d) (y x : Nat) (hy : y < 16) (hx : x < 16) {f : Nat → Option (Bool × Int × Int × (Nat → Int))} {P : Prop} (k : EvR a b d f P) :
    EvR a b d (fun g => (spec_l00In.f (wrap64 (d (16 * y + x))) 0 30).bind fun t => (if t = true then (if d (16 * y + x) = 0 then f g else ((spec_l01Is.f a b d x y).bind fun q => (if q.1 = true then f g else (some (false, q.2.1, q.2.2.1, q.2.2.2))))) else (some (false, a, b, d)))) (BayIn.okD a b y x (d (16 * y + x)) ∧ P) := by
  have hd := hf.2.2 (16 * y + x) (by omega)
  rw [w64 (by omega)]
  simp only [in_some, is_some hf x y (by omega) (by omega), Option.bind_some]
  unfold BayIn.okD
  by_cases h1 : 0 ≤ d (16 * y + x) ∧ d (16 * y + x) ≤ 30
  · simp only [decide_eq_true h1, if_true]
    by_cases h2 : d (16 * y + x) = 0
    · simp only [if_pos h2]
      exact k.iff ⟨fun h => ⟨⟨h1.1, h1.2, fun q => absurd h2 q⟩, h⟩, fun h => h.2⟩
    · simp only [if_neg h2]
      by_cases h3 : (0 ≤ (x : Int) ∧ (x : Int) < a) ∧ (0 ≤ (y : Int) ∧ (y : Int) < b)
      · simp only [decide_eq_true h3, if_true]
        exact k.iff ⟨fun h => ⟨⟨h1.1, h1.2, fun _ => ⟨h3.1.2, h3.2.2⟩⟩, h⟩, fun h => h.2⟩
      · simp only [decide_eq_false h3, Bool.false_eq_true, if_false]
        exact EvR.no (fun h => h3 (by have := h.1.2.2 h2; omega))
  · simp only [decide_eq_false h1, Bool.false_eq_true, if_false]
    exact EvR.no (fun h => h1 ⟨h.1.1, h.1.2.1⟩)
theorem bay_row {a b : Int} {d : Nat → Int} (hf : FitB a b d) (y : Nat) (hy : y < 16) {P : Prop} (k : EvR a b d (fun g => spec_l01Bay.l0 g ((y + 1 : Nat) : Int) a b d) P) (n : Nat) : ∀ x : Nat, 16 = x + n →
    EvR a b d (fun g => spec_l01Bay.l1 g (y : Int) (x : Int) a b d) ((∀ j, x ≤ j → j < 16 → BayIn.okD a b y j (d (16 * y + j))) ∧ P) := by
  induction n with
  | zero =>
    intro x hx
    refine (EvR.step (fun g => ?_) k).iff ⟨fun h => ⟨fun j h1 h2 => by omega, h⟩, fun h => h.2⟩
    simp only [spec_l01Bay.l1]
    rw [if_neg (by omega), i8w _ (by omega) (by omega)]
    rfl
  | succ n ih =>
    intro x hx
    refine (EvR.step (fun g => ?_) (okD_cell hf y x hy (by omega) (ih (x + 1) (by omega)))).iff ?_
    · simp only [spec_l01Bay.l1]
      rw [if_pos (by omega), if_pos (by omega), if_pos (by omega), if_pos (by omega), i8w _ (by omega) (by omega), Int.toNat_natCast, Int.toNat_natCast]
      rw [is_some hf x y (by omega) (by omega)]
      rfl
    · refine ⟨fun h => ⟨fun j h1 h2 => ?_, h.2.2⟩, fun h => ⟨h.1 x (Nat.le_refl _) (by omega), fun j h1 h2 => h.1 j (by omega) h2, h.2⟩⟩
      by_cases e : j = x
      · rw [e]; exact h.1
      · exact h.2.1 j (by omega) h2
theorem bay_rows {a b : Int} {d : Nat → Int} (hf : FitB a b d) (n : Nat) : ∀ y : Nat, 16 = y + n → EvR a b d (fun g => spec_l01Bay.l0 g (y : Int) a b d) (∀ j, y ≤ j → j < 16 → ∀ x, x < 16 → BayIn.okD a b j x (d (16 * j + x))) := by
  induction n with
  | zero =>
    intro y hy
    refine EvR.step (fun g => ?_) (EvR.yes (fun j h1 h2 => by omega))
    simp only [spec_l01Bay.l0]
    rw [if_neg (by omega)]
  | succ n ih =>
    intro y hy
    refine (EvR.step (fun g => ?_) (bay_row hf y (by omega) (ih (y + 1) (by omega)) 16 0 (by omega))).iff ?_
    · simp only [spec_l01Bay.l0]
      rw [if_pos (by omega)]
      rfl
    · refine ⟨fun h j h1 h2 x hx => ?_, fun h => ⟨fun x _ hx => h y (Nat.le_refl _) (by omega) x hx, fun j h1 h2 => h j (by omega) h2⟩⟩
      by_cases e : j = y
      · rw [e]; exact h.1 x (by omega) hx
      · exact h.2 j (by omega) h2 x hx
/-- The reference's word on a bay. -/
theorem spec_bay {a b : Int} {d : Nat → Int} (hf : FitB a b d) : EvR a b d (fun g => spec_l01Bay.f g a b d) (BayIn.okBay a b d) := by
  have h1 := hf.1
  have h2 := hf.2.1
  have e : ∀ g, spec_l01Bay.f g a b d = spec_l01Bay.j0 g (! decide ((1 ≤ a ∧ a ≤ 16) ∧ (1 ≤ b ∧ b ≤ 16))) a b d := by
    intro g
    unfold spec_l01Bay.f
    rw [w64 (n := a) (by omega), w64 (n := b) (by omega), in_some, in_some]
    simp only [Option.bind_some]
    by_cases c1 : 1 ≤ a ∧ a ≤ 16
    · by_cases c2 : 1 ≤ b ∧ b ≤ 16 <;> simp [c1, c2]
    · simp [c1]
  obtain ⟨r, k1, k2⟩ := bay_rows hf 16 0 (by omega)
  unfold BayIn.okBay
  by_cases c : (1 ≤ a ∧ a ≤ 16) ∧ (1 ≤ b ∧ b ≤ 16)
  · rw [decide_eq_true c] at e
    refine ⟨r, Ev.congr e (Ev.step (fun g => by simp only [spec_l01Bay.j0, Bool.not_true, Bool.false_eq_true, if_false]; rfl) k1), k2.trans ?_⟩
    exact ⟨fun h => ⟨c.1.1, c.1.2, c.2.1, c.2.2, fun y hy => h y (Nat.zero_le _) hy⟩, fun h j _ hj => h.2.2.2.2 j hj⟩
  · rw [decide_eq_false c] at e
    refine ⟨false, Ev.congr e (Ev.step (f := fun _ => some (false, a, b, d)) (fun g => by simp only [spec_l01Bay.j0, Bool.not_false, if_true]) (Ev.now _)), ?_⟩
    simp only [Bool.false_eq_true, false_iff]
    intro h
    exact c ⟨⟨h.1, h.2.1⟩, h.2.2.1, h.2.2.2.1⟩

def dep (d : Nat → Int) (x y : Int) : Int := d (16 * y.toNat + x.toNat)
def OkBoat (a b : Int) (d : Nat → Int) (x y c l w q : Int) : Prop := (0 ≤ x ∧ x < a) ∧ (0 ≤ y ∧ y < b) ∧ 0 < dep d x y ∧ (1 ≤ c ∧ c ≤ 60) ∧ (0 ≤ l ∧ l ≤ 5) ∧ (1 ≤ w ∧ w ≤ 30) ∧ (0 ≤ q ∧ q ≤ 9)
instance (a b : Int) (d : Nat → Int) (x y c l w q : Int) : Decidable (OkBoat a b d x y c l w q) := by unfold OkBoat; infer_instance
theorem dep_bd {a b : Int} {d : Nat → Int} (hf : FitB a b d) {x y : Int} (hx : 0 ≤ x ∧ x < 16) (hy : 0 ≤ y ∧ y < 16) : -128 ≤ dep d x y ∧ dep d x y ≤ 127 := hf.2.2 _ (by omega)
theorem dep_ok {a b : Int} {d : Nat → Int} (ho : BayIn.okBay a b d) {x y : Int} (hx : 0 ≤ x ∧ x < 16) (hy : 0 ≤ y ∧ y < 16) : 0 ≤ dep d x y ∧ dep d x y ≤ 30 := by
  have := ho.2.2.2.2 y.toNat (by omega) x.toNat (by omega)
  exact ⟨this.1, this.2.1⟩
theorem spec_depth {a b : Int} {d : Nat → Int} (hf : FitB a b d) {x y : Int} (hx : 0 ≤ x ∧ x < 16) (hy : 0 ≤ y ∧ y < 16) : spec_l01Depth.f a b d x y = some (dep d x y, a, b, d) := by
  have := dep_bd hf hx hy
  unfold spec_l01Depth.f
  rw [if_pos hy.1, if_pos hy.2, if_pos hx.1, if_pos hx.2, w64 (n := d (16 * y.toNat + x.toNat)) (by unfold dep at this; omega)]
  rfl
theorem impl_depth_at {a b : Int} {d : Nat → Int} (hf : FitB a b d) {x y : Int} (hx : 0 ≤ x ∧ x < 16) (hy : 0 ≤ y ∧ y < 16) : impl_depth.f a b d x y = some (dep d x y) := by
  have := dep_bd hf hx hy
  unfold impl_depth.f
  rw [if_pos hy.1, if_pos hy.2, if_pos hx.1, if_pos hx.2, w64 (n := d (16 * y.toNat + x.toNat)) (by unfold dep at this; omega)]
  rfl
def FitT (x y c l w q : Int) : Prop := (-128 ≤ x ∧ x ≤ 127) ∧ (-128 ≤ y ∧ y ≤ 127) ∧ (-128 ≤ c ∧ c ≤ 127) ∧ (-128 ≤ l ∧ l ≤ 127) ∧ (-128 ≤ w ∧ w ≤ 127) ∧ (-128 ≤ q ∧ q ≤ 127)
theorem spec_boat {a b : Int} {d : Nat → Int} (hf : FitB a b d) (ho : BayIn.okBay a b d) {x y c l w q : Int} (ht : FitT x y c l w q) : spec_l01Boat.f a b d x y c l w q = some (decide (OkBoat a b d x y c l w q), a, b, d) := by
  have h1 := ho.2.1
  have h2 := ho.2.2.2.1
  obtain ⟨t1, t2, t3, t4, t5, t6⟩ := ht
  unfold spec_l01Boat.f
  rw [is_some hf x y t1 t2, w64 (n := c) (by omega), w64 (n := l) (by omega), w64 (n := w) (by omega), w64 (n := q) (by omega), in_some, in_some, in_some, in_some]
  simp only [Option.bind_some]
  by_cases c1 : (0 ≤ x ∧ x < a) ∧ (0 ≤ y ∧ y < b)
  · rw [decide_eq_true c1, if_pos rfl, spec_depth hf (by omega) (by omega)]
    simp only [Option.bind_some]
    by_cases c2 : 0 < dep d x y
    · rw [if_pos c2]
      by_cases c3 : 1 ≤ c ∧ c ≤ 60
      · by_cases c4 : 0 ≤ l ∧ l ≤ 5
        · by_cases c5 : 1 ≤ w ∧ w ≤ 30
          · simp only [decide_eq_true c3, decide_eq_true c4, decide_eq_true c5, if_true]
            congr 2
            rw [decide_eq_decide]
            exact ⟨fun h => ⟨c1.1, c1.2, c2, c3, c4, c5, h⟩, fun h => h.2.2.2.2.2.2⟩
          · simp only [decide_eq_true c3, decide_eq_true c4, decide_eq_false c5, if_true, Bool.false_eq_true, if_false]
            rw [decide_eq_false (fun h : OkBoat a b d x y c l w q => c5 h.2.2.2.2.2.1)]
        · simp only [decide_eq_true c3, decide_eq_false c4, if_true, Bool.false_eq_true, if_false]
          rw [decide_eq_false (fun h : OkBoat a b d x y c l w q => c4 h.2.2.2.2.1)]
      · simp only [decide_eq_false c3, Bool.false_eq_true, if_false]
        rw [decide_eq_false (fun h : OkBoat a b d x y c l w q => c3 h.2.2.2.1)]
    · rw [if_neg c2, decide_eq_false (fun h : OkBoat a b d x y c l w q => c2 h.2.2.1)]
  · rw [decide_eq_false c1, if_neg (by decide), decide_eq_false (fun h : OkBoat a b d x y c l w q => c1 ⟨h.1, h.2.1⟩)]
theorem impl_water {a b : Int} {d : Nat → Int} (hf : FitB a b d) (ho : BayIn.okBay a b d) (x y : Int) : impl_isWater.f a b d x y = some (decide ((0 ≤ x ∧ x < a) ∧ (0 ≤ y ∧ y < b) ∧ 0 < dep d x y)) := by
  have h1 := ho.2.1
  have h2 := ho.2.2.2.1
  have e : impl_isPlace.f a b d x y = some (decide ((0 ≤ x ∧ x < a) ∧ (0 ≤ y ∧ y < b))) := by
    unfold impl_isPlace.f
    by_cases c1 : 0 ≤ x
    · by_cases c2 : x < a
      · by_cases c3 : 0 ≤ y <;> simp [c1, c2, c3]
      · simp [c1, c2]
    · simp [c1]
  unfold impl_isWater.f
  rw [e]
  simp only [Option.bind_some]
  by_cases c1 : (0 ≤ x ∧ x < a) ∧ (0 ≤ y ∧ y < b)
  · rw [decide_eq_true c1, if_pos rfl, impl_depth_at hf (by omega) (by omega)]
    simp only [Option.bind_some]
    congr 1
    rw [decide_eq_decide]
    exact ⟨fun h => ⟨c1.1, c1.2, h⟩, fun h => h.2.2⟩
  · rw [decide_eq_false c1, if_neg (by decide), decide_eq_false (fun h => c1 ⟨h.1, h.2.1⟩)]
theorem impl_boat {a b : Int} {d : Nat → Int} (hf : FitB a b d) (ho : BayIn.okBay a b d) (x y c l w q : Int) : impl_isBoat.f a b d x y c l w q = some (decide (OkBoat a b d x y c l w q)) := by
  unfold impl_isBoat.f
  rw [impl_water hf ho]
  simp only [Option.bind_some]
  by_cases c1 : (0 ≤ x ∧ x < a) ∧ (0 ≤ y ∧ y < b) ∧ 0 < dep d x y
  · rw [decide_eq_true c1, if_pos rfl]
    have e : ∀ P : Prop, [Decidable P] → (P ↔ OkBoat a b d x y c l w q) → some (decide P) = some (decide (OkBoat a b d x y c l w q)) := fun P _ h => by rw [decide_eq_decide.2 h]
    have no : ∀ P : Prop, ¬ P → (OkBoat a b d x y c l w q → P) → some false = some (decide (OkBoat a b d x y c l w q)) := fun P h k => by rw [decide_eq_false (fun q => h (k q))]
    by_cases c2 : 1 ≤ c
    · rw [if_pos c2]
      by_cases c3 : c ≤ 60
      · rw [if_pos c3]
        by_cases c4 : 0 ≤ l
        · rw [if_pos c4]
          by_cases c5 : l ≤ 5
          · rw [if_pos c5]
            by_cases c6 : 1 ≤ w
            · rw [if_pos c6]
              by_cases c7 : w ≤ 30
              · rw [if_pos c7]
                by_cases c8 : 0 ≤ q
                · rw [if_pos c8]
                  exact e _ ⟨fun h => ⟨c1.1, c1.2.1, c1.2.2, ⟨c2, c3⟩, ⟨c4, c5⟩, ⟨c6, c7⟩, c8, h⟩, fun h => h.2.2.2.2.2.2.2⟩
                · rw [if_neg c8]; exact no _ c8 (fun h => h.2.2.2.2.2.2.1)
              · rw [if_neg c7]; exact no _ c7 (fun h => h.2.2.2.2.2.1.2)
            · rw [if_neg c6]; exact no _ c6 (fun h => h.2.2.2.2.2.1.1)
          · rw [if_neg c5]; exact no _ c5 (fun h => h.2.2.2.2.1.2)
        · rw [if_neg c4]; exact no _ c4 (fun h => h.2.2.2.2.1.1)
      · rw [if_neg c3]; exact no _ c3 (fun h => h.2.2.2.1.2)
    · rw [if_neg c2]; exact no _ c2 (fun h => h.2.2.2.1.1)
  · rw [decide_eq_false c1, if_neg (by decide), decide_eq_false (fun h : OkBoat a b d x y c l w q => c1 ⟨h.1, h.2.1, h.2.2.1⟩)]

theorem sq_bd {r m : Int} (h : -m ≤ r) (h2 : r ≤ m) : 0 ≤ r * r ∧ r * r ≤ m * m := by
  by_cases c : 0 ≤ r
  · exact ⟨Int.mul_nonneg c c, Int.mul_le_mul h2 h2 c (by omega)⟩
  · have e : r * r = (-r) * (-r) := by rw [Int.neg_mul_neg]
    rw [e]
    exact ⟨Int.mul_nonneg (by omega) (by omega), Int.mul_le_mul (by omega) (by omega) (by omega) (by omega)⟩
def rootF : Nat → Int → Int → Int
  | 0, _, r => r
  | k + 1, n, r => if (r + 1) * (r + 1) ≤ n then rootF k n (r + 1) else r
def rootI (n : Int) : Int := rootF 60 n 0
theorem rootF_bd (n : Int) (j : Nat) : ∀ r, r ≤ rootF j n r ∧ rootF j n r ≤ r + j := by
  induction j with
  | zero => intro r; simp only [rootF]; omega
  | succ j ih =>
    intro r
    simp only [rootF]
    by_cases h : (r + 1) * (r + 1) ≤ n
    · rw [if_pos h]; have := ih (r + 1); omega
    · rw [if_neg h]; omega
theorem rootI_bd (n : Int) : 0 ≤ rootI n ∧ rootI n ≤ 60 := by have := rootF_bd n 60 0; unfold rootI; omega
theorem w64sq {r : Int} (h : 0 ≤ r) (h2 : r ≤ 1000) : wrap64 ((wrap64 (r + 1)) * (wrap64 (r + 1))) = (r + 1) * (r + 1) := by
  have := sq_bd (r := r + 1) (m := 1001) (by omega) (by omega)
  rw [w64 (n := r + 1) (by omega), w64 (by omega)]
theorem impl_root_loop {n : Int} (hn : n ≤ 3600) (j : Nat) : ∀ r : Int, 0 ≤ r → r + j = 60 → Ev (fun k => impl_root.l0 k n r) (rootF j n r) := by
  induction j with
  | zero =>
    intro r h0 hj
    obtain rfl : r = 60 := by omega
    refine Ev.step (f := fun _ => some 60) (fun k => ?_) (Ev.now _)
    simp only [impl_root.l0]
    rw [w64sq (by omega) (by omega), if_neg (by omega)]
  | succ j ih =>
    intro r h0 hj
    simp only [rootF]
    by_cases h : (r + 1) * (r + 1) ≤ n
    · rw [if_pos h]
      refine Ev.step (fun k => ?_) (ih (r + 1) (by omega) (by omega))
      simp only [impl_root.l0]
      rw [w64sq (by omega) (by omega), if_pos h, w64 (n := r + 1) (by omega)]
    · rw [if_neg h]
      refine Ev.step (f := fun _ => some r) (fun k => ?_) (Ev.now _)
      simp only [impl_root.l0]
      rw [w64sq (by omega) (by omega), if_neg h]
theorem spec_root_loop {n : Int} (hn : n ≤ 3600) (a b : Int) (d : Nat → Int) (j : Nat) : ∀ r : Int, 0 ≤ r → r + j = 60 → Ev (fun k => spec_l01Reach.l0 k n r a b d) (rootF j n r, a, b, d) := by
  induction j with
  | zero =>
    intro r h0 hj
    obtain rfl : r = 60 := by omega
    refine Ev.step (f := fun _ => some (60, a, b, d)) (fun k => ?_) (Ev.now _)
    simp only [spec_l01Reach.l0]
    rw [w64sq (by omega) (by omega), if_neg (by omega)]
  | succ j ih =>
    intro r h0 hj
    simp only [rootF]
    by_cases h : (r + 1) * (r + 1) ≤ n
    · rw [if_pos h]
      refine Ev.step (fun k => ?_) (ih (r + 1) (by omega) (by omega))
      simp only [spec_l01Reach.l0]
      rw [w64sq (by omega) (by omega), if_pos h, w64 (n := r + 1) (by omega)]
    · rw [if_neg h]
      refine Ev.step (f := fun _ => some (r, a, b, d)) (fun k => ?_) (Ev.now _)
      simp only [spec_l01Reach.l0]
      rw [w64sq (by omega) (by omega), if_neg h]
def reach (d : Nat → Int) (x y c : Int) : Int := if c * c - dep d x y * dep d x y < 0 then -1 else rootI (c * c - dep d x y * dep d x y)
theorem reach_bd (d : Nat → Int) (x y c : Int) : -1 ≤ reach d x y c ∧ reach d x y c ≤ 60 := by
  unfold reach
  have := rootI_bd (c * c - dep d x y * dep d x y)
  split <;> omega
theorem reach_in {a b : Int} {d : Nat → Int} (ho : BayIn.okBay a b d) {x y : Int} (hx : 0 ≤ x ∧ x < 16) (hy : 0 ≤ y ∧ y < 16) {c : Int} (hc : 0 ≤ c ∧ c ≤ 60) :
    wrap64 ((wrap64 ((wrap64 c) * (wrap64 c))) - (wrap64 (dep d x y * dep d x y))) = c * c - dep d x y * dep d x y ∧ c * c - dep d x y * dep d x y ≤ 3600 := by
  have hd := dep_ok ho hx hy
  have s1 := sq_bd (r := c) (m := 60) (by omega) (by omega)
  have s2 := sq_bd (r := dep d x y) (m := 30) (by omega) (by omega)
  rw [w64 (n := c) (by omega), w64 (n := c * c) (by omega), w64 (n := dep d x y * dep d x y) (by omega), w64 (by omega)]
  exact ⟨rfl, by omega⟩
theorem impl_reach {a b : Int} {d : Nat → Int} (hf : FitB a b d) (ho : BayIn.okBay a b d) {x y : Int} (hx : 0 ≤ x ∧ x < 16) (hy : 0 ≤ y ∧ y < 16) {c : Int} (hc : 0 ≤ c ∧ c ≤ 60) (l w q : Int) :
    Ev (fun k => impl_reachOf.f k a b d x y c l w q) (reach d x y c) := by
  obtain ⟨e, he⟩ := reach_in ho hx hy hc
  unfold impl_reachOf.f reach
  simp only [impl_depth_at hf hx hy, Option.bind_some, e]
  by_cases h : c * c - dep d x y * dep d x y < 0
  · simp only [if_pos h]
    exact Ev.now _
  · simp only [if_neg h]
    unfold impl_root.f
    exact Ev.bind (impl_root_loop he 60 0 (by omega) (by omega)) (Ev.now _)
theorem spec_reach {a b : Int} {d : Nat → Int} (hf : FitB a b d) (ho : BayIn.okBay a b d) {x y : Int} (hx : 0 ≤ x ∧ x < 16) (hy : 0 ≤ y ∧ y < 16) {c : Int} (hc : 0 ≤ c ∧ c ≤ 60) (l w q : Int) :
    Ev (fun k => spec_l01Reach.f k a b d x y c l w q) (reach d x y c, a, b, d) := by
  obtain ⟨e, he⟩ := reach_in ho hx hy hc
  unfold spec_l01Reach.f reach
  simp only [spec_depth hf hx hy, Option.bind_some, e]
  by_cases h : c * c - dep d x y * dep d x y < 0
  · simp only [if_pos h]
    exact Ev.now _
  · simp only [if_neg h]
    exact spec_root_loop he a b d 60 0 (by omega) (by omega)
theorem impl_validBoat {a b : Int} {d : Nat → Int} (hf : FitB a b d) (x y c l w q : Int) : impl_ValidBoat.f a b d x y c l w q = some (decide (BayIn.okBay a b d ∧ OkBoat a b d x y c l w q)) := by
  unfold impl_ValidBoat.f impl_ValidBay.f
  simp only [Option.bind_some]
  by_cases ho : BayIn.okBay a b d
  · rw [decide_eq_true ho, if_pos rfl, impl_boat hf ho]
    simp [ho]
  · rw [decide_eq_false ho, if_neg (by decide), decide_eq_false (fun h => ho h.1)]
theorem boat_in {a b : Int} {d : Nat → Int} (ho : BayIn.okBay a b d) {x y c l w q : Int} (h : OkBoat a b d x y c l w q) : (0 ≤ x ∧ x < 16) ∧ (0 ≤ y ∧ y < 16) ∧ (0 ≤ c ∧ c ≤ 60) ∧ (0 ≤ l ∧ l ≤ 5) := by
  have h1 := ho.2.1
  have h2 := ho.2.2.2.1
  obtain ⟨k1, k2, k3, k4, k5, k6, k7⟩ := h
  omega

def codeT (a b : Int) (d : Nat → Int) (x y c l w q : Int) : Int := if BayIn.okBay a b d ∧ OkBoat a b d x y c l w q then (if reach d x y c < 0 then 4 else 0) else 1
theorem impl_code {a b : Int} {d : Nat → Int} (hf : FitB a b d) (x y c l w q : Int) : Ev (fun k => impl_boatCode.f k a b d x y c l w q) (codeT a b d x y c l w q) := by
  unfold impl_boatCode.f codeT
  simp only [impl_validBoat hf, Option.bind_some]
  by_cases h : BayIn.okBay a b d ∧ OkBoat a b d x y c l w q
  · simp only [decide_eq_true h, if_true, if_pos h]
    obtain ⟨h1, h2, h3, h4⟩ := boat_in h.1 h.2
    refine Ev.bind (impl_reach hf h.1 h1 h2 h3 l w q) ?_
    by_cases c1 : reach d x y c < 0
    · simp only [if_pos c1]; exact Ev.now _
    · simp only [if_neg c1]; exact Ev.now _
  · simp only [decide_eq_false h, Bool.false_eq_true, if_false, if_neg h]
    exact Ev.now _
theorem codeT_ok {a b : Int} {d : Nat → Int} {x y c l w q : Int} (h : codeT a b d x y c l w q = 0) : BayIn.okBay a b d ∧ OkBoat a b d x y c l w q ∧ 0 ≤ reach d x y c := by
  unfold codeT at h
  by_cases c1 : BayIn.okBay a b d ∧ OkBoat a b d x y c l w q
  · rw [if_pos c1] at h
    by_cases c2 : reach d x y c < 0
    · rw [if_pos c2] at h; exact absurd h (by decide)
    · exact ⟨c1.1, c1.2, by omega⟩
  · rw [if_neg c1] at h; exact absurd h (by decide)
theorem impl_swing {a b : Int} {d : Nat → Int} (hf : FitB a b d) (ho : BayIn.okBay a b d) {x y : Int} (hx : 0 ≤ x ∧ x < 16) (hy : 0 ≤ y ∧ y < 16) {c l : Int} (hc : 0 ≤ c ∧ c ≤ 60) (hl : 0 ≤ l ∧ l ≤ 5) (w q : Int) :
    Ev (fun k => impl_swingOf.f k a b d x y c l w q) (reach d x y c + l) := by
  have hr := reach_bd d x y c
  unfold impl_swingOf.f
  refine Ev.bind (impl_reach hf ho hx hy hc l w q) ?_
  simp only [w64 (n := l) (by omega), w64 (n := reach d x y c + l) (by omega)]
  exact Ev.now _
def OkB (a b : Int) (d : Nat → Int) (t : S38) : Prop := OkBoat a b d t.f0.f0 t.f0.f1 t.f1 t.f2 t.f3 t.f4
instance (a b : Int) (d : Nat → Int) (t : S38) : Decidable (OkB a b d t) := by unfold OkB; infer_instance
def FitS (t : S38) : Prop := FitT t.f0.f0 t.f0.f1 t.f1 t.f2 t.f3 t.f4
theorem rd38 {xs : List S38} {j : Nat} (h : j < xs.length) : rd_T38 xs (j : Int) = xs[j] := by
  unfold rd_T38
  rw [Int.toNat_natCast, List.getD_eq_getElem?_getD, List.getElem?_eq_getElem h]
  rfl
def okL (a b : Int) (d : Nat → Int) (l : List S38) : Bool := l.all fun t => decide (OkB a b d t)
def codeL (a b : Int) (d : Nat → Int) (l : List S38) : Int := if BayIn.okBay a b d then (if okL a b d l = true then (if (l.length : Int) > 10 then 3 else 0) else 1) else 1
theorem w64n {j : Nat} {n : Nat} (h : j < n) (hn : n ≤ 9223372036854775807) : wrap64 ((j : Int) + 1) = ((j + 1 : Nat) : Int) := by unfold wrap64; omega
theorem asked_loop {a b : Int} {d : Nat → Int} (hf : FitB a b d) (ho : BayIn.okBay a b d) (l : List S38) (hl : l.length ≤ 9223372036854775807) (ht : ∀ t ∈ l, FitS t) (n : Nat) : ∀ j : Nat, l.length = j + n →
    Ev (fun k => spec_l01Asked.l0 k l (j : Int) a b d) ((if okL a b d (l.drop j) = true then (if (l.length : Int) > 10 then 3 else 0) else 1), a, b, d) := by
  induction n with
  | zero =>
    intro j hj
    rw [List.drop_eq_nil_of_le (by omega)]
    refine Ev.step (f := fun _ => some ((if (l.length : Int) > 10 then 3 else 0), a, b, d)) (fun k => ?_) (Ev.now _)
    simp only [spec_l01Asked.l0]
    rw [if_neg (by omega)]
    split <;> rfl
  | succ n ih =>
    intro j hj
    have hlt : j < l.length := by omega
    rw [List.drop_eq_getElem_cons hlt]
    have e : okL a b d (l[j] :: l.drop (j + 1)) = (decide (OkB a b d l[j]) && okL a b d (l.drop (j + 1))) := rfl
    rw [e]
    have hb := spec_boat hf ho (x := l[j].f0.f0) (y := l[j].f0.f1) (c := l[j].f1) (l := l[j].f2) (w := l[j].f3) (q := l[j].f4) (ht _ (List.getElem_mem hlt))
    by_cases c : OkB a b d l[j]
    · rw [decide_eq_true c, Bool.true_and]
      refine Ev.step (fun k => ?_) (ih (j + 1) (by omega))
      simp only [spec_l01Asked.l0]
      rw [if_pos (by omega), if_pos (by omega), rd38 hlt, hb]
      simp only [Option.bind_some]
      rw [decide_eq_true (show OkBoat a b d _ _ _ _ _ _ from c), if_pos rfl, w64n hlt hl]
    · rw [decide_eq_false c, Bool.false_and]
      refine Ev.step (f := fun _ => some (1, a, b, d)) (fun k => ?_) (Ev.now _)
      simp only [spec_l01Asked.l0]
      rw [if_pos (by omega), if_pos (by omega), rd38 hlt, hb]
      simp only [Option.bind_some]
      rw [decide_eq_false (show ¬ OkBoat a b d _ _ _ _ _ _ from c), if_neg (by decide)]
theorem spec_asked {a b : Int} {d : Nat → Int} (hf : FitB a b d) (l : List S38) (hl : l.length ≤ 9223372036854775807) (ht : ∀ t ∈ l, FitS t) :
    Ev (fun k => spec_l01Asked.f k a b d l) (codeL a b d l, a, b, d) := by
  unfold spec_l01Asked.f codeL
  obtain ⟨r, k1, k2⟩ := spec_bay hf
  refine Ev.bind k1 ?_
  by_cases ho : BayIn.okBay a b d
  · obtain rfl := k2.2 ho
    simp only [if_true, if_pos ho]
    exact asked_loop hf ho l hl ht l.length 0 (by omega)
  · have : r = false := by cases r with | false => rfl | true => exact absurd (k2.1 rfl) ho
    subst this
    simp only [Bool.false_eq_true, if_false, if_neg ho]
    exact Ev.now _
theorem codeL_one {a b : Int} {d : Nat → Int} {x y c l w q : Int} : codeL a b d [(⟨⟨x, y⟩, c, l, w, q⟩ : S38)] = if BayIn.okBay a b d ∧ OkBoat a b d x y c l w q then 0 else 1 := by
  have e : okL a b d [(⟨⟨x, y⟩, c, l, w, q⟩ : S38)] = decide (OkBoat a b d x y c l w q) := Bool.and_true _
  unfold codeL
  rw [e]
  by_cases ho : BayIn.okBay a b d <;> by_cases h : OkBoat a b d x y c l w q <;> simp [ho, h]

theorem rd36 {xs : List S36} {j : Nat} (h : j < xs.length) : rd_T36 xs (j : Int) = xs[j] := by
  unfold rd_T36
  rw [Int.toNat_natCast, List.getD_eq_getElem?_getD, List.getElem?_eq_getElem h]
  rfl
def rowP (y : Int) : Nat → Int → List S36
  | 0, _ => []
  | n + 1, x => ⟨x, y⟩ :: rowP y n (x + 1)
def allF (a : Nat) : Nat → Int → List S36
  | 0, _ => []
  | n + 1, y => rowP y a 0 ++ allF a n (y + 1)
def allP (a b : Int) : List S36 := allF a.toNat b.toNat 0
theorem rowP_length (y : Int) (n : Nat) : ∀ x, (rowP y n x).length = n := by
  induction n with
  | zero => intro x; rfl
  | succ n ih => intro x; simp [rowP, ih]
theorem allF_length (a : Nat) (n : Nat) : ∀ y, (allF a n y).length = a * n := by
  induction n with
  | zero => intro y; rfl
  | succ n ih => intro y; simp [allF, ih, rowP_length, Nat.mul_succ, Nat.add_comm]
theorem mem_rowP (y : Int) (p : S36) (n : Nat) : ∀ x, p ∈ rowP y n x ↔ (x ≤ p.f0 ∧ p.f0 < x + n) ∧ p.f1 = y := by
  induction n with
  | zero => intro x; simp [rowP]; omega
  | succ n ih =>
    intro x
    simp only [rowP, List.mem_cons, ih]
    constructor
    · rintro (rfl | h)
      · exact ⟨⟨Int.le_refl _, show x < x + ((n + 1 : Nat) : Int) by omega⟩, rfl⟩
      · omega
    · intro h
      by_cases e : p.f0 = x
      · exact .inl (by cases p; simp only [] at e h; rw [e, h.2])
      · exact .inr (by omega)
theorem mem_allF (a : Nat) (p : S36) (n : Nat) : ∀ y, p ∈ allF a n y ↔ (0 ≤ p.f0 ∧ p.f0 < a) ∧ y ≤ p.f1 ∧ p.f1 < y + n := by
  induction n with
  | zero => intro y; simp only [allF, List.not_mem_nil, false_iff]; omega
  | succ n ih =>
    intro y
    simp only [allF, List.mem_append, ih, mem_rowP]
    omega
theorem mem_allP {a b : Int} (ha : 0 ≤ a) (hb : 0 ≤ b) (p : S36) : p ∈ allP a b ↔ (0 ≤ p.f0 ∧ p.f0 < a) ∧ 0 ≤ p.f1 ∧ p.f1 < b := by
  unfold allP
  rw [mem_allF]
  omega
theorem allP_length {a b : Int} (ha : a ≤ 16) (hb : b ≤ 16) : (allP a b).length ≤ 256 := by
  unfold allP
  rw [allF_length]
  exact Nat.le_trans (Nat.mul_le_mul (show a.toNat ≤ 16 by omega) (show b.toNat ≤ 16 by omega)) (by decide)
theorem spec_row {a b : Int} {d : Nat → Int} (ha : a ≤ 16) {y : Int} {r : List S36 × Int × Int × (Nat → Int)} (n : Nat) : ∀ (x : Int) (out : List S36), 0 ≤ x → a = x + n → out.length + n ≤ 100000 →
    Ev (fun k => spec_l01All.l0 k (out ++ rowP y n x) (IntKind.i8.wrap (y + 1)) a b d) r → Ev (fun k => spec_l01All.l1 k out y x a b d) r := by
  induction n with
  | zero =>
    intro x out h0 hx ho h
    refine Ev.step (fun k => ?_) h
    simp only [spec_l01All.l1]
    rw [if_neg (by omega)]
    simp [rowP]
  | succ n ih =>
    intro x out h0 hx ho h
    refine Ev.step (fun k => ?_) (ih (x + 1) (out ++ [⟨x, y⟩]) (by omega) (by omega) (by simp; omega) (by simp only [List.append_assoc, List.singleton_append]; exact h))
    simp only [spec_l01All.l1]
    rw [if_pos (by omega), if_pos (by omega), i8w _ (by omega) (by omega)]
theorem spec_all_loop {a b : Int} {d : Nat → Int} (ha : 0 ≤ a ∧ a ≤ 16) (hb : b ≤ 16) (n : Nat) : ∀ (y : Int) (out : List S36), 0 ≤ y → b = y + n → out.length + 16 * n ≤ 1000 →
    Ev (fun k => spec_l01All.l0 k out y a b d) (out ++ allF a.toNat n y, a, b, d) := by
  induction n with
  | zero =>
    intro y out h0 hy ho
    refine Ev.step (f := fun _ => some (out, a, b, d)) (fun k => ?_) (by simp only [allF, List.append_nil]; exact Ev.now _)
    simp only [spec_l01All.l0]
    rw [if_neg (by omega)]
  | succ n ih =>
    intro y out h0 hy ho
    refine Ev.step (f := fun k => spec_l01All.l1 k out y 0 a b d) (fun k => ?_) (spec_row ha.2 a.toNat 0 out (by omega) (by omega) (by omega) ?_)
    · simp only [spec_l01All.l0]
      rw [if_pos (by omega)]
    · rw [i8w _ (by omega) (by omega)]
      have := ih (y + 1) (out ++ rowP y a.toNat 0) (by omega) (by omega) (by rw [List.length_append, rowP_length]; omega)
      rw [List.append_assoc] at this
      exact this
theorem spec_all {a b : Int} {d : Nat → Int} (ho : BayIn.okBay a b d) : Ev (fun k => spec_l01All.f k a b d) (allP a b, a, b, d) := by
  have h1 := ho.1
  have h2 := ho.2.1
  have h3 := ho.2.2.1
  have h4 := ho.2.2.2.1
  unfold spec_l01All.f
  exact spec_all_loop ⟨by omega, h2⟩ h4 b.toNat 0 [] (by omega) (by omega) (by simp; omega)
theorem impl_row {a b : Int} {d : Nat → Int} (ha : a ≤ 16) {y : Int} {r : List S36} (n : Nat) : ∀ (x : Int) (out : List S36), 0 ≤ x → a = x + n → out.length + n ≤ 100000 →
    Ev (fun k => impl_allPlaces.l0 k (out ++ rowP y n x) b (IntKind.i8.wrap (y + 1)) a b d) r → Ev (fun k => impl_allPlaces.l1 k out y b y a x a b d) r := by
  induction n with
  | zero =>
    intro x out h0 hx ho h
    refine Ev.step (fun k => ?_) h
    simp only [impl_allPlaces.l1]
    rw [if_neg (by omega)]
    simp [rowP]
  | succ n ih =>
    intro x out h0 hx ho h
    refine Ev.step (fun k => ?_) (ih (x + 1) (out ++ [⟨x, y⟩]) (by omega) (by omega) (by simp; omega) (by simp only [List.append_assoc, List.singleton_append]; exact h))
    simp only [impl_allPlaces.l1]
    rw [if_pos (by omega), if_pos (by omega), i8w _ (by omega) (by omega)]
theorem impl_all_loop {a b : Int} {d : Nat → Int} (ha : 0 ≤ a ∧ a ≤ 16) (hb : b ≤ 16) (n : Nat) : ∀ (y : Int) (out : List S36), 0 ≤ y → b = y + n → out.length + 16 * n ≤ 1000 →
    Ev (fun k => impl_allPlaces.l0 k out b y a b d) (out ++ allF a.toNat n y) := by
  induction n with
  | zero =>
    intro y out h0 hy ho
    refine Ev.step (f := fun _ => some out) (fun k => ?_) (by simp only [allF, List.append_nil]; exact Ev.now _)
    simp only [impl_allPlaces.l0]
    rw [if_neg (by omega)]
  | succ n ih =>
    intro y out h0 hy ho
    refine Ev.step (f := fun k => impl_allPlaces.l1 k out y b y a 0 a b d) (fun k => ?_) (impl_row ha.2 a.toNat 0 out (by omega) (by omega) (by omega) ?_)
    · simp only [impl_allPlaces.l0]
      rw [if_pos (by omega)]
    · rw [i8w _ (by omega) (by omega)]
      have := ih (y + 1) (out ++ rowP y a.toNat 0) (by omega) (by omega) (by rw [List.length_append, rowP_length]; omega)
      rw [List.append_assoc] at this
      exact this
theorem impl_all {a b : Int} {d : Nat → Int} (ho : BayIn.okBay a b d) : Ev (fun k => impl_allPlaces.f k a b d) (allP a b) := by
  have h1 := ho.1
  have h2 := ho.2.1
  have h3 := ho.2.2.1
  have h4 := ho.2.2.2.1
  unfold impl_allPlaces.f
  exact impl_all_loop ⟨by omega, h2⟩ h4 b.toNat 0 [] (by omega) (by omega) (by simp; omega)
theorem allP_in {a b : Int} {d : Nat → Int} (ho : BayIn.okBay a b d) : ∀ p ∈ allP a b, (0 ≤ p.f0 ∧ p.f0 < 16) ∧ (0 ≤ p.f1 ∧ p.f1 < 16) := by
  have h1 := ho.1
  have h2 := ho.2.1
  have h3 := ho.2.2.1
  have h4 := ho.2.2.2.1
  intro p hp
  rw [mem_allP (by omega) (by omega)] at hp
  omega
theorem allP_len {a b : Int} {d : Nat → Int} (ho : BayIn.okBay a b d) : (allP a b).length ≤ 256 := allP_length ho.2.1 ho.2.2.2.1

theorem spec_swing {a b : Int} {d : Nat → Int} (hf : FitB a b d) {x y c l w q : Int} (ht : FitT x y c l w q) :
    Ev (fun k => spec_l01Swing.f k a b d x y c l w q) ((if codeT a b d x y c l w q = 0 then reach d x y c + l else 0), codeT a b d x y c l w q, a, b, d) := by
  unfold spec_l01Swing.f
  refine Ev.bind (spec_asked hf _ (by simp) (by intro t hm; rw [List.mem_singleton] at hm; subst hm; exact ht)) ?_
  rw [codeL_one]
  unfold codeT
  by_cases h : BayIn.okBay a b d ∧ OkBoat a b d x y c l w q
  · simp only [if_pos h, if_true]
    obtain ⟨h1, h2, h3, h4⟩ := boat_in h.1 h.2
    refine Ev.bind (spec_reach hf h.1 h1 h2 h3 l w q) ?_
    have hr := reach_bd d x y c
    by_cases c1 : reach d x y c < 0
    · simp only [if_pos c1]; exact Ev.now _
    · simp only [if_neg c1, if_true, w64 (n := l) (by omega), w64 (n := reach d x y c + l) (by omega)]; exact Ev.now _
  · simp only [if_neg h]
    exact Ev.now _

def farI (p q : S36) : Int := (p.f0 - q.f0) * (p.f0 - q.f0) + (p.f1 - q.f1) * (p.f1 - q.f1)
theorem far_w {p q : S36} (hp : (0 ≤ p.f0 ∧ p.f0 < 16) ∧ (0 ≤ p.f1 ∧ p.f1 < 16)) (hq : (0 ≤ q.f0 ∧ q.f0 < 16) ∧ (0 ≤ q.f1 ∧ q.f1 < 16)) :
    wrap64 ((wrap64 ((wrap64 ((wrap64 (p.f0)) - (wrap64 (q.f0)))) * (wrap64 ((wrap64 (p.f0)) - (wrap64 (q.f0)))))) + (wrap64 ((wrap64 ((wrap64 (p.f1)) - (wrap64 (q.f1)))) * (wrap64 ((wrap64 (p.f1)) - (wrap64 (q.f1))))))) = farI p q := by
  have s1 := sq_bd (r := p.f0 - q.f0) (m := 16) (by omega) (by omega)
  have s2 := sq_bd (r := p.f1 - q.f1) (m := 16) (by omega) (by omega)
  unfold farI
  rw [w64 (n := p.f0) (by omega), w64 (n := q.f0) (by omega), w64 (n := p.f1) (by omega), w64 (n := q.f1) (by omega), w64 (n := p.f0 - q.f0) (by omega), w64 (n := p.f1 - q.f1) (by omega), w64 (n := (p.f0 - q.f0) * (p.f0 - q.f0)) (by omega), w64 (n := (p.f1 - q.f1) * (p.f1 - q.f1)) (by omega), w64 (by omega)]
theorem spec_far {p q : S36} (hp : (0 ≤ p.f0 ∧ p.f0 < 16) ∧ (0 ≤ p.f1 ∧ p.f1 < 16)) (hq : (0 ≤ q.f0 ∧ q.f0 < 16) ∧ (0 ≤ q.f1 ∧ q.f1 < 16)) : spec_l01Far.f p.f0 p.f1 q.f0 q.f1 = some (farI p q) := by
  unfold spec_l01Far.f
  rw [far_w hp hq]
theorem impl_far_at {p q : S36} (hp : (0 ≤ p.f0 ∧ p.f0 < 16) ∧ (0 ≤ p.f1 ∧ p.f1 < 16)) (hq : (0 ≤ q.f0 ∧ q.f0 < 16) ∧ (0 ≤ q.f1 ∧ q.f1 < 16)) : impl_far.f p.f0 p.f1 q.f0 q.f1 = some (farI p q) := by
  unfold impl_far.f
  rw [far_w hp hq]
def inOver (d : Nat → Int) (q : S36) (s less : Int) (p : S36) : Bool := decide (farI p q ≤ s * s) && decide (dep d p.f0 p.f1 < less)
theorem spec_over_loop {a b : Int} {d : Nat → Int} (hf : FitB a b d) {q : S36} (hq : (0 ≤ q.f0 ∧ q.f0 < 16) ∧ (0 ≤ q.f1 ∧ q.f1 < 16)) {s less : Int} (hs : -1000 ≤ s ∧ s ≤ 1000) (l : List S36) (hl : l.length ≤ 256) (hp : ∀ p ∈ l, (0 ≤ p.f0 ∧ p.f0 < 16) ∧ (0 ≤ p.f1 ∧ p.f1 < 16)) (n : Nat) : ∀ (j : Nat) (out : List S36), l.length = j + n → out.length + n ≤ 1000 →
    Ev (fun k => spec_l01Over.l0 k s less out l (j : Int) a b d q.f0 q.f1) (out ++ (l.drop j).filter (inOver d q s less), a, b, d) := by
  have hss := sq_bd (r := s) (m := 1000) (by omega) (by omega)
  induction n with
  | zero =>
    intro j out hj ho
    rw [List.drop_eq_nil_of_le (by omega)]
    refine Ev.step (f := fun _ => some (out, a, b, d)) (fun k => ?_) (by simp only [List.filter_nil, List.append_nil]; exact Ev.now _)
    simp only [spec_l01Over.l0]
    rw [if_neg (by omega)]
  | succ n ih =>
    intro j out hj ho
    have hlt : j < l.length := by omega
    rw [List.drop_eq_getElem_cons hlt]
    have hb := hp _ (List.getElem_mem hlt)
    by_cases c1 : farI l[j] q ≤ s * s
    · by_cases c2 : dep d l[j].f0 l[j].f1 < less
      · rw [List.filter_cons_of_pos (by simp [inOver, c1, c2]), show out ++ l[j] :: (l.drop (j + 1)).filter (inOver d q s less) = (out ++ [l[j]]) ++ (l.drop (j + 1)).filter (inOver d q s less) from by simp]
        refine Ev.step (fun k => ?_) (ih (j + 1) (out ++ [l[j]]) (by omega) (by simp; omega))
        simp only [spec_l01Over.l0]
        rw [if_pos (by omega), if_pos (by omega), rd36 hlt, spec_far hb hq]
        simp only [Option.bind_some]
        rw [w64 (n := s * s) (by omega), if_pos c1, spec_depth hf hb.1 hb.2]
        simp only [Option.bind_some]
        rw [if_pos c2, if_pos (by omega), w64n hlt (by omega)]
      · rw [List.filter_cons_of_neg (by simp [inOver, c2])]
        refine Ev.step (fun k => ?_) (ih (j + 1) out (by omega) (by omega))
        simp only [spec_l01Over.l0]
        rw [if_pos (by omega), if_pos (by omega), rd36 hlt, spec_far hb hq]
        simp only [Option.bind_some]
        rw [w64 (n := s * s) (by omega), if_pos c1, spec_depth hf hb.1 hb.2]
        simp only [Option.bind_some]
        rw [if_neg c2, w64n hlt (by omega)]
    · rw [List.filter_cons_of_neg (by simp [inOver, c1])]
      refine Ev.step (fun k => ?_) (ih (j + 1) out (by omega) (by omega))
      simp only [spec_l01Over.l0]
      rw [if_pos (by omega), if_pos (by omega), rd36 hlt, spec_far hb hq]
      simp only [Option.bind_some]
      rw [w64 (n := s * s) (by omega), if_neg c1, w64n hlt (by omega)]
def overL (a b : Int) (d : Nat → Int) (q : S36) (s less : Int) : List S36 := (allP a b).filter (inOver d q s less)
theorem spec_over {a b : Int} {d : Nat → Int} (hf : FitB a b d) (ho : BayIn.okBay a b d) {q : S36} (hq : (0 ≤ q.f0 ∧ q.f0 < 16) ∧ (0 ≤ q.f1 ∧ q.f1 < 16)) {s less : Int} (hs : -1000 ≤ s ∧ s ≤ 1000) :
    Ev (fun k => spec_l01Over.f k a b d q.f0 q.f1 s less) (overL a b d q s less, a, b, d) := by
  unfold spec_l01Over.f overL
  refine Ev.bind (spec_all ho) ?_
  exact spec_over_loop hf hq hs (allP a b) (allP_len ho) (allP_in ho) (allP a b).length 0 [] (by omega) (by have := allP_len ho; simp; omega)
theorem impl_over_loop {q : S36} (hq : (0 ≤ q.f0 ∧ q.f0 < 16) ∧ (0 ≤ q.f1 ∧ q.f1 < 16)) {s : Int} (hs : -1000 ≤ s ∧ s ≤ 1000) (c1 c2 c3 c4 : Int) (l : List S36) (hl : l.length ≤ 256) (hp : ∀ p ∈ l, (0 ≤ p.f0 ∧ p.f0 < 16) ∧ (0 ≤ p.f1 ∧ p.f1 < 16)) (n : Nat) : ∀ (j : Nat) (out : List S36), l.length = j + n → out.length + n ≤ 1000 →
    Ev (fun k => impl_swingPlaces.l0 k s out l (l.length : Int) (j : Int) q.f0 q.f1 c1 c2 c3 c4) (out ++ (l.drop j).filter (fun p => decide (farI p q ≤ s * s))) := by
  have hss := sq_bd (r := s) (m := 1000) (by omega) (by omega)
  induction n with
  | zero =>
    intro j out hj ho
    rw [List.drop_eq_nil_of_le (by omega)]
    refine Ev.step (f := fun _ => some out) (fun k => ?_) (by simp only [List.filter_nil, List.append_nil]; exact Ev.now _)
    simp only [impl_swingPlaces.l0]
    rw [if_neg (by omega)]
  | succ n ih =>
    intro j out hj ho
    have hlt : j < l.length := by omega
    rw [List.drop_eq_getElem_cons hlt]
    have hb := hp _ (List.getElem_mem hlt)
    by_cases c1 : farI l[j] q ≤ s * s
    · rw [List.filter_cons_of_pos (by simp [c1]), show out ++ l[j] :: (l.drop (j + 1)).filter (fun p => decide (farI p q ≤ s * s)) = (out ++ [l[j]]) ++ (l.drop (j + 1)).filter (fun p => decide (farI p q ≤ s * s)) from by simp]
      refine Ev.step (fun k => ?_) (ih (j + 1) (out ++ [l[j]]) (by omega) (by simp; omega))
      simp only [impl_swingPlaces.l0]
      rw [if_pos (by omega), if_pos (by omega), if_pos (by omega), rd36 hlt, impl_far_at hb hq]
      simp only [Option.bind_some]
      rw [w64 (n := s * s) (by omega), if_pos c1, if_pos (by omega), w64n hlt (by omega)]
    · rw [List.filter_cons_of_neg (by simp [c1])]
      refine Ev.step (fun k => ?_) (ih (j + 1) out (by omega) (by omega))
      simp only [impl_swingPlaces.l0]
      rw [if_pos (by omega), if_pos (by omega), if_pos (by omega), rd36 hlt, impl_far_at hb hq]
      simp only [Option.bind_some]
      rw [w64 (n := s * s) (by omega), if_neg c1, w64n hlt (by omega)]
def swingL (a b : Int) (q : S36) (s : Int) : List S36 := (allP a b).filter (fun p => decide (farI p q ≤ s * s))
theorem impl_swings {a b : Int} {d : Nat → Int} (hf : FitB a b d) (ho : BayIn.okBay a b d) {x y : Int} (hx : 0 ≤ x ∧ x < 16) (hy : 0 ≤ y ∧ y < 16) {c l : Int} (hc : 0 ≤ c ∧ c ≤ 60) (hl : 0 ≤ l ∧ l ≤ 5) (w q : Int) :
    Ev (fun k => impl_swingPlaces.f k a b d x y c l w q) (swingL a b ⟨x, y⟩ (reach d x y c + l)) := by
  have hr := reach_bd d x y c
  unfold impl_swingPlaces.f swingL
  refine Ev.bind (impl_swing hf ho hx hy hc hl w q) (Ev.bind (impl_all ho) ?_)
  exact impl_over_loop (q := ⟨x, y⟩) ⟨hx, hy⟩ (by omega) c l w q (allP a b) (allP_len ho) (allP_in ho) (allP a b).length 0 [] (by omega) (by have := allP_len ho; simp; omega)
theorem impl_shoals_loop {a b : Int} {d : Nat → Int} (hf : FitB a b d) (c0 c1 c2 c3 c5 : Int) {w : Int} (hw : -128 ≤ w ∧ w ≤ 127) (l : List S36) (hl : l.length ≤ 256) (hp : ∀ p ∈ l, (0 ≤ p.f0 ∧ p.f0 < 16) ∧ (0 ≤ p.f1 ∧ p.f1 < 16)) (n : Nat) : ∀ (j : Nat) (out : List S36), l.length = j + n → out.length + n ≤ 1000 →
    Ev (fun k => impl_shoals.l0 k out l (l.length : Int) (j : Int) a b d c0 c1 c2 c3 w c5) (out ++ (l.drop j).filter (fun p => decide (dep d p.f0 p.f1 < w))) := by
  induction n with
  | zero =>
    intro j out hj ho
    rw [List.drop_eq_nil_of_le (by omega)]
    refine Ev.step (f := fun _ => some out) (fun k => ?_) (by simp only [List.filter_nil, List.append_nil]; exact Ev.now _)
    simp only [impl_shoals.l0]
    rw [if_neg (by omega)]
  | succ n ih =>
    intro j out hj ho
    have hlt : j < l.length := by omega
    rw [List.drop_eq_getElem_cons hlt]
    have hb := hp _ (List.getElem_mem hlt)
    by_cases c : dep d l[j].f0 l[j].f1 < w
    · rw [List.filter_cons_of_pos (by simp [c]), show out ++ l[j] :: (l.drop (j + 1)).filter (fun p => decide (dep d p.f0 p.f1 < w)) = (out ++ [l[j]]) ++ (l.drop (j + 1)).filter (fun p => decide (dep d p.f0 p.f1 < w)) from by simp]
      refine Ev.step (fun k => ?_) (ih (j + 1) (out ++ [l[j]]) (by omega) (by simp; omega))
      simp only [impl_shoals.l0]
      rw [if_pos (by omega), if_pos (by omega), if_pos (by omega), rd36 hlt, impl_depth_at hf hb.1 hb.2]
      simp only [Option.bind_some]
      rw [w64 (n := w) (by omega), if_pos c, if_pos (by omega), w64n hlt (by omega)]
    · rw [List.filter_cons_of_neg (by simp [c])]
      refine Ev.step (fun k => ?_) (ih (j + 1) out (by omega) (by omega))
      simp only [impl_shoals.l0]
      rw [if_pos (by omega), if_pos (by omega), if_pos (by omega), rd36 hlt, impl_depth_at hf hb.1 hb.2]
      simp only [Option.bind_some]
      rw [w64 (n := w) (by omega), if_neg c, w64n hlt (by omega)]
theorem impl_shoals_all {a b : Int} {d : Nat → Int} (hf : FitB a b d) (ho : BayIn.okBay a b d) {x y : Int} (hx : 0 ≤ x ∧ x < 16) (hy : 0 ≤ y ∧ y < 16) {c l : Int} (hc : 0 ≤ c ∧ c ≤ 60) (hl : 0 ≤ l ∧ l ≤ 5) {w : Int} (hw : -128 ≤ w ∧ w ≤ 127) (q : Int) :
    Ev (fun k => impl_shoals.f k a b d x y c l w q) (overL a b d ⟨x, y⟩ (reach d x y c + l) w) := by
  unfold impl_shoals.f
  refine Ev.bind (impl_swings hf ho hx hy hc hl w q) ?_
  have hlen : (swingL a b ⟨x, y⟩ (reach d x y c + l)).length ≤ 256 := Nat.le_trans (List.length_filter_le _ _) (allP_len ho)
  have := impl_shoals_loop hf x y c l q hw (swingL a b ⟨x, y⟩ (reach d x y c + l)) hlen (fun p hp => allP_in ho p (List.mem_filter.1 hp).1) (swingL a b ⟨x, y⟩ (reach d x y c + l)).length 0 [] (by omega) (by simp; omega)
  refine Eq.mp (congrArg (fun z => Ev _ z) ?_) this
  unfold swingL overL
  rw [List.nil_append, List.drop_zero, List.filter_filter]
  refine List.filter_congr fun p _ => ?_
  unfold inOver
  rw [Bool.and_comm]

theorem eqPlace_loop (a : List S36) (ha : a.length ≤ 9223372036854775000) (d : Nat) : ∀ (j : Nat), a.length = j + d → ∀ k, d < k → laws_eqPlaceS.l0 k a a (j : Int) = some true := by
  induction d with
  | zero =>
    intro j hj k hk
    obtain ⟨k, rfl⟩ : ∃ q, k = q + 1 := ⟨k - 1, by omega⟩
    simp only [laws_eqPlaceS.l0]
    rw [if_neg (by omega)]
  | succ d ih =>
    intro j hj k hk
    obtain ⟨k, rfl⟩ : ∃ q, k = q + 1 := ⟨k - 1, by omega⟩
    have hw : wrap64 ((j : Int) + 1) = ((j + 1 : Nat) : Int) := by unfold wrap64; omega
    simp only [laws_eqPlaceS.l0, hw, laws_eqPlace.f, if_true, Option.bind_some]
    rw [if_pos (by omega), if_pos (by omega), if_pos (by omega)]
    exact ih (j + 1) (by omega) k (by omega)
theorem eqPlace (a : List S36) (ha : a.length ≤ 9223372036854775000) : Ev (fun k => laws_eqPlaceS.f k a a) true := by
  refine ⟨a.length + 1, fun k hk => ?_⟩
  show laws_eqPlaceS.f k a a = _
  unfold laws_eqPlaceS.f
  rw [if_pos rfl]
  exact eqPlace_loop a ha a.length 0 (by omega) k (by omega)
/-- What the mark writes at number m. -/
def mkPlace (m : Int) : S36 := ⟨IntKind.i8.wrap (m), IntKind.i8.wrap (m + 1)⟩
theorem markPlace_loop (d : Nat) : ∀ (j : Nat) (x : List S36) (m : Int), x.length = j + d → x.length ≤ 1099511627776 → 0 ≤ m → m + 2 * d ≤ 1099511627776000 →
    ∃ x', (∀ k, d < k → laws_markPlaceS.l0 k x m (j : Int) = some (m + 2 * d, x')) ∧ x'.length = x.length ∧ (∀ i, i < j → x'[i]? = x[i]?) ∧ ∀ i, j ≤ i → i < x.length → x'[i]? = some (mkPlace (m + 2 * (i - j))) := by
  induction d with
  | zero =>
    intro j x m hj hx h0 hm
    refine ⟨x, fun k hk => ?_, rfl, fun _ _ => rfl, fun i h1 h2 => by omega⟩
    obtain ⟨k, rfl⟩ : ∃ q, k = q + 1 := ⟨k - 1, by omega⟩
    simp only [laws_markPlaceS.l0]
    rw [if_neg (by omega)]
    simp
  | succ d ih =>
    intro j x m hj hx h0 hm
    have hlt : j < x.length := by omega
    have hw : wrap64 ((j : Int) + 1) = ((j + 1 : Nat) : Int) := by unfold wrap64; omega
    have w1 : wrap64 (m + 1) = m + 1 := by unfold wrap64; omega
    have w2 : wrap64 (m + 2) = m + 2 := by unfold wrap64; omega
    have v1 : wrap64 (m + 1 + 1) = m + 2 := by unfold wrap64; omega
    obtain ⟨x', h1, h2, h3, h4⟩ := ih (j + 1) (x.set j (mkPlace m)) (m + 2) (by rw [List.length_set]; omega) (by rw [List.length_set]; exact hx) (by omega) (by omega)
    refine ⟨x', fun k hk => ?_, by rw [h2, List.length_set], fun i h => ?_, fun i h h' => ?_⟩
    · obtain ⟨k, rfl⟩ : ∃ q, k = q + 1 := ⟨k - 1, by omega⟩
      have e : m + 2 * ((d + 1 : Nat) : Int) = m + 2 + 2 * (d : Int) := by omega
      rw [e, ← h1 k (by omega)]
      simp only [laws_markPlaceS.l0, hw, w1, v1, Int.toNat_natCast, Option.bind_some]
      rw [if_pos (by omega), if_pos (by omega)]
      simp [rd_T36, hlt, mkPlace]
    · rw [h3 i (by omega), List.getElem?_set_ne (by omega)]
    · by_cases c : i = j
      · subst c
        rw [h3 i (by omega), List.getElem?_set_self hlt, Int.sub_self, Int.mul_zero, Int.add_zero]
      · rw [h4 i (by omega) (by rw [List.length_set]; exact h')]
        congr 2
        omega
theorem heldPlace_loop (d : Nat) : ∀ (j : Nat) (x : List S36) (m : Int), x.length = j + d → x.length ≤ 1099511627776 → 0 ≤ m → m + 2 * d ≤ 1099511627776000 → (∀ i, j ≤ i → i < x.length → x[i]? = some (mkPlace (m + 2 * (i - j)))) →
    ∀ k, d < k → laws_heldPlaceS.l0 k x m (j : Int) = some (m + 2 * d) := by
  induction d with
  | zero =>
    intro j x m hj hx h0 hm hi k hk
    obtain ⟨k, rfl⟩ : ∃ q, k = q + 1 := ⟨k - 1, by omega⟩
    simp only [laws_heldPlaceS.l0]
    rw [if_neg (by omega)]
    simp
  | succ d ih =>
    intro j x m hj hx h0 hm hi k hk
    obtain ⟨k, rfl⟩ : ∃ q, k = q + 1 := ⟨k - 1, by omega⟩
    have hlt : j < x.length := by omega
    have hw : wrap64 ((j : Int) + 1) = ((j + 1 : Nat) : Int) := by unfold wrap64; omega
    have w1 : wrap64 (m + 1) = m + 1 := by unfold wrap64; omega
    have w2 : wrap64 (m + 2) = m + 2 := by unfold wrap64; omega
    have v1 : wrap64 (m + 1 + 1) = m + 2 := by unfold wrap64; omega
    have hr : rd_T36 x (j : Int) = mkPlace m := by
      have h := hi j (Nat.le_refl _) hlt
      rw [Int.sub_self, Int.mul_zero, Int.add_zero] at h
      unfold rd_T36
      rw [Int.toNat_natCast, List.getD_eq_getElem?_getD, h]
      rfl
    have e : m + 2 * ((d + 1 : Nat) : Int) = m + 2 + 2 * (d : Int) := by omega
    rw [e, ← ih (j + 1) x (m + 2) (by omega) hx (by omega) (by omega) (fun i h h' => by rw [hi i (by omega) h']; congr 2; omega) k (by omega)]
    simp only [laws_heldPlaceS.l0, hw, w1, v1, hr]
    rw [if_pos (by omega), if_pos (by omega)]
    simp [mkPlace]
/-- A slice is marked, and holds the marks. -/
theorem markPlace (x : List S36) (hx : x.length ≤ 1048576) : ∃ m x', Ev (fun k => laws_markPlaceS.f k x 1) (m, x') ∧ 0 ≤ m ∧ Ev (fun k => laws_heldPlaceS.f k x' 1) m := by
  obtain ⟨x', h1, h2, h3, h4⟩ := markPlace_loop x.length 0 x 1 (by omega) (by omega) (by omega) (by omega)
  refine ⟨1 + 2 * x.length, x', ⟨x.length + 1, fun k hk => h1 k (by omega)⟩, by omega, ⟨x.length + 1, fun k hk => ?_⟩⟩
  exact heldPlace_loop x.length 0 x' 1 (by omega) (by omega) (by omega) (by omega) (fun i h h' => h4 i h (by omega)) k (by omega)

def FnExactShoalsOfPure : Prop := ∀ (a0_0 a0_1 : Int) (a0_2 : Nat → Int) (a1_0 : Int) (a1_1 : Int) (a1_2 : Int) (a1_3 : Int) (a1_4 : Int) (a1_5 : Int), (Lit.int .i8 a0_0).wf = true → (Lit.int .i8 a0_1).wf = true → (∀ i, i < 256 → (Lit.int .i8 (a0_2 i)).wf = true) → (Lit.int .i8 a1_0).wf = true → (Lit.int .i8 a1_1).wf = true → (Lit.int .i8 a1_2).wf = true → (Lit.int .i8 a1_3).wf = true → (Lit.int .i8 a1_4).wf = true → (Lit.int .i8 a1_5).wf = true → ∃ k, laws_FnExactShoalsOf.f k a0_0 a0_1 a0_2 a1_0 a1_1 a1_2 a1_3 a1_4 a1_5 = some true
theorem FnExactShoalsOf : FnExactShoalsOfPure := by
  intro a b d x y c l w q ha hb hd hx hy hc hl hw hq
  refine Ev.rounds ?_
  have hf := fitB ha hb hd
  have ht : FitT x y c l w q := ⟨i8_of hx, i8_of hy, i8_of hc, i8_of hl, i8_of hw, i8_of hq⟩
  have ew : wrap64 w = w := w64 (by have := ht.2.2.2.2.1; omega)
  have s := spec_swing hf ht
  have i := impl_code hf x y c l w q
  obtain ⟨r, hr, hs, hi⟩ : ∃ r : List S36, r.length ≤ 256 ∧ Ev (fun k => spec_ShoalsOf.f k a b d x y c l w q) (r, codeT a b d x y c l w q) ∧ Ev (fun k => impl_ShoalsOf.f k a b d x y c l w q) (r, codeT a b d x y c l w q) := by
    unfold spec_ShoalsOf.f impl_ShoalsOf.f
    by_cases c0 : codeT a b d x y c l w q = 0
    · obtain ⟨ho, hk, hr⟩ := codeT_ok c0
      obtain ⟨h1, h2, h3, h4⟩ := boat_in ho hk
      have hrb := reach_bd d x y c
      refine ⟨overL a b d ⟨x, y⟩ (reach d x y c + l) w, Nat.le_trans (List.length_filter_le _ _) (allP_len ho), Ev.bind s ?_, Ev.bind i ?_⟩
      · simp only [if_pos c0, ew]
        rw [c0]
        exact Ev.bind (spec_over (q := ⟨x, y⟩) hf ho ⟨h1, h2⟩ (by omega)) (Ev.now _)
      · simp only [if_pos c0]
        rw [c0]
        exact Ev.bind (impl_shoals_all hf ho h1 h2 h3 h4 (by have := ht.2.2.2.2.1; omega) q) (Ev.now _)
    · refine ⟨[], by simp, Ev.bind s ?_, Ev.bind i ?_⟩
      · simp only [if_neg c0]
        exact Ev.now _
      · simp only [if_neg c0]
        exact Ev.now _
  have hqq : (codeT a b d x y c l w q != codeT a b d x y c l w q) = false := by simp
  obtain ⟨m, x', e1, p1, o1⟩ := markPlace r (by omega)
  have er := eqPlace r (by omega)
  simp only [laws_FnExactShoalsOf.f, laws_toBay.f, laws_toBoat.f, laws_toPlace.f, Option.bind_some]
  refine Ev.bind hs (Ev.bind hi (Ev.bind er ?_))
  simp only [if_true, hqq]
  refine Ev.step (fun k => by simp only [laws_FnExactShoalsOf.j0, Bool.false_eq_true, if_false]; rfl) (Ev.bind e1 (Ev.bind o1 ?_))
  simp only [if_neg (show ¬ m < 0 from by omega), if_true, laws_toBay.f, laws_toBoat.f, laws_toPlace.f, Option.bind_some]
  refine Ev.bind hi (Ev.bind er ?_)
  simp only [if_true, hqq]
  refine Ev.step (fun k => by simp only [laws_FnExactShoalsOf.j1, Bool.false_eq_true, if_false]; rfl) (Ev.bind o1 ?_)
  simp only [if_neg (show ¬ m < 0 from by omega), if_true]
  exact Ev.now _

end Go.Proofs.Ytcollbifdfhfoaa.Pure
