/- DeepestPlace of the program returns what the reference's returns, for all bays. Conditions: none. -/
import Derived.Test.YtcollbifdfhfoaaPFnExactDeepestPlacex2
namespace Go.Proofs.Ytcollbifdfhfoaa.Pure
open Go.RowKit Go.Proofs.Ytcollbifdfhfoaa.PFnExactDeepestPlace Go.Proofs.YtcollbifdfhfoaaW.PrintWords Go.Proofs.YtcollbifdfhfoaaW.PrintLast
set_option linter.unusedVariables false
set_option linter.unusedSimpArgs false

theorem i8_of {n : Int} (h : (Lit.int .i8 n).wf = true) : -128 ≤ n ∧ n ≤ 127 := by
  simp [Lit.wf, IntKind.min, IntKind.max, IntKind.signed, IntKind.bits] at h
  omega
/-- What is known of a bay that came in. -/
def FitB (a b : Int) (d : Nat → Int) : Prop := (-128 ≤ a ∧ a ≤ 127) ∧ (-128 ≤ b ∧ b ≤ 127) ∧ ∀ i, i < 256 → -128 ≤ d i ∧ d i ≤ 127
theorem fitB {a b : Int} {d : Nat → Int} (ha : (Lit.int .i8 a).wf = true) (hb : (Lit.int .i8 b).wf = true) (hd : ∀ i, i < 256 → (Lit.int .i8 (d i)).wf = true) : FitB a b d := ⟨i8_of ha, i8_of hb, fun i hi => i8_of (hd i hi)⟩
theorem i8w (n : Int) (h : 0 ≤ n) (h2 : n ≤ 127) : IntKind.i8.wrap n = n := Bay.i8_wrap_le n h h2
/-- It answers whether P holds, and hands the bay back. -/
def EvR (a b : Int) (d : Nat → Int) (f : Nat → Option (Bool × Int × Int × (Nat → Int))) (P : Prop) : Prop := ∃ r : Bool, Ev f (r, a, b, d) ∧ (r = true ↔ P)
theorem EvR.step {a b : Int} {d : Nat → Int} {f g : Nat → Option (Bool × Int × Int × (Nat → Int))} {P : Prop} (h : ∀ k, g (k + 1) = f k) (k : EvR a b d f P) : EvR a b d g P := by
  obtain ⟨r, h1, h2⟩ := k
  exact ⟨r, Ev.step h h1, h2⟩
theorem EvR.iff {a b : Int} {d : Nat → Int} {f : Nat → Option (Bool × Int × Int × (Nat → Int))} {P Q : Prop} (k : EvR a b d f P) (e : P ↔ Q) : EvR a b d f Q := by
  obtain ⟨r, h1, h2⟩ := k
  exact ⟨r, h1, h2.trans e⟩
theorem EvR.no {a b : Int} {d : Nat → Int} {P : Prop} (h : ¬ P) : EvR a b d (fun _ => some (false, a, b, d)) P := ⟨false, Ev.now _, by simp [h]⟩
theorem EvR.yes {a b : Int} {d : Nat → Int} {P : Prop} (h : P) : EvR a b d (fun _ => some (true, a, b, d)) P := ⟨true, Ev.now _, by simp [h]⟩
theorem in_some (a b c : Int) : spec_l00In.f a b c = some (decide (b ≤ a ∧ a ≤ c)) := by
  unfold spec_l00In.f
  by_cases h : a ≥ b
  · rw [if_pos h]; simp [h]
  · rw [if_neg h, decide_eq_false (fun q => h q.1)]
theorem w64 {n : Int} (h : -9223372036854775808 ≤ n ∧ n ≤ 9223372036854775807) : wrap64 n = n := by unfold wrap64; omega
theorem is_some {a b : Int} {d : Nat → Int} (hf : FitB a b d) (x y : Int) (hx : -128 ≤ x ∧ x ≤ 127) (hy : -128 ≤ y ∧ y ≤ 127) : spec_l01Is.f a b d x y = some (decide ((0 ≤ x ∧ x < a) ∧ (0 ≤ y ∧ y < b)), a, b, d) := by
  unfold spec_l01Is.f
  have := hf.1
  have := hf.2.1
  rw [w64 (n := x) (by omega), w64 (n := y) (by omega), w64 (n := a) (by omega), w64 (n := b) (by omega), w64 (n := a - 1) (by omega), w64 (n := b - 1) (by omega), in_some, in_some]
  simp only [Option.bind_some]
  by_cases h1 : 0 ≤ x ∧ x ≤ a - 1
  · rw [decide_eq_true h1, if_pos rfl]
    congr 2
    rw [decide_eq_decide]
    omega
  · rw [decide_eq_false h1, if_neg (by decide)]
    congr 2
    rw [eq_comm, decide_eq_false_iff_not]
    omega
theorem okD_cell {a b : Int} {d : Nat → Int} (hf : FitB a b d) (y x : Nat) (hy : y < 16) (hx : x < 16) {f : Nat → Option (Bool × Int × Int × (Nat → Int))} {P : Prop} (k : EvR a b d f P) :
    EvR a b d (fun g => (spec_l00In.f (wrap64 (d (16 * y + x))) 0 30).bind fun t => (if t = true then (if d (16 * y + x) = 0 then f g else ((spec_l01Is.f a b d x y).bind fun q => (if q.1 = true then f g else (some (false, q.2.1, q.2.2.1, q.2.2.2))))) else (some (false, a, b, d)))) (BayIn.okD a b y x (d (16 * y + x)) ∧ P) := by
  have hd := hf.2.2 (16 * y + x) (by omega)
  rw [w64 (by omega)]
  simp only [in_some, is_some hf x y (by omega) (by omega), Option.bind_some]
  unfold BayIn.okD
  by_cases h1 : 0 ≤ d (16 * y + x) ∧ d (16 * y + x) ≤ 30
  · simp only [decide_eq_true h1, if_true]
    by_cases h2 : d (16 * y + x) = 0
    · simp only [if_pos h2]
      exact k.iff ⟨fun h => ⟨⟨h1.1, h1.2, fun q => absurd h2 q⟩, h⟩, fun h => h.2⟩
    · simp only [if_neg h2]
      by_cases h3 : (0 ≤ (x : Int) ∧ (x : Int) < a) ∧ (0 ≤ (y : Int) ∧ (y : Int) < b)
      · simp only [decide_eq_true h3, if_true]
        exact k.iff ⟨fun h => ⟨⟨h1.1, h1.2, fun _ => ⟨h3.1.2, h3.2.2⟩⟩, h⟩, fun h => h.2⟩
      · simp only [decide_eq_false h3, Bool.false_eq_true, if_false]
        exact EvR.no (fun h => h3 (by have := h.1.2.2 h2; omega))
  · simp only [decide_eq_false h1, Bool.false_eq_true, if_false]
    exact EvR.no (fun h => h1 ⟨h.1.1, h.1.2.1⟩)
theorem bay_row {a b : Int} {d : Nat → Int} (hf : FitB a b d) (y : Nat) (hy : y < 16) {P : Prop} (k : EvR a b d (fun g => spec_l01Bay.l0 g ((y + 1 : Nat) : Int) a b d) P) (n : Nat) : ∀ x : Nat, 16 = x + n →
    EvR a b d (fun g => spec_l01Bay.l1 g (y : Int) (x : Int) a b d) ((∀ j, x ≤ j → j < 16 → BayIn.okD a b y j (d (16 * y + j))) ∧ P) := by
  induction n with
  | zero =>
    intro x hx
    refine (EvR.step (fun g => ?_) k).iff ⟨fun h => ⟨fun j h1 h2 => by omega, h⟩, fun h => h.2⟩
    simp only [spec_l01Bay.l1]
    rw [if_neg (by omega), i8w _ (by omega) (by omega)]
    rfl
  | succ n ih =>
    intro x hx
    refine (EvR.step (fun g => ?_) (okD_cell hf y x hy (by omega) (ih (x + 1) (by omega)))).iff ?_
    · simp only [spec_l01Bay.l1]
      rw [if_pos (by omega), if_pos (by omega), if_pos (by omega), if_pos (by omega), i8w _ (by omega) (by omega), Int.toNat_natCast, Int.toNat_natCast]
      rw [is_some hf x y (by omega) (by omega)]
      rfl
    · refine ⟨fun h => ⟨fun j h1 h2 => ?_, h.2.2⟩, fun h => ⟨h.1 x (Nat.le_refl _) (by omega), fun j h1 h2 => h.1 j (by omega) h2, h.2⟩⟩
      by_cases e : j = x
      · rw [e]; exact h.1
      · exact h.2.1 j (by omega) h2
theorem bay_rows {a b : Int} {d : Nat → Int} (hf : FitB a b d) (n : Nat) : ∀ y : Nat, 16 = y + n → EvR a b d (fun g => spec_l01Bay.l0 g (y : Int) a b d) (∀ j, y ≤ j → j < 16 → ∀ x, x < 16 → BayIn.okD a b j x (d (16 * j + x))) := by
  induction n with
  | zero =>
    intro y hy
    refine EvR.step (fun g => ?_) (EvR.yes (fun j h1 h2 => by omega))
    simp only [spec_l01Bay.l0]
    rw [if_neg (by omega)]
  | succ n ih =>
    intro y hy
    refine (EvR.step (fun g => ?_) (bay_row hf y (by omega) (ih (y + 1) (by omega)) 16 0 (by omega))).iff ?_
    · simp only [spec_l01Bay.l0]
      rw [if_pos (by omega)]
      rfl
    · refine ⟨fun h j h1 h2 x hx => ?_, fun h => ⟨fun x _ hx => h y (Nat.le_refl _) (by omega) x hx, fun j h1 h2 => h j (by omega) h2⟩⟩
      by_cases e : j = y
      · rw [e]; exact h.1 x (by omega) hx
      · exact h.2 j (by omega) h2 x hx
/-- The reference's word on a bay. -/
theorem spec_bay {a b : Int} {d : Nat → Int} (hf : FitB a b d) : EvR a b d (fun g => spec_l01Bay.f g a b d) (BayIn.okBay a b d) := by
  have h1 := hf.1
  have h2 := hf.2.1
  have e : ∀ g, spec_l01Bay.f g a b d = spec_l01Bay.j0 g (! decide ((1 ≤ a ∧ a ≤ 16) ∧ (1 ≤ b ∧ b ≤ 16))) a b d := by
    intro g
    unfold spec_l01Bay.f
    rw [w64 (n := a) (by omega), w64 (n := b) (by omega), in_some, in_some]
    simp only [Option.bind_some]
    by_cases c1 : 1 ≤ a ∧ a ≤ 16
    · by_cases c2 : 1 ≤ b ∧ b ≤ 16 <;> simp [c1, c2]
    · simp [c1]
  obtain ⟨r, k1, k2⟩ := bay_rows hf 16 0 (by omega)
  unfold BayIn.okBay
  by_cases c : (1 ≤ a ∧ a ≤ 16) ∧ (1 ≤ b ∧ b ≤ 16)
  · rw [decide_eq_true c] at e
    refine ⟨r, Ev.congr e (Ev.step (fun g => by simp only [spec_l01Bay.j0, Bool.not_true, Bool.false_eq_true, if_false]; rfl) k1), k2.trans ?_⟩
    exact ⟨fun h => ⟨c.1.1, c.1.2, c.2.1, c.2.2, fun y hy => h y (Nat.zero_le _) hy⟩, fun h j _ hj => h.2.2.2.2 j hj⟩
  · rw [decide_eq_false c] at e
    refine ⟨false, Ev.congr e (Ev.step (f := fun _ => some (false, a, b, d)) (fun g => by simp only [spec_l01Bay.j0, Bool.not_false, if_true]) (Ev.now _)), ?_⟩
    simp only [Bool.false_eq_true, false_iff]
    intro h
    exact c ⟨⟨h.1, h.2.1⟩, h.2.2.1, h.2.2.2.1⟩

def dep (d : Nat → Int) (x y : Int) : Int := d (16 * y.toNat + x.toNat)
theorem dep_bd {a b : Int} {d : Nat → Int} (hf : FitB a b d) {x y : Int} (hx : 0 ≤ x ∧ x < 16) (hy : 0 ≤ y ∧ y < 16) : -128 ≤ dep d x y ∧ dep d x y ≤ 127 := hf.2.2 _ (by omega)
theorem spec_depth {a b : Int} {d : Nat → Int} (hf : FitB a b d) {x y : Int} (hx : 0 ≤ x ∧ x < 16) (hy : 0 ≤ y ∧ y < 16) : spec_l01Depth.f a b d x y = some (dep d x y, a, b, d) := by
  have := dep_bd hf hx hy
  unfold spec_l01Depth.f
  rw [if_pos hy.1, if_pos hy.2, if_pos hx.1, if_pos hx.2, w64 (n := d (16 * y.toNat + x.toNat)) (by unfold dep at this; omega)]
  rfl
theorem impl_depth_at {a b : Int} {d : Nat → Int} (hf : FitB a b d) {x y : Int} (hx : 0 ≤ x ∧ x < 16) (hy : 0 ≤ y ∧ y < 16) : impl_depth.f a b d x y = some (dep d x y) := by
  have := dep_bd hf hx hy
  unfold impl_depth.f
  rw [if_pos hy.1, if_pos hy.2, if_pos hx.1, if_pos hx.2, w64 (n := d (16 * y.toNat + x.toNat)) (by unfold dep at this; omega)]
  rfl
theorem w64n {j : Nat} {n : Nat} (h : j < n) (hn : n ≤ 9223372036854775807) : wrap64 ((j : Int) + 1) = ((j + 1 : Nat) : Int) := by unfold wrap64; omega
theorem rd36 {xs : List S36} {j : Nat} (h : j < xs.length) : rd_T36 xs (j : Int) = xs[j] := by
  unfold rd_T36
  rw [Int.toNat_natCast, List.getD_eq_getElem?_getD, List.getElem?_eq_getElem h]
  rfl
def rowP (y : Int) : Nat → Int → List S36
  | 0, _ => []
  | n + 1, x => ⟨x, y⟩ :: rowP y n (x + 1)
def allF (a : Nat) : Nat → Int → List S36
  | 0, _ => []
  | n + 1, y => rowP y a 0 ++ allF a n (y + 1)
def allP (a b : Int) : List S36 := allF a.toNat b.toNat 0
theorem rowP_length (y : Int) (n : Nat) : ∀ x, (rowP y n x).length = n := by
  induction n with
  | zero => intro x; rfl
  | succ n ih => intro x; simp [rowP, ih]
theorem allF_length (a : Nat) (n : Nat) : ∀ y, (allF a n y).length = a * n := by
  induction n with
  | zero => intro y; rfl
  | succ n ih => intro y; simp [allF, ih, rowP_length, Nat.mul_succ, Nat.add_comm]
theorem mem_rowP (y : Int) (p : S36) (n : Nat) : ∀ x, p ∈ rowP y n x ↔ (x ≤ p.f0 ∧ p.f0 < x + n) ∧ p.f1 = y := by
  induction n with
  | zero => intro x; simp [rowP]; omega
  | succ n ih =>
    intro x
    simp only [rowP, List.mem_cons, ih]
    constructor
    · rintro (rfl | h)
      · exact ⟨⟨Int.le_refl _, show x < x + ((n + 1 : Nat) : Int) by omega⟩, rfl⟩
      · omega
    · intro h
      by_cases e : p.f0 = x
      · exact .inl (by cases p; simp only [] at e h; rw [e, h.2])
      · exact .inr (by omega)
theorem mem_allF (a : Nat) (p : S36) (n : Nat) : ∀ y, p ∈ allF a n y ↔ (0 ≤ p.f0 ∧ p.f0 < a) ∧ y ≤ p.f1 ∧ p.f1 < y + n := by
  induction n with
  | zero => intro y; simp only [allF, List.not_mem_nil, false_iff]; omega
  | succ n ih =>
    intro y
    simp only [allF, List.mem_append, ih, mem_rowP]
    omega
theorem mem_allP {a b : Int} (ha : 0 ≤ a) (hb : 0 ≤ b) (p : S36) : p ∈ allP a b ↔ (0 ≤ p.f0 ∧ p.f0 < a) ∧ 0 ≤ p.f1 ∧ p.f1 < b := by
  unfold allP
  rw [mem_allF]
  omega
theorem allP_length {a b : Int} (ha : a ≤ 16) (hb : b ≤ 16) : (allP a b).length ≤ 256 := by
  unfold allP
  rw [allF_length]
  exact Nat.le_trans (Nat.mul_le_mul (show a.toNat ≤ 16 by omega) (show b.toNat ≤ 16 by omega)) (by decide)
theorem spec_row {a b : Int} {d : Nat → Int} (ha : a ≤ 16) {y : Int} {r : List S36 × Int × Int × (Nat → Int)} (n : Nat) : ∀ (x : Int) (out : List S36), 0 ≤ x → a = x + n → out.length + n ≤ 100000 →
    Ev (fun k => spec_l01All.l0 k (out ++ rowP y n x) (IntKind.i8.wrap (y + 1)) a b d) r → Ev (fun k => spec_l01All.l1 k out y x a b d) r := by
  induction n with
  | zero =>
    intro x out h0 hx ho h
    refine Ev.step (fun k => ?_) h
    simp only [spec_l01All.l1]
    rw [if_neg (by omega)]
    simp [rowP]
  | succ n ih =>
    intro x out h0 hx ho h
    refine Ev.step (fun k => ?_) (ih (x + 1) (out ++ [⟨x, y⟩]) (by omega) (by omega) (by simp; omega) (by simp only [List.append_assoc, List.singleton_append]; exact h))
    simp only [spec_l01All.l1]
    rw [if_pos (by omega), if_pos (by omega), i8w _ (by omega) (by omega)]
theorem spec_all_loop {a b : Int} {d : Nat → Int} (ha : 0 ≤ a ∧ a ≤ 16) (hb : b ≤ 16) (n : Nat) : ∀ (y : Int) (out : List S36), 0 ≤ y → b = y + n → out.length + 16 * n ≤ 1000 →
    Ev (fun k => spec_l01All.l0 k out y a b d) (out ++ allF a.toNat n y, a, b, d) := by
  induction n with
  | zero =>
    intro y out h0 hy ho
    refine Ev.step (f := fun _ => some (out, a, b, d)) (fun k => ?_) (by simp only [allF, List.append_nil]; exact Ev.now _)
    simp only [spec_l01All.l0]
    rw [if_neg (by omega)]
  | succ n ih =>
    intro y out h0 hy ho
    refine Ev.step (f := fun k => spec_l01All.l1 k out y 0 a b d) (fun k => ?_) (spec_row ha.2 a.toNat 0 out (by omega) (by omega) (by omega) ?_)
    · simp only [spec_l01All.l0]
      rw [if_pos (by omega)]
    · rw [i8w _ (by omega) (by omega)]
      have := ih (y + 1) (out ++ rowP y a.toNat 0) (by omega) (by omega) (by rw [List.length_append, rowP_length]; omega)
      rw [List.append_assoc] at this
      exact this
theorem spec_all {a b : Int} {d : Nat → Int} (ho : BayIn.okBay a b d) : Ev (fun k => spec_l01All.f k a b d) (allP a b, a, b, d) := by
  have h1 := ho.1
  have h2 := ho.2.1
  have h3 := ho.2.2.1
  have h4 := ho.2.2.2.1
  unfold spec_l01All.f
  exact spec_all_loop ⟨by omega, h2⟩ h4 b.toNat 0 [] (by omega) (by omega) (by simp; omega)
theorem impl_row {a b : Int} {d : Nat → Int} (ha : a ≤ 16) {y : Int} {r : List S36} (n : Nat) : ∀ (x : Int) (out : List S36), 0 ≤ x → a = x + n → out.length + n ≤ 100000 →
    Ev (fun k => impl_allPlaces.l0 k (out ++ rowP y n x) b (IntKind.i8.wrap (y + 1)) a b d) r → Ev (fun k => impl_allPlaces.l1 k out y b y a x a b d) r := by
  induction n with
  | zero =>
    intro x out h0 hx ho h
    refine Ev.step (fun k => ?_) h
    simp only [impl_allPlaces.l1]
    rw [if_neg (by omega)]
    simp [rowP]
  | succ n ih =>
    intro x out h0 hx ho h
    refine Ev.step (fun k => ?_) (ih (x + 1) (out ++ [⟨x, y⟩]) (by omega) (by omega) (by simp; omega) (by simp only [List.append_assoc, List.singleton_append]; exact h))
    simp only [impl_allPlaces.l1]
    rw [if_pos (by omega), if_pos (by omega), i8w _ (by omega) (by omega)]
theorem impl_all_loop {a b : Int} {d : Nat → Int} (ha : 0 ≤ a ∧ a ≤ 16) (hb : b ≤ 16) (n : Nat) : ∀ (y : Int) (out : List S36), 0 ≤ y → b = y + n → out.length + 16 * n ≤ 1000 →
    Ev (fun k => impl_allPlaces.l0 k out b y a b d) (out ++ allF a.toNat n y) := by
  induction n with
  | zero =>
    intro y out h0 hy ho
    refine Ev.step (f := fun _ => some out) (fun k => ?_) (by simp only [allF, List.append_nil]; exact Ev.now _)
    simp only [impl_allPlaces.l0]
    rw [if_neg (by omega)]
  | succ n ih =>
    intro y out h0 hy ho
    refine Ev.step (f := fun k => impl_allPlaces.l1 k out y b y a 0 a b d) (fun k => ?_) (impl_row ha.2 a.toNat 0 out (by omega) (by omega) (by omega) ?_)
    · simp only [impl_allPlaces.l0]
      rw [if_pos (by omega)]
    · rw [i8w _ (by omega) (by omega)]
      have := ih (y + 1) (out ++ rowP y a.toNat 0) (by omega) (by omega) (by rw [List.length_append, rowP_length]; omega)
      rw [List.append_assoc] at this
      exact this
theorem impl_all {a b : Int} {d : Nat → Int} (ho : BayIn.okBay a b d) : Ev (fun k => impl_allPlaces.f k a b d) (allP a b) := by
  have h1 := ho.1
  have h2 := ho.2.1
  have h3 := ho.2.2.1
  have h4 := ho.2.2.2.1
  unfold impl_allPlaces.f
  exact impl_all_loop ⟨by omega, h2⟩ h4 b.toNat 0 [] (by omega) (by omega) (by simp; omega)
theorem allP_in {a b : Int} {d : Nat → Int} (ho : BayIn.okBay a b d) : ∀ p ∈ allP a b, (0 ≤ p.f0 ∧ p.f0 < 16) ∧ (0 ≤ p.f1 ∧ p.f1 < 16) := by
  have h1 := ho.1
  have h2 := ho.2.1
  have h3 := ho.2.2.1
  have h4 := ho.2.2.2.1
  intro p hp
  rw [mem_allP (by omega) (by omega)] at hp
  omega
theorem allP_len {a b : Int} {d : Nat → Int} (ho : BayIn.okBay a b d) : (allP a b).length ≤ 256 := allP_length ho.2.1 ho.2.2.2.1

def deepF (d : Nat → Int) : List S36 → Int → Int → Int → Int × Int × Int × Int
  | [], m, x, y => if m = 0 then (0, 0, 0, 6) else (x, y, m, 0)
  | p :: l, m, x, y => if dep d p.f0 p.f1 > m then deepF d l (dep d p.f0 p.f1) p.f0 p.f1 else deepF d l m x y
theorem spec_deep_loop {a b : Int} {d : Nat → Int} (hf : FitB a b d) (l : List S36) (hl : l.length ≤ 256) (hp : ∀ p ∈ l, (0 ≤ p.f0 ∧ p.f0 < 16) ∧ (0 ≤ p.f1 ∧ p.f1 < 16)) (n : Nat) : ∀ (j : Nat) (m x y : Int), l.length = j + n →
    Ev (fun k => spec_DeepestPlace.l0 k m l (j : Int) a b d x y) (deepF d (l.drop j) m x y) := by
  induction n with
  | zero =>
    intro j m x y hj
    rw [List.drop_eq_nil_of_le (by omega)]
    refine Ev.step (f := fun _ => some (deepF d [] m x y)) (fun k => ?_) (Ev.now _)
    simp only [spec_DeepestPlace.l0, deepF]
    rw [if_neg (by omega)]
    split <;> rfl
  | succ n ih =>
    intro j m x y hj
    have hlt : j < l.length := by omega
    rw [List.drop_eq_getElem_cons hlt]
    have hb := hp _ (List.getElem_mem hlt)
    simp only [deepF]
    by_cases c : dep d l[j].f0 l[j].f1 > m
    · rw [if_pos c]
      refine Ev.step (fun k => ?_) (ih (j + 1) _ _ _ (by omega))
      simp only [spec_DeepestPlace.l0]
      rw [if_pos (by omega), if_pos (by omega), rd36 hlt, spec_depth hf hb.1 hb.2]
      simp only [Option.bind_some]
      rw [if_pos c, w64n hlt (by omega)]
    · rw [if_neg c]
      refine Ev.step (fun k => ?_) (ih (j + 1) _ _ _ (by omega))
      simp only [spec_DeepestPlace.l0]
      rw [if_pos (by omega), if_pos (by omega), rd36 hlt, spec_depth hf hb.1 hb.2]
      simp only [Option.bind_some]
      rw [if_neg c, w64n hlt (by omega)]
theorem impl_deep_loop {a b : Int} {d : Nat → Int} (hf : FitB a b d) (l : List S36) (hl : l.length ≤ 256) (hp : ∀ p ∈ l, (0 ≤ p.f0 ∧ p.f0 < 16) ∧ (0 ≤ p.f1 ∧ p.f1 < 16)) (n : Nat) : ∀ (j : Nat) (m x y : Int), l.length = j + n →
    Ev (fun k => impl_DeepestPlace.l0 k m l (l.length : Int) (j : Int) a b d x y) (deepF d (l.drop j) m x y) := by
  induction n with
  | zero =>
    intro j m x y hj
    rw [List.drop_eq_nil_of_le (by omega)]
    refine Ev.step (f := fun _ => some (deepF d [] m x y)) (fun k => ?_) (Ev.now _)
    simp only [impl_DeepestPlace.l0, deepF]
    rw [if_neg (by omega)]
    split <;> rfl
  | succ n ih =>
    intro j m x y hj
    have hlt : j < l.length := by omega
    rw [List.drop_eq_getElem_cons hlt]
    have hb := hp _ (List.getElem_mem hlt)
    simp only [deepF]
    by_cases c : dep d l[j].f0 l[j].f1 > m
    · rw [if_pos c]
      refine Ev.step (fun k => ?_) (ih (j + 1) _ _ _ (by omega))
      simp only [impl_DeepestPlace.l0]
      rw [if_pos (by omega), if_pos (by omega), if_pos (by omega), rd36 hlt, impl_depth_at hf hb.1 hb.2]
      simp only [Option.bind_some]
      rw [if_pos c, w64n hlt (by omega)]
    · rw [if_neg c]
      refine Ev.step (fun k => ?_) (ih (j + 1) _ _ _ (by omega))
      simp only [impl_DeepestPlace.l0]
      rw [if_pos (by omega), if_pos (by omega), if_pos (by omega), rd36 hlt, impl_depth_at hf hb.1 hb.2]
      simp only [Option.bind_some]
      rw [if_neg c, w64n hlt (by omega)]
def deepT (a b : Int) (d : Nat → Int) : Int × Int × Int × Int := if BayIn.okBay a b d then deepF d (allP a b) 0 0 0 else (0, 0, 0, 1)
theorem spec_deep {a b : Int} {d : Nat → Int} (hf : FitB a b d) : Ev (fun k => spec_DeepestPlace.f k a b d) (deepT a b d) := by
  unfold spec_DeepestPlace.f deepT
  obtain ⟨r, k1, k2⟩ := spec_bay hf
  refine Ev.bind k1 ?_
  by_cases ho : BayIn.okBay a b d
  · obtain rfl := k2.2 ho
    simp only [if_true, if_pos ho]
    refine Ev.bind (spec_all ho) ?_
    exact spec_deep_loop hf (allP a b) (allP_len ho) (allP_in ho) (allP a b).length 0 0 0 0 (by omega)
  · have : r = false := by cases r with | false => rfl | true => exact absurd (k2.1 rfl) ho
    subst this
    simp only [Bool.false_eq_true, if_false, if_neg ho]
    exact Ev.now _
theorem impl_deep {a b : Int} {d : Nat → Int} (hf : FitB a b d) : Ev (fun k => impl_DeepestPlace.f k a b d) (deepT a b d) := by
  unfold impl_DeepestPlace.f impl_ValidBay.f deepT
  simp only [Option.bind_some]
  by_cases ho : BayIn.okBay a b d
  · simp only [decide_eq_true ho, if_true, if_pos ho]
    refine Ev.bind (impl_all ho) ?_
    exact impl_deep_loop hf (allP a b) (allP_len ho) (allP_in ho) (allP a b).length 0 0 0 0 (by omega)
  · simp only [decide_eq_false ho, Bool.false_eq_true, if_false, if_neg ho]
    exact Ev.now _

def FnExactDeepestPlacePure : Prop := ∀ (a0_0 a0_1 : Int) (a0_2 : Nat → Int), (Lit.int .i8 a0_0).wf = true → (Lit.int .i8 a0_1).wf = true → (∀ i, i < 256 → (Lit.int .i8 (a0_2 i)).wf = true) → ∃ k, laws_FnExactDeepestPlace.f k a0_0 a0_1 a0_2 = some true
theorem FnExactDeepestPlace : FnExactDeepestPlacePure := by
  intro a b d ha hb hd
  refine Ev.rounds ?_
  have hf := fitB ha hb hd
  unfold laws_FnExactDeepestPlace.f laws_toBay.f laws_eqPlace.f
  simp only [Option.bind_some]
  refine Ev.bind (spec_deep hf) (Ev.bind (impl_deep hf) ?_)
  simp only [if_true, Option.bind_some]
  exact Ev.now _

end Go.Proofs.Ytcollbifdfhfoaa.Pure
