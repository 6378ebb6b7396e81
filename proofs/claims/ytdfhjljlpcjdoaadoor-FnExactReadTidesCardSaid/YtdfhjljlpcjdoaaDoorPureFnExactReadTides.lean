/- ReadTides of the program returns what the reference's returns, for all texts. Conditions: none. -/
import Derived.Test.YtdfhjljlpcjdoaaDoorPFnExactReadTidesx6
namespace Go.Proofs.YtdfhjljlpcjdoaaDoor.Pure
open Go.RowKit Go.Proofs.YtdfhjljlpcjdoaaDoor.PFnExactReadTides Go.Proofs.YtdfhjljlpcjdoaaDoorW.PrintWords Go.Proofs.YtdfhjljlpcjdoaaDoorW.PrintLast
set_option linter.unusedVariables false
set_option linter.unusedSimpArgs false

/-- From some number of rounds on it answers a truth value: whether P holds. -/
def EvB (g : Nat → Option Bool) (P : Prop) : Prop := ∃ b, Ev g b ∧ (b = true ↔ P)
theorem EvB.iff {g : Nat → Option Bool} {P Q : Prop} (h : EvB g P) (e : P ↔ Q) : EvB g Q := by
  obtain ⟨b, h1, h2⟩ := h
  exact ⟨b, h1, h2.trans e⟩
theorem EvB.step {g f : Nat → Option Bool} {P : Prop} (h : ∀ k, g (k + 1) = f k) (k : EvB f P) : EvB g P := by
  obtain ⟨b, h1, h2⟩ := k
  exact ⟨b, Ev.step h h1, h2⟩
theorem EvB.congr {g f : Nat → Option Bool} {P : Prop} (h : ∀ k, g k = f k) (k : EvB f P) : EvB g P := by
  obtain ⟨b, h1, h2⟩ := k
  exact ⟨b, Ev.congr h h1, h2⟩
theorem EvB.yes {P : Prop} (h : P) : EvB (fun _ => some true) P := ⟨true, Ev.now _, by simp [h]⟩
theorem EvB.no {P : Prop} (h : ¬ P) : EvB (fun _ => some false) P := ⟨false, Ev.now _, by simp [h]⟩
theorem EvB.bind {α : Type} {g : Nat → Option α} {f : Nat → α → Option Bool} {a : α} {P : Prop} (h : Ev g a) (k : EvB (fun n => f n a) P) : EvB (fun n => (g n).bind (f n)) P := by
  obtain ⟨b, h1, h2⟩ := k
  exact ⟨b, Ev.bind h h1, h2⟩
theorem EvB.same {g f : Nat → Option Bool} {P : Prop} (h : EvB g P) (k : EvB f P) : ∃ b, Ev g b ∧ Ev f b ∧ (b = true ↔ P) := by
  obtain ⟨b, h1, h2⟩ := h
  obtain ⟨c, h3, h4⟩ := k
  have e : c = b := by rw [Bool.eq_iff_iff, h4, h2]
  subst e
  exact ⟨c, h1, h3, h2⟩

theorem rdWater {xs : List S47} {j : Nat} (h : j < xs.length) : rd_T47 xs (j : Int) = xs[j] := by
  unfold rd_T47
  rw [Int.toNat_natCast, List.getD_eq_getElem?_getD, List.getElem?_eq_getElem h]
  rfl
theorem eqWater_loop (a : List S47) (ha : a.length ≤ 9223372036854775000) (d : Nat) : ∀ (j : Nat), a.length = j + d → ∀ k, d < k → laws_eqWaterS.l0 k a a (j : Int) = some true := by
  induction d with
  | zero =>
    intro j hj k hk
    obtain ⟨k, rfl⟩ : ∃ q, k = q + 1 := ⟨k - 1, by omega⟩
    simp only [laws_eqWaterS.l0]
    rw [if_neg (by omega)]
  | succ d ih =>
    intro j hj k hk
    obtain ⟨k, rfl⟩ : ∃ q, k = q + 1 := ⟨k - 1, by omega⟩
    have hw : wrap64 ((j : Int) + 1) = ((j + 1 : Nat) : Int) := by unfold wrap64; omega
    simp only [laws_eqWaterS.l0, hw, laws_eqWater.f, if_true, Option.bind_some]
    rw [if_pos (by omega), if_pos (by omega), if_pos (by omega)]
    exact ih (j + 1) (by omega) k (by omega)
theorem eqWater (a : List S47) (ha : a.length ≤ 9223372036854775000) : Ev (fun k => laws_eqWaterS.f k a a) true := by
  refine ⟨a.length + 1, fun k hk => ?_⟩
  show laws_eqWaterS.f k a a = _
  unfold laws_eqWaterS.f
  rw [if_pos rfl]
  exact eqWater_loop a ha a.length 0 (by omega) k (by omega)
/-- What the mark writes at number m. -/
def mkWater (m : Int) : S47 := ⟨IntKind.i16.wrap (m), IntKind.i8.wrap (m + 1)⟩
theorem markWater_loop (d : Nat) : ∀ (j : Nat) (x : List S47) (m : Int), x.length = j + d → x.length ≤ 1099511627776 → 0 ≤ m → m + 2 * d ≤ 1099511627776000 →
    ∃ x', (∀ k, d < k → laws_markWaterS.l0 k x m (j : Int) = some (m + 2 * d, x')) ∧ x'.length = x.length ∧ (∀ i, i < j → x'[i]? = x[i]?) ∧ ∀ i, j ≤ i → i < x.length → x'[i]? = some (mkWater (m + 2 * (i - j))) := by
  induction d with
  | zero =>
    intro j x m hj hx h0 hm
    refine ⟨x, fun k hk => ?_, rfl, fun _ _ => rfl, fun i h1 h2 => by omega⟩
    obtain ⟨k, rfl⟩ : ∃ q, k = q + 1 := ⟨k - 1, by omega⟩
    simp only [laws_markWaterS.l0]
    rw [if_neg (by omega)]
    simp
  | succ d ih =>
    intro j x m hj hx h0 hm
    have hlt : j < x.length := by omega
    have hw : wrap64 ((j : Int) + 1) = ((j + 1 : Nat) : Int) := by unfold wrap64; omega
    have w1 : wrap64 (m + 1) = m + 1 := by unfold wrap64; omega
    have w2 : wrap64 (m + 2) = m + 2 := by unfold wrap64; omega
    have v1 : wrap64 (m + 1 + 1) = m + 2 := by unfold wrap64; omega
    obtain ⟨x', h1, h2, h3, h4⟩ := ih (j + 1) (x.set j (mkWater m)) (m + 2) (by rw [List.length_set]; omega) (by rw [List.length_set]; exact hx) (by omega) (by omega)
    refine ⟨x', fun k hk => ?_, by rw [h2, List.length_set], fun i h => ?_, fun i h h' => ?_⟩
    · obtain ⟨k, rfl⟩ : ∃ q, k = q + 1 := ⟨k - 1, by omega⟩
      have e : m + 2 * ((d + 1 : Nat) : Int) = m + 2 + 2 * (d : Int) := by omega
      rw [e, ← h1 k (by omega)]
      simp only [laws_markWaterS.l0, hw, w1, v1, Int.toNat_natCast, Option.bind_some]
      rw [if_pos (by omega), if_pos (by omega)]
      simp [rd_T47, hlt, mkWater]
    · rw [h3 i (by omega), List.getElem?_set_ne (by omega)]
    · by_cases c : i = j
      · subst c
        rw [h3 i (by omega), List.getElem?_set_self hlt, Int.sub_self, Int.mul_zero, Int.add_zero]
      · rw [h4 i (by omega) (by rw [List.length_set]; exact h')]
        congr 2
        omega

theorem heldWater_loop (d : Nat) : ∀ (j : Nat) (x : List S47) (m : Int), x.length = j + d → x.length ≤ 1099511627776 → 0 ≤ m → m + 2 * d ≤ 1099511627776000 → (∀ i, j ≤ i → i < x.length → x[i]? = some (mkWater (m + 2 * (i - j)))) →
    ∀ k, d < k → laws_heldWaterS.l0 k x m (j : Int) = some (m + 2 * d) := by
  induction d with
  | zero =>
    intro j x m hj hx h0 hm hi k hk
    obtain ⟨k, rfl⟩ : ∃ q, k = q + 1 := ⟨k - 1, by omega⟩
    simp only [laws_heldWaterS.l0]
    rw [if_neg (by omega)]
    simp
  | succ d ih =>
    intro j x m hj hx h0 hm hi k hk
    obtain ⟨k, rfl⟩ : ∃ q, k = q + 1 := ⟨k - 1, by omega⟩
    have hlt : j < x.length := by omega
    have hw : wrap64 ((j : Int) + 1) = ((j + 1 : Nat) : Int) := by unfold wrap64; omega
    have w1 : wrap64 (m + 1) = m + 1 := by unfold wrap64; omega
    have w2 : wrap64 (m + 2) = m + 2 := by unfold wrap64; omega
    have v1 : wrap64 (m + 1 + 1) = m + 2 := by unfold wrap64; omega
    have hr : rd_T47 x (j : Int) = mkWater m := by
      have h := hi j (Nat.le_refl _) hlt
      rw [Int.sub_self, Int.mul_zero, Int.add_zero] at h
      unfold rd_T47
      rw [Int.toNat_natCast, List.getD_eq_getElem?_getD, h]
      rfl
    have e : m + 2 * ((d + 1 : Nat) : Int) = m + 2 + 2 * (d : Int) := by omega
    rw [e, ← ih (j + 1) x (m + 2) (by omega) hx (by omega) (by omega) (fun i h h' => by rw [hi i (by omega) h']; congr 2; omega) k (by omega)]
    simp only [laws_heldWaterS.l0, hw, w1, v1, hr]
    rw [if_pos (by omega), if_pos (by omega)]
    simp [mkWater]
/-- A slice is marked, and holds the marks. -/
theorem markWater (x : List S47) (hx : x.length ≤ 1048576) : ∃ m x', Ev (fun k => laws_markWaterS.f k x 1) (m, x') ∧ 0 ≤ m ∧ Ev (fun k => laws_heldWaterS.f k x' 1) m := by
  obtain ⟨x', h1, h2, h3, h4⟩ := markWater_loop x.length 0 x 1 (by omega) (by omega) (by omega) (by omega)
  refine ⟨1 + 2 * x.length, x', ⟨x.length + 1, fun k hk => h1 k (by omega)⟩, by omega, ⟨x.length + 1, fun k hk => ?_⟩⟩
  exact heldWater_loop x.length 0 x' 1 (by omega) (by omega) (by omega) (by omega) (fun i h h' => h4 i h (by omega)) k (by omega)

theorem w64 {n : Int} (h : -9223372036854775808 ≤ n ∧ n ≤ 9223372036854775807) : wrap64 n = n := by unfold wrap64; omega
/-- Water i's minute and level. -/
def M (l : List S47) (i : Nat) : Int := (rd_T47 l (i : Int)).f0
def V (l : List S47) (i : Nat) : Int := (rd_T47 l (i : Int)).f1
def Fits (l : List S47) : Prop := ∀ i : Nat, (-32768 ≤ M l i ∧ M l i ≤ 32767) ∧ (-128 ≤ V l i ∧ V l i ≤ 127)
/-- Water i is right behind those ahead of it. -/
def okAt (l : List S47) (i : Nat) : Prop := (0 ≤ M l i ∧ M l i ≤ 3000) ∧ (0 ≤ V l i ∧ V l i ≤ 100) ∧ (0 < i → M l (i - 1) + 6 ≤ M l i ∧ V l i ≠ V l (i - 1)) ∧ (1 < i → ¬ (V l i > V l (i - 1) ↔ V l (i - 1) > V l (i - 2)))
def Tides (l : List S47) : Prop := (2 ≤ l.length ∧ l.length ≤ 8) ∧ ∀ q, q < l.length → okAt l q
theorem in_some (a b c : Int) : spec_l00In.f a b c = some (decide (b ≤ a ∧ a ≤ c)) := by
  unfold spec_l00In.f
  by_cases h : a ≥ b
  · rw [if_pos h]; simp [h]
  · rw [if_neg h]; simp; omega
theorem EvB.same_of {g f : Nat → Option Bool} {P : Prop} (h : ∀ k, g k = f k) (k : EvB f P) : EvB g P := EvB.congr h k
theorem dec_beq (p q : Prop) [Decidable p] [Decidable q] : ((decide p == decide q) = true) ↔ (p ↔ q) := by
  by_cases hp : p <;> by_cases hq : q <;> simp [hp, hq]

theorem spec_tides_loop (l : List S47) (hf : Fits l) (hl : l.length ≤ 2000000) (d : Nat) : ∀ i : Nat, l.length = i + d → EvB (fun k => spec_l02Tides.l0 k l (i : Int)) ((2 ≤ l.length ∧ l.length ≤ 8) ∧ ∀ q, i ≤ q → q < l.length → okAt l q) := by
  induction d with
  | zero =>
    intro i hi
    have e : ¬ (i : Int) < l.length := by omega
    refine EvB.step (f := fun _ => some (decide (2 ≤ (l.length : Int) ∧ (l.length : Int) ≤ 8))) (fun k => ?_) ⟨_, Ev.now _, ?_⟩
    · simp only [spec_l02Tides.l0]
      rw [if_neg e, in_some]
      rfl
    · rw [decide_eq_true_iff]
      exact ⟨fun h => ⟨by omega, fun q h1 h2 => by omega⟩, fun h => by omega⟩
  | succ d ih =>
    intro i hi
    have hi1 : (i : Int) < l.length := by omega
    obtain ⟨f0, f1⟩ := hf i
    have w0 : wrap64 (rd_T47 l (i : Int)).f0 = M l i := w64 (by unfold M at f0; omega)
    have w1 : wrap64 (rd_T47 l (i : Int)).f1 = V l i := w64 (by unfold V at f1; omega)
    have hw : wrap64 ((i : Int) + 1) = ((i + 1 : Nat) : Int) := w64 (by omega)
    have no : ∀ {P : Prop}, ¬ okAt l i → ¬ (P ∧ ∀ q, i ≤ q → q < l.length → okAt l q) := fun h g => h (g.2 i (Nat.le_refl _) (by omega))
    have next : okAt l i → (((2 ≤ l.length ∧ l.length ≤ 8) ∧ ∀ q, i + 1 ≤ q → q < l.length → okAt l q) ↔ ((2 ≤ l.length ∧ l.length ≤ 8) ∧ ∀ q, i ≤ q → q < l.length → okAt l q)) := fun h => ⟨fun g => ⟨g.1, fun q h1 h2 => by
      by_cases e : q = i
      · rw [e]; exact h
      · exact g.2 q (by omega) h2⟩, fun g => ⟨g.1, fun q h1 h2 => g.2 q (by omega) h2⟩⟩
    by_cases a0 : 0 ≤ M l i ∧ M l i ≤ 3000
    · by_cases a1 : 0 ≤ V l i ∧ V l i ≤ 100
      · refine EvB.step (f := fun k => spec_l02Tides.j1 k l (i : Int) false (M l i) (V l i)) (fun k => ?_) ?_
        · simp only [spec_l02Tides.l0, w0, w1, in_some, Option.bind_some]
          rw [if_pos hi1, if_pos (by omega), if_pos (decide_eq_true a0), decide_eq_true a1]
          rfl
        · have wm : wrap64 (M l i) = M l i := w64 (by omega)
          by_cases p0 : 0 < i
          · have hp : wrap64 ((i : Int) - 1) = ((i - 1 : Nat) : Int) := by rw [w64 (by omega)]; omega
            obtain ⟨g0, g1⟩ := hf (i - 1)
            have v0 : wrap64 (rd_T47 l ((i - 1 : Nat) : Int)).f0 = M l (i - 1) := w64 (by unfold M at g0; omega)
            have v6 : wrap64 (M l (i - 1) + 6) = M l (i - 1) + 6 := w64 (by omega)
            by_cases b0 : M l i < M l (i - 1) + 6
            · refine EvB.step (f := fun k => spec_l02Tides.j2 k l (i : Int) true (M l i) (V l i)) (fun k => ?_) (EvB.step (f := fun _ => some false) (fun k => by simp [spec_l02Tides.j2]) (EvB.no (no fun h => by have := (h.2.2.1 p0).1; omega)))
              simp only [spec_l02Tides.j1, hp, wm, v0, v6, Bool.false_eq_true, if_false]
              rw [if_pos (by omega), if_pos (by omega), if_pos (by omega), if_pos b0]
            · by_cases b1 : V l i = V l (i - 1)
              · have e1 : (V l i == (rd_T47 l ((i - 1 : Nat) : Int)).f1) = true := beq_iff_eq.2 b1
                refine EvB.step (f := fun k => spec_l02Tides.j2 k l (i : Int) true (M l i) (V l i)) (fun k => ?_) (EvB.step (f := fun _ => some false) (fun k => by simp [spec_l02Tides.j2]) (EvB.no (no fun h => (h.2.2.1 p0).2 b1)))
                simp only [spec_l02Tides.j1, hp, wm, v0, v6, Bool.false_eq_true, if_false]
                rw [if_pos (by omega), if_pos (by omega), if_pos (by omega), if_neg b0, e1]
              · have e1 : (V l i == (rd_T47 l ((i - 1 : Nat) : Int)).f1) = false := beq_eq_false_iff_ne.2 b1
                refine EvB.step (f := fun k => spec_l02Tides.j2 k l (i : Int) false (M l i) (V l i)) (fun k => ?_) ?_
                · simp only [spec_l02Tides.j1, hp, wm, v0, v6, Bool.false_eq_true, if_false]
                  rw [if_pos (by omega), if_pos (by omega), if_pos (by omega), if_neg b0, e1]
                · by_cases p1 : 1 < i
                  · have hp2 : wrap64 ((i : Int) - 2) = ((i - 2 : Nat) : Int) := by rw [w64 (by omega)]; omega
                    by_cases c0 : V l i > V l (i - 1) ↔ V l (i - 1) > V l (i - 2)
                    · refine EvB.step (f := fun _ => some false) (fun k => ?_) (EvB.no (no fun h => h.2.2.2 p1 c0))
                      simp only [spec_l02Tides.j2, hp, hp2, hw, Bool.false_eq_true, if_false]
                      rw [if_pos (by omega), if_pos (by omega), if_pos (by omega), if_pos (by omega), if_pos (by omega), if_pos ((dec_beq (V l i > (rd_T47 l ((i - 1 : Nat) : Int)).f1) ((rd_T47 l ((i - 1 : Nat) : Int)).f1 > (rd_T47 l ((i - 2 : Nat) : Int)).f1)).2 c0)]
                    · refine EvB.step (fun k => ?_) ((ih (i + 1) (by omega)).iff (next ⟨a0, a1, fun _ => ⟨by omega, b1⟩, fun _ => c0⟩))
                      simp only [spec_l02Tides.j2, hp, hp2, hw, Bool.false_eq_true, if_false]
                      rw [if_pos (by omega), if_pos (by omega), if_pos (by omega), if_pos (by omega), if_pos (by omega), if_neg (fun h => c0 ((dec_beq (V l i > (rd_T47 l ((i - 1 : Nat) : Int)).f1) ((rd_T47 l ((i - 1 : Nat) : Int)).f1 > (rd_T47 l ((i - 2 : Nat) : Int)).f1)).1 h))]
                  · refine EvB.step (fun k => ?_) ((ih (i + 1) (by omega)).iff (next ⟨a0, a1, fun _ => ⟨by omega, b1⟩, fun h => absurd h p1⟩))
                    simp only [spec_l02Tides.j2, hw, Bool.false_eq_true, if_false]
                    rw [if_neg (by omega)]
          · refine EvB.step (f := fun k => spec_l02Tides.j2 k l (i : Int) false (M l i) (V l i)) (fun k => ?_) (EvB.step (fun k => ?_) ((ih (i + 1) (by omega)).iff (next ⟨a0, a1, fun h => absurd h p0, fun h => by omega⟩)))
            · simp only [spec_l02Tides.j1, Bool.false_eq_true, if_false]
              rw [if_neg (by omega)]
            · simp only [spec_l02Tides.j2, hw, Bool.false_eq_true, if_false]
              rw [if_neg (by omega)]
      · refine EvB.step (f := fun k => spec_l02Tides.j1 k l (i : Int) true (M l i) (V l i)) (fun k => ?_) (EvB.step (f := fun _ => some false) (fun k => by simp [spec_l02Tides.j1]) (EvB.no (no fun h => a1 h.2.1)))
        simp only [spec_l02Tides.l0, w0, w1, in_some, Option.bind_some]
        rw [if_pos hi1, if_pos (by omega), if_pos (decide_eq_true a0), decide_eq_false a1]
        rfl
    · refine EvB.step (f := fun k => spec_l02Tides.j1 k l (i : Int) true (M l i) (V l i)) (fun k => ?_) (EvB.step (f := fun _ => some false) (fun k => by simp [spec_l02Tides.j1]) (EvB.no (no fun h => a0 h.1)))
      simp only [spec_l02Tides.l0, w0, in_some, Option.bind_some]
      rw [if_pos hi1, if_pos (by omega), if_neg (by simpa using a0)]
      rfl

theorem spec_tides (l : List S47) (hf : Fits l) (hl : l.length ≤ 2000000) : EvB (fun k => spec_l02Tides.f k l) (Tides l) :=
  (spec_tides_loop l hf hl l.length 0 (by omega)).iff ⟨fun h => ⟨h.1, fun q hq => h.2 q (Nat.zero_le _) hq⟩, fun h => ⟨h.1, fun q _ hq => h.2 q hq⟩⟩

theorem impl_tides_loop (l : List S47) (hf : Fits l) (hl : l.length ≤ 2000000) (d : Nat) : ∀ i : Nat, l.length = i + d → (∀ q, q < i → okAt l q) → EvB (fun k => impl_ValidTides.l0 k l l l.length (i : Int)) (∀ q, q < l.length → okAt l q) := by
  induction d with
  | zero =>
    intro i hi ho
    have e : ¬ (i : Int) < l.length := by omega
    refine EvB.step (f := fun _ => some true) (fun k => ?_) (EvB.yes fun q hq => ho q (by omega))
    simp only [impl_ValidTides.l0]
    rw [if_neg e]
  | succ d ih =>
    intro i hi ho
    have hi1 : (i : Int) < l.length := by omega
    obtain ⟨f0, f1⟩ := hf i
    have hw : wrap64 ((i : Int) + 1) = ((i + 1 : Nat) : Int) := w64 (by omega)
    have no : ¬ okAt l i → ¬ ∀ q, q < l.length → okAt l q := fun h g => h (g i (by omega))
    have next : okAt l i → EvB (fun k => impl_ValidTides.l0 k l l l.length ((i + 1 : Nat) : Int)) (∀ q, q < l.length → okAt l q) := fun h => ih (i + 1) (by omega) fun q hq => by
      by_cases e : q = i
      · rw [e]; exact h
      · exact ho q (by omega)
    have bad : ¬ okAt l i → EvB (fun k => impl_ValidTides.j2 k l (i : Int) l l.length (i : Int) true (M l i) (V l i)) (∀ q, q < l.length → okAt l q) := fun h =>
      EvB.step (f := fun _ => some false) (fun k => by simp [impl_ValidTides.j2]) (EvB.no (no h))
    by_cases a0 : 0 ≤ M l i ∧ M l i ≤ 3000
    · by_cases a1 : 0 ≤ V l i ∧ V l i ≤ 100
      · refine EvB.step (f := fun k => impl_ValidTides.j2 k l (i : Int) l l.length (i : Int) false (M l i) (V l i)) (fun k => ?_) ?_
        · simp only [impl_ValidTides.l0]
          have q0 : ¬ (rd_T47 l (i : Int)).f0 < 0 := by unfold M at a0; omega
          have q1 : ¬ (rd_T47 l (i : Int)).f0 > 3000 := by unfold M at a0; omega
          have q2 : ¬ (rd_T47 l (i : Int)).f1 < 0 := by unfold V at a1; omega
          have q3 : decide ((rd_T47 l (i : Int)).f1 > 100) = false := decide_eq_false (by unfold V at a1; omega)
          rw [if_pos hi1, if_pos (by omega), if_pos hi1, if_neg q0, if_neg q1, if_neg q2, q3]
          rfl
        · by_cases p0 : 0 < i
          · have hp : wrap64 ((i : Int) - 1) = ((i - 1 : Nat) : Int) := by rw [w64 (by omega)]; omega
            have op := (ho (i - 1) (by omega)).1
            have v6 : IntKind.i16.wrap ((rd_T47 l ((i - 1 : Nat) : Int)).f0 + 6) = M l (i - 1) + 6 := by
              show IntKind.i16.wrap (M l (i - 1) + 6) = _
              simp [IntKind.wrap, IntKind.signed, IntKind.bits]
              omega
            by_cases b0 : M l i < M l (i - 1) + 6
            · refine EvB.step (f := fun _ => some false) (fun k => ?_) (EvB.no (no fun h => by have := (h.2.2.1 p0).1; omega))
              simp only [impl_ValidTides.j2, hp, v6, Bool.false_eq_true, if_false]
              rw [if_neg (by omega), if_pos (by omega), if_pos (by omega), if_pos b0]
            · by_cases b1 : V l i = V l (i - 1)
              · refine EvB.step (f := fun _ => some false) (fun k => ?_) (EvB.no (no fun h => (h.2.2.1 p0).2 b1))
                simp only [impl_ValidTides.j2, hp, v6, Bool.false_eq_true, if_false]
                rw [if_neg (by omega), if_pos (by omega), if_pos (by omega), if_neg b0, if_pos (show V l i = (rd_T47 l ((i - 1 : Nat) : Int)).f1 from b1)]
              · by_cases p1 : 1 < i
                · have hp2 : wrap64 ((i : Int) - 2) = ((i - 2 : Nat) : Int) := by rw [w64 (by omega)]; omega
                  by_cases c0 : V l i > V l (i - 1) ↔ V l (i - 1) > V l (i - 2)
                  · refine EvB.step (f := fun _ => some false) (fun k => ?_) (EvB.no (no fun h => h.2.2.2 p1 c0))
                    simp only [impl_ValidTides.j2, hp, hp2, hw, v6, Bool.false_eq_true, if_false]
                    rw [if_neg (by omega), if_pos (by omega), if_pos (by omega), if_neg b0, if_neg (show ¬ V l i = (rd_T47 l ((i - 1 : Nat) : Int)).f1 from b1), if_pos (by omega), if_pos (by omega), if_pos (by omega), if_pos ((dec_beq (V l i > (rd_T47 l ((i - 1 : Nat) : Int)).f1) ((rd_T47 l ((i - 1 : Nat) : Int)).f1 > (rd_T47 l ((i - 2 : Nat) : Int)).f1)).2 c0)]
                  · refine EvB.step (fun k => ?_) (next ⟨a0, a1, fun _ => ⟨by omega, b1⟩, fun _ => c0⟩)
                    simp only [impl_ValidTides.j2, hp, hp2, hw, v6, Bool.false_eq_true, if_false]
                    rw [if_neg (by omega), if_pos (by omega), if_pos (by omega), if_neg b0, if_neg (show ¬ V l i = (rd_T47 l ((i - 1 : Nat) : Int)).f1 from b1), if_pos (by omega), if_pos (by omega), if_pos (by omega), if_neg (fun h => c0 ((dec_beq (V l i > (rd_T47 l ((i - 1 : Nat) : Int)).f1) ((rd_T47 l ((i - 1 : Nat) : Int)).f1 > (rd_T47 l ((i - 2 : Nat) : Int)).f1)).1 h))]
                · refine EvB.step (fun k => ?_) (next ⟨a0, a1, fun _ => ⟨by omega, b1⟩, fun h => absurd h p1⟩)
                  simp only [impl_ValidTides.j2, hp, hw, v6, Bool.false_eq_true, if_false]
                  rw [if_neg (by omega), if_pos (by omega), if_pos (by omega), if_neg b0, if_neg (show ¬ V l i = (rd_T47 l ((i - 1 : Nat) : Int)).f1 from b1), if_neg (by omega)]
          · refine EvB.step (fun k => ?_) (next ⟨a0, a1, fun h => absurd h p0, fun h => by omega⟩)
            simp only [impl_ValidTides.j2, hw, Bool.false_eq_true, if_false]
            rw [if_pos (by omega)]
      · by_cases a2 : V l i < 0
        · refine EvB.step (fun k => ?_) (bad fun h => a1 h.2.1)
          simp only [impl_ValidTides.l0]
          have q0 : ¬ (rd_T47 l (i : Int)).f0 < 0 := by unfold M at a0; omega
          have q1 : ¬ (rd_T47 l (i : Int)).f0 > 3000 := by unfold M at a0; omega
          rw [if_pos hi1, if_pos (by omega), if_pos hi1, if_neg q0, if_neg q1, if_pos (show (rd_T47 l (i : Int)).f1 < 0 from a2)]
          rfl
        · refine EvB.step (fun k => ?_) (bad fun h => a1 h.2.1)
          simp only [impl_ValidTides.l0]
          have q0 : ¬ (rd_T47 l (i : Int)).f0 < 0 := by unfold M at a0; omega
          have q1 : ¬ (rd_T47 l (i : Int)).f0 > 3000 := by unfold M at a0; omega
          have q3 : decide ((rd_T47 l (i : Int)).f1 > 100) = true := decide_eq_true (by unfold V at a1 a2; omega)
          rw [if_pos hi1, if_pos (by omega), if_pos hi1, if_neg q0, if_neg q1, if_neg (show ¬ (rd_T47 l (i : Int)).f1 < 0 from a2), q3]
          rfl
    · by_cases a2 : M l i < 0
      · refine EvB.step (fun k => ?_) (bad fun h => a0 h.1)
        simp only [impl_ValidTides.l0]
        rw [if_pos hi1, if_pos (by omega), if_pos hi1, if_pos (show (rd_T47 l (i : Int)).f0 < 0 from a2)]
        rfl
      · refine EvB.step (fun k => ?_) (bad fun h => a0 h.1)
        simp only [impl_ValidTides.l0]
        have q1 : (rd_T47 l (i : Int)).f0 > 3000 := by unfold M at a0 a2; omega
        rw [if_pos hi1, if_pos (by omega), if_pos hi1, if_neg (show ¬ (rd_T47 l (i : Int)).f0 < 0 from a2), if_pos q1]
        rfl

theorem impl_tides (l : List S47) (hf : Fits l) (hl : l.length ≤ 2000000) : EvB (fun k => impl_ValidTides.f k l) (Tides l) := by
  by_cases h2 : 2 ≤ l.length
  · by_cases h8 : l.length ≤ 8
    · refine EvB.congr (f := fun k => impl_ValidTides.j0 k l false) (fun k => ?_) (EvB.step (f := fun k => impl_ValidTides.l0 k l l l.length ((0 : Nat) : Int)) (fun k => by simp [impl_ValidTides.j0]) ((impl_tides_loop l hf hl l.length 0 (by omega) (fun q hq => by omega)).iff ⟨fun h => ⟨⟨h2, h8⟩, h⟩, fun h => h.2⟩))
      unfold impl_ValidTides.f
      rw [if_neg (by omega), decide_eq_false (by omega)]
    · refine EvB.congr (f := fun k => impl_ValidTides.j0 k l true) (fun k => ?_) (EvB.step (f := fun _ => some false) (fun k => by simp [impl_ValidTides.j0]) (EvB.no fun h => h8 h.1.2))
      unfold impl_ValidTides.f
      rw [if_neg (by omega), decide_eq_true (by omega)]
  · refine EvB.congr (f := fun k => impl_ValidTides.j0 k l true) (fun k => ?_) (EvB.step (f := fun _ => some false) (fun k => by simp [impl_ValidTides.j0]) (EvB.no fun h => h2 h.1.1))
    unfold impl_ValidTides.f
    rw [if_pos (by omega)]

theorem V_bd {l : List S47} (ht : Tides l) {i : Nat} (hi : i < l.length) : 0 ≤ V l i ∧ V l i ≤ 100 := (ht.2 i hi).2.1

theorem toList_loop (s : ByteArray) (d : Nat) : ∀ (i : Nat) (r : List UInt8), s.size = i + d → ByteArray.toList.loop s i r = r.reverse ++ s.data.toList.drop i := by
  induction d with
  | zero =>
    intro i r h
    rw [ByteArray.toList.loop, if_neg (by omega), List.drop_of_length_le (by rw [Array.length_toList]; exact Nat.le_of_eq h)]
    simp
  | succ d ih =>
    intro i r h
    have hl : i < s.data.toList.length := by rw [Array.length_toList]; show i < s.size; omega
    rw [ByteArray.toList.loop, if_pos (by omega), ih (i + 1) _ (by omega), List.drop_eq_getElem_cons hl]
    have e : s.get! i = s.data.toList[i] := by
      show s.data[i]! = _
      rw [getElem!_pos s.data i (by simpa using hl)]
      simp
    rw [e]
    simp
theorem toList_eq (s : ByteArray) : s.toList = s.data.toList := by
  unfold ByteArray.toList
  rw [toList_loop s s.size 0 [] (by omega)]
  simp
theorem toList_inj {a b : ByteArray} (h : a.toList = b.toList) : a = b := by
  rw [toList_eq, toList_eq] at h
  exact ByteArray.ext (Array.toList_inj.1 h)

def sp (c : UInt8) : List UInt8 → List (List UInt8)
  | [] => [[]]
  | b :: r => if b = c then [] :: sp c r else ((b :: (sp c r).headD []) :: (sp c r).tail)
theorem sp_ne (c : UInt8) (s : List UInt8) : ∃ p ps, sp c s = p :: ps := by
  cases s with
  | nil => exact ⟨[], [], rfl⟩
  | cons b r =>
    unfold sp
    by_cases h : b = c
    · rw [if_pos h]; exact ⟨_, _, rfl⟩
    · rw [if_neg h]; exact ⟨_, _, rfl⟩
theorem sp_app (c : UInt8) (x : List UInt8) (hx : ∀ b ∈ x, b ≠ c) (r p : List UInt8) (ps : List (List UInt8)) (h : sp c r = p :: ps) : sp c (x ++ r) = (x ++ p) :: ps := by
  induction x with
  | nil => exact h
  | cons b x ih =>
    have := ih (fun y hy => hx y (List.mem_cons_of_mem _ hy))
    rw [List.cons_append, sp, if_neg (hx b (List.mem_cons_self ..)), this]
    rfl
theorem sp_none (c : UInt8) (x : List UInt8) (hx : ∀ b ∈ x, b ≠ c) : sp c x = [x] := by
  have := sp_app c x hx [] [] [] rfl
  rwa [List.append_nil] at this
theorem sp_len (c : UInt8) (s : List UInt8) : 1 ≤ (sp c s).length ∧ (sp c s).length ≤ s.length + 1 := by
  induction s with
  | nil => exact ⟨Nat.le_refl _, Nat.le_refl _⟩
  | cons b r ih =>
    unfold sp
    by_cases h : b = c
    · rw [if_pos h, List.length_cons, List.length_cons]; omega
    · rw [if_neg h, List.length_cons, List.length_tail, List.length_cons]; omega
theorem sp_mem (c : UInt8) (s : List UInt8) : ∀ p ∈ sp c s, (∀ b ∈ p, b ≠ c) ∧ p.length ≤ s.length := by
  induction s with
  | nil =>
    intro p hp
    rw [List.mem_singleton.1 hp]
    exact ⟨fun b hb => (by cases hb), Nat.le_refl _⟩
  | cons b r ih =>
    intro p hp
    obtain ⟨q, qs, hq⟩ := sp_ne c r
    rw [hq] at ih
    unfold sp at hp
    by_cases h : b = c
    · rw [if_pos h] at hp
      rcases List.mem_cons.1 hp with rfl | hp
      · exact ⟨fun b hb => (by cases hb), Nat.zero_le _⟩
      · rw [hq] at hp
        have := ih p hp
        exact ⟨this.1, by rw [List.length_cons]; omega⟩
    · rw [if_neg h, hq] at hp
      rcases List.mem_cons.1 hp with rfl | hp
      · have := ih q (List.mem_cons_self ..)
        refine ⟨fun y hy => ?_, ?_⟩
        · rcases List.mem_cons.1 hy with rfl | hy
          · exact h
          · exact this.1 y hy
        · show q.length + 1 ≤ r.length + 1
          omega
      · have := ih p (List.mem_cons_of_mem _ hp)
        exact ⟨this.1, by rw [List.length_cons]; omega⟩
theorem index_cons1 (b c : UInt8) (l : List UInt8) : Go.Lib.index (b :: l) [c] = if b = c then 0 else if Go.Lib.index l [c] = -1 then -1 else Go.Lib.index l [c] + 1 := by
  rw [Go.Lib.index]
  by_cases h : b = c
  · subst h
    simp [List.isPrefixOf]
  · have : ([c] : List UInt8).isPrefixOf (b :: l) = false := by simp [List.isPrefixOf, Ne.symm h]
    rw [this, if_neg h]
    by_cases h2 : Go.Lib.index l [c] = -1
    · simp [h2]
    · simp [h2]
theorem splitK_sp (c : UInt8) (l : List UInt8) : Go.Lib.splitK [c] 0 (Go.Lib.count l [c]) l = sp c l := by
  induction l with
  | nil => rfl
  | cons b l ih =>
    by_cases h : b = c
    · subst h
      rw [Go.Lib.count_cons_eq, Nat.add_comm 1, Go.Lib.splitK, index_cons1, if_pos rfl, sp, if_pos rfl, ← ih]
      rfl
    · rw [Go.Lib.count_cons_ne b c l h, sp, if_neg h]
      have hge := Go.Lib.index_ge l [c]
      by_cases hm : Go.Lib.index l [c] = -1
      · have h0 := Go.Lib.count_miss hm
        rw [h0] at ih ⊢
        have e : sp c l = [l] := ih.symm
        rw [e]
        rfl
      · obtain ⟨j, hj⟩ : ∃ j : Nat, Go.Lib.index l [c] = j := ⟨(Go.Lib.index l [c]).toNat, by omega⟩
        have h1 := Go.Lib.count_hit (s := l) (sub := [c]) (by simp) hj
        rw [h1, Nat.add_comm 1] at ih ⊢
        rw [Go.Lib.splitK] at ih ⊢
        rw [index_cons1, if_neg h, if_neg hm, hj]
        rw [hj] at ih
        have e1 : ((j : Int) == -1) = false := by rw [beq_eq_false_iff_ne]; omega
        have e2 : ((j : Int) + 1 == -1) = false := by rw [beq_eq_false_iff_ne]; omega
        rw [e1] at ih
        rw [e2]
        simp only [Bool.false_eq_true, if_false] at ih ⊢
        have e3 : ((j : Int) + 1).toNat = j + 1 := by omega
        rw [e3, ← ih]
        simp [Int.toNat_natCast]
theorem byte_at {s : ByteArray} {i : Nat} (h : i < s.size) : bt s (i : Int) = ((s.data.toList[i]'(by simpa using h)).toNat : Int) := by
  rw [← bt_at s (i : Int) (by simpa using h)]
  simp
  rfl
theorem ba_ext {a b : ByteArray} (h : a.data.toList = b.data.toList) : a = b := toList_inj (by rw [toList_eq, toList_eq, h])
theorem map_inj {a b : List ByteArray} (h : a.map (·.data.toList) = b.map (·.data.toList)) : a = b := by
  induction a generalizing b with
  | nil => cases b with
    | nil => rfl
    | cons y b => cases h
  | cons x a ih => cases b with
    | nil => cases h
    | cons y b =>
      rw [List.map_cons, List.map_cons] at h
      injection h with h1 h2
      rw [ba_ext h1, ih h2]
theorem extract_data (s : ByteArray) (a b : Nat) : (s.extract a b).data.toList = (s.data.toList.take b).drop a := by
  simp [ByteArray.data_extract, List.drop_take]
theorem spec_split_loop (s : ByteArray) (c : UInt8) (hs : s.size ≤ 10000000) (d : Nat) : ∀ (j b : Nat) (out : List ByteArray), s.size = j + d → b ≤ j → out.length ≤ b → (∀ y ∈ (s.data.toList.take j).drop b, y ≠ c) →
    ∃ t : List ByteArray, t.map (·.data.toList) = out.map (·.data.toList) ++ sp c (s.data.toList.drop b) ∧ Ev (fun k => spec_l01Split.l0 k s (c.toNat : Int) out (b : Int) (j : Int)) t := by
  have hsz : s.data.toList.length = s.size := by simp
  induction d with
  | zero =>
    intro j b out hj hb ho hn
    refine ⟨out ++ [s.extract b s.size], ?_, Ev.step (f := fun _ => some (out ++ [s.extract b s.size])) (fun k => ?_) (Ev.now _)⟩
    · rw [List.map_append, List.map_singleton, extract_data]
      have e : s.data.toList.take s.size = s.data.toList := List.take_of_length_le (by omega)
      rw [List.take_of_length_le (by omega)] at hn
      rw [e, sp_none c _ hn]
    · simp only [spec_l01Split.l0]
      rw [if_neg (by omega), if_pos (by omega), if_pos (by omega), if_pos (by omega), Int.toNat_natCast]
  | succ d ih =>
    intro j b out hj hb ho hn
    have hlt : j < s.size := by omega
    have hlt2 : j < s.data.toList.length := by omega
    have hbt := byte_at hlt
    have hw1 : wrap64 ((j : Int) + 1) = ((j + 1 : Nat) : Int) := by unfold wrap64; omega
    by_cases hc : s.data.toList[j] = c
    · obtain ⟨t, h1, h2⟩ := ih (j + 1) (j + 1) (out ++ [s.extract b j]) (by omega) (Nat.le_refl _) (by rw [List.length_append, List.length_singleton]; omega) (by intro y hy; rw [List.drop_of_length_le (by rw [List.length_take]; omega)] at hy; cases hy)
      refine ⟨t, ?_, Ev.step (fun k => ?_) h2⟩
      · rw [h1, List.map_append, List.map_singleton, extract_data, List.append_assoc, List.singleton_append]
        congr 1
        have e : s.data.toList.drop b = (s.data.toList.take j).drop b ++ s.data.toList.drop j := by
          rw [← List.drop_append_of_le_length (by rw [List.length_take]; omega), List.take_append_drop]
        rw [e, List.drop_eq_getElem_cons hlt2]
        have e2 : sp c (s.data.toList[j] :: s.data.toList.drop (j + 1)) = [] :: sp c (s.data.toList.drop (j + 1)) := by rw [sp, if_pos hc]
        rw [sp_app c _ hn _ _ _ e2, List.append_nil]
      · simp only [spec_l01Split.l0]
        rw [if_pos (by omega), if_pos (by omega), if_pos (by rw [hbt, hc]), if_pos (by omega), if_pos (by omega), if_pos (by omega), if_pos (by omega), hw1, Int.toNat_natCast, Int.toNat_natCast]
    · obtain ⟨t, h1, h2⟩ := ih (j + 1) b out (by omega) (by omega) ho (by
        intro y hy
        rw [List.take_succ_eq_append_getElem hlt2, List.drop_append_of_le_length (by rw [List.length_take]; omega)] at hy
        rcases List.mem_append.1 hy with h | h
        · exact hn y h
        · rw [List.mem_singleton.1 h]; exact hc)
      refine ⟨t, h1, Ev.step (fun k => ?_) h2⟩
      simp only [spec_l01Split.l0]
      rw [if_pos (by omega), if_pos (by omega), if_neg (by rw [hbt]; intro h; exact hc (UInt8.toNat_inj.1 (by omega))), hw1]
/-- Both words split a text alike. -/
theorem both_split (s : ByteArray) (c : UInt8) (hs : s.size ≤ 10000000) : ∃ t : List ByteArray, t.map (·.data.toList) = sp c s.data.toList ∧ Ev (fun k => spec_l01Split.f k s (c.toNat : Int)) t ∧ strings_Split.f s (⟨#[c]⟩ : ByteArray) = some t := by
  obtain ⟨t, h1, h2⟩ := spec_split_loop s c hs s.size 0 0 [] (by omega) (Nat.le_refl _) (Nat.le_refl _) (by intro y hy; cases hy)
  rw [List.drop_zero, List.map_nil, List.nil_append] at h1
  refine ⟨t, h1, h2, ?_⟩
  have h3 : (Go.Lib.splitB (⟨#[c]⟩ : ByteArray) 0 (Go.Lib.countB s (⟨#[c]⟩ : ByteArray)) s).map (·.data.toList) = sp c s.data.toList := by
    rw [Go.Lib.splitB_data]
    exact splitK_sp c _
  unfold strings_Split.f
  rw [if_pos ⟨by omega, Nat.le_refl _⟩, map_inj (h3.trans h1.symm)]
def digit (b : UInt8) : Bool := decide (48 ≤ b.toNat) && decide (b.toNat ≤ 57)
def val (l : List UInt8) : Nat := l.foldl (fun n b => 10 * n + (b.toNat - 48)) 0
theorem val_snoc (l : List UInt8) (b : UInt8) : val (l ++ [b]) = 10 * val l + (b.toNat - 48) := by unfold val; rw [List.foldl_append]; rfl
/-- A number without a leading zero. -/
def numOk (l : List UInt8) : Bool := decide (l ≠ []) && !(decide (l.head? = some 48) && decide (1 < l.length)) && l.all digit
def numR (n : Nat) (s : ByteArray) : Int × Bool := if numOk s.data.toList = true ∧ s.size ≤ n then ((val s.data.toList : Int), true) else (0, false)
theorem fold_lt (l : List UInt8) (h : l.all digit = true) : ∀ n : Nat, l.foldl (fun n b => 10 * n + (b.toNat - 48)) n < (n + 1) * 10 ^ l.length := by
  induction l with
  | nil => intro n; rw [List.foldl_nil, List.length_nil]; omega
  | cons b l ih =>
    intro n
    rw [List.all_cons, Bool.and_eq_true] at h
    have h2 := h.1
    unfold digit at h2
    simp only [Bool.and_eq_true, decide_eq_true_eq] at h2
    have h3 := ih h.2 (10 * n + (b.toNat - 48))
    rw [List.foldl_cons, List.length_cons, Nat.pow_succ]
    have h4 : (10 * n + (b.toNat - 48) + 1) * 10 ^ l.length ≤ (10 * n + 10) * 10 ^ l.length := Nat.mul_le_mul_right _ (by omega)
    have h5 : (n + 1) * (10 ^ l.length * 10) = (10 * n + 10) * 10 ^ l.length := by
      rw [Nat.mul_comm (10 ^ l.length) 10, ← Nat.mul_assoc]
      congr 1
      omega
    omega
theorem fold_ge (l : List UInt8) : ∀ n : Nat, n * 10 ^ l.length ≤ l.foldl (fun n b => 10 * n + (b.toNat - 48)) n := by
  induction l with
  | nil => intro n; rw [List.foldl_nil, List.length_nil]; omega
  | cons b l ih =>
    intro n
    have h3 := ih (10 * n + (b.toNat - 48))
    rw [List.foldl_cons, List.length_cons, Nat.pow_succ]
    have h4 : (10 * n) * 10 ^ l.length ≤ (10 * n + (b.toNat - 48)) * 10 ^ l.length := Nat.mul_le_mul_right _ (by omega)
    have h5 : n * (10 ^ l.length * 10) = (10 * n) * 10 ^ l.length := by
      rw [Nat.mul_comm (10 ^ l.length) 10, ← Nat.mul_assoc]
      congr 1
      omega
    omega
theorem val_lt {l : List UInt8} (h : l.all digit = true) : val l < 10 ^ l.length := by
  have := fold_lt l h 0
  rw [Nat.zero_add, Nat.one_mul] at this
  exact this
/-- A long number is great. -/
theorem val_ge {l : List UInt8} (h : numOk l = true) (hl : 6 ≤ l.length) : 100000 ≤ val l := by
  cases l with
  | nil => simp at hl
  | cons b r =>
    unfold numOk at h
    rw [List.length_cons] at hl
    simp only [Bool.and_eq_true, decide_eq_true_eq, Bool.not_eq_true', Bool.and_eq_false_iff, List.head?_cons, List.all_cons, List.length_cons, decide_eq_false_iff_not, Option.some.injEq] at h
    obtain ⟨⟨_, h1⟩, h2, _⟩ := h
    have hb : b ≠ 48 := by
      rcases h1 with h1 | h1
      · exact h1
      · omega
    unfold digit at h2
    simp only [Bool.and_eq_true, decide_eq_true_eq] at h2
    have hb2 : b.toNat ≠ 48 := fun e => hb (UInt8.toNat_inj.1 (by rw [e]; rfl))
    have h3 := fold_ge r (10 * 0 + (b.toNat - 48))
    have h4 : (10 : Nat) ^ 5 ≤ 10 ^ r.length := Nat.pow_le_pow_right (by omega) (by omega)
    have h5 : 1 * 10 ^ r.length ≤ (10 * 0 + (b.toNat - 48)) * 10 ^ r.length := Nat.mul_le_mul_right _ (by omega)
    have h6 : val (b :: r) = r.foldl (fun n b => 10 * n + (b.toNat - 48)) (10 * 0 + (b.toNat - 48)) := rfl
    rw [h6]
    omega
theorem num_step1 (v b : Nat) (hv : v < 1000000000) (h1 : 48 ≤ b) (h2 : b ≤ 57) : wrap64 (wrap64 (10 * (v : Int)) + ((b : Int) - 48) % 256) = ((10 * v + (b - 48) : Nat) : Int) := by
  have e : wrap64 (10 * (v : Int)) = 10 * (v : Int) := by unfold wrap64; omega
  have e2 : ((b : Int) - 48) % 256 = (b : Int) - 48 := by omega
  rw [e, e2]
  unfold wrap64
  omega
theorem num_step2 (v b : Nat) (hv : v < 1000000000) (h1 : 48 ≤ b) (h2 : b ≤ 57) : wrap64 (wrap64 ((v : Int) * 10) + ((b : Int) - 48) % 256) = ((10 * v + (b - 48) : Nat) : Int) := by
  rw [Int.mul_comm]
  exact num_step1 v b hv h1 h2
theorem val_small {l : List UInt8} (h : l.all digit = true) (hl : l.length ≤ 9) : val l < 1000000000 := by
  have hv := val_lt h
  have hp : (10 : Nat) ^ l.length ≤ 10 ^ 9 := Nat.pow_le_pow_right (by omega) hl
  exact Nat.lt_of_lt_of_le hv hp
/-- The loop over the digits. -/
theorem spec_num_loop (s : ByteArray) (hs : s.size ≤ 9) (d : Nat) : ∀ j : Nat, s.size = j + d → (s.data.toList.take j).all digit = true →
    Ev (fun k => spec_l01Number.l0 k s (val (s.data.toList.take j) : Int) (j : Int)) (if s.data.toList.all digit = true then ((val s.data.toList : Int), true) else (0, false)) := by
  have hsz : s.data.toList.length = s.size := by simp
  induction d with
  | zero =>
    intro j hj ha
    rw [List.take_of_length_le (by omega)] at ha ⊢
    rw [if_pos ha]
    refine Ev.step (f := fun _ => some ((val s.data.toList : Int), true)) (fun k => ?_) (Ev.now _)
    simp only [spec_l01Number.l0]
    rw [if_neg (by omega)]
  | succ d ih =>
    intro j hj ha
    have hlt : j < s.size := by omega
    have hlt2 : j < s.data.toList.length := by omega
    have hbt := byte_at hlt
    have hw1 : wrap64 ((j : Int) + 1) = ((j + 1 : Nat) : Int) := by unfold wrap64; omega
    have hv := val_small ha (by rw [List.length_take]; omega)
    by_cases hd : digit s.data.toList[j] = true
    · have hd2 := hd
      unfold digit at hd2
      simp only [Bool.and_eq_true, decide_eq_true_eq] at hd2
      have h1 := ih (j + 1) (by omega) (by rw [List.take_succ_eq_append_getElem hlt2, List.all_append, ha]; simpa using hd)
      rw [List.take_succ_eq_append_getElem hlt2, val_snoc] at h1
      refine Ev.step (fun k => ?_) h1
      simp only [spec_l01Number.l0]
      have e := num_step1 (val (s.data.toList.take j)) s.data.toList[j].toNat hv hd2.1 hd2.2
      rw [if_pos (by omega), if_pos (by omega), hbt, if_neg (by omega), if_neg (by omega), hw1, e]
    · have hno : ¬ s.data.toList.all digit = true := fun h => hd (List.all_eq_true.1 h _ (List.getElem_mem hlt2))
      rw [if_neg hno]
      refine Ev.step (f := fun _ => some (0, false)) (fun k => ?_) (Ev.now _)
      unfold digit at hd
      simp only [Bool.and_eq_true, decide_eq_true_eq] at hd
      simp only [spec_l01Number.l0]
      rw [if_pos (by omega), if_pos (by omega), hbt]
      by_cases c : (s.data.toList[j].toNat : Int) < 48
      · rw [if_pos c]
      · rw [if_neg c, if_pos (by omega)]
theorem impl_num_loop (s : ByteArray) (hs : s.size ≤ 9) (d : Nat) : ∀ j : Nat, s.size = j + d → (s.data.toList.take j).all digit = true →
    Ev (fun k => impl_number.l0 k s (val (s.data.toList.take j) : Int) (s.size : Int) (j : Int)) (if s.data.toList.all digit = true then ((val s.data.toList : Int), true) else (0, false)) := by
  have hsz : s.data.toList.length = s.size := by simp
  induction d with
  | zero =>
    intro j hj ha
    rw [List.take_of_length_le (by omega)] at ha ⊢
    rw [if_pos ha]
    refine Ev.step (f := fun _ => some ((val s.data.toList : Int), true)) (fun k => ?_) (Ev.now _)
    simp only [impl_number.l0]
    rw [if_neg (by omega)]
  | succ d ih =>
    intro j hj ha
    have hlt : j < s.size := by omega
    have hlt2 : j < s.data.toList.length := by omega
    have hbt := byte_at hlt
    have hw1 : wrap64 ((j : Int) + 1) = ((j + 1 : Nat) : Int) := by unfold wrap64; omega
    have hv := val_small ha (by rw [List.length_take]; omega)
    by_cases hd : digit s.data.toList[j] = true
    · have hd2 := hd
      unfold digit at hd2
      simp only [Bool.and_eq_true, decide_eq_true_eq] at hd2
      have h1 := ih (j + 1) (by omega) (by rw [List.take_succ_eq_append_getElem hlt2, List.all_append, ha]; simpa using hd)
      rw [List.take_succ_eq_append_getElem hlt2, val_snoc] at h1
      refine Ev.step (fun k => ?_) h1
      simp only [impl_number.l0]
      have e := num_step2 (val (s.data.toList.take j)) s.data.toList[j].toNat hv hd2.1 hd2.2
      rw [if_pos (by omega), if_pos (by omega), if_pos (by omega), hbt, if_neg (by omega), if_neg (by omega), hw1, e]
    · have hno : ¬ s.data.toList.all digit = true := fun h => hd (List.all_eq_true.1 h _ (List.getElem_mem hlt2))
      rw [if_neg hno]
      refine Ev.step (f := fun _ => some (0, false)) (fun k => ?_) (Ev.now _)
      unfold digit at hd
      simp only [Bool.and_eq_true, decide_eq_true_eq] at hd
      simp only [impl_number.l0]
      rw [if_pos (by omega), if_pos (by omega), if_pos (by omega), hbt]
      by_cases c : (s.data.toList[j].toNat : Int) < 48
      · rw [if_pos c]
      · rw [if_neg c, if_pos (by omega)]
theorem numR_cases (n : Nat) (hn : n ≤ 9) (s : ByteArray) : (s.toList = ([] : List UInt8) → numR n s = (0, false)) ∧ (n < s.size → numR n s = (0, false)) ∧
    (0 < s.size → s.size ≤ n → bt s 0 = 48 → 1 < s.size → numR n s = (0, false)) ∧ (0 < s.size → s.size ≤ n → (bt s 0 = 48 → ¬ 1 < s.size) → numR n s = if s.data.toList.all digit = true then ((val s.data.toList : Int), true) else (0, false)) := by
  have hsz : s.data.toList.length = s.size := by simp
  have hhd : ∀ h : 0 < s.size, (s.data.toList.head? = some 48 ↔ bt s 0 = 48) := by
    intro h
    have h2 : 0 < s.data.toList.length := by omega
    have hb := byte_at h
    rw [Int.natCast_zero] at hb
    rw [hb, List.head?_eq_getElem?, List.getElem?_eq_getElem h2]
    constructor
    · intro e
      rw [Option.some.inj e]
      rfl
    · intro e
      congr 1
      exact UInt8.toNat_inj.1 (by have : (48 : UInt8).toNat = 48 := rfl; omega)
  refine ⟨fun h => ?_, fun h => ?_, fun h0 h1 h2 h3 => ?_, fun h0 h1 h2 => ?_⟩
  · unfold numR numOk
    rw [toList_eq] at h
    rw [h]
    simp
  · unfold numR
    rw [if_neg (by omega)]
  · unfold numR numOk
    rw [if_neg]
    intro h
    have := h.1
    rw [decide_eq_true ((hhd h0).2 h2), decide_eq_true (show 1 < s.data.toList.length by omega)] at this
    simp at this
  · have hne : s.data.toList ≠ [] := fun e => by rw [e] at hsz; simp at hsz; omega
    have hl : (decide (s.data.toList.head? = some 48) && decide (1 < s.data.toList.length)) = false := by
      by_cases c : bt s 0 = 48
      · rw [decide_eq_false (show ¬ 1 < s.data.toList.length from by have := h2 c; omega), Bool.and_false]
      · rw [decide_eq_false (fun e => c ((hhd h0).1 e)), Bool.false_and]
    unfold numR numOk
    rw [hl, decide_eq_true hne]
    simp only [Bool.not_false, Bool.and_self, Bool.true_and]
    by_cases c : s.data.toList.all digit = true
    · rw [if_pos ⟨c, h1⟩, if_pos c]
    · rw [if_neg (fun e => c e.1), if_neg c]
theorem spec_number (s : ByteArray) : Ev (fun k => spec_l01Number.f k s) (numR 9 s) := by
  obtain ⟨q1, q2, q3, q4⟩ := numR_cases 9 (by omega) s
  unfold spec_l01Number.f
  by_cases c1 : s.toList = ([] : List UInt8)
  · simp only [if_pos c1]
    rw [q1 c1]
    exact Ev.step (f := fun _ => some (0, false)) (fun k => by simp only [spec_l01Number.j0, if_true]) (Ev.now _)
  · simp only [if_neg c1]
    by_cases c2 : (s.size : Int) > 9
    · simp only [if_pos c2]
      rw [q2 (by omega)]
      exact Ev.step (f := fun _ => some (0, false)) (fun k => by simp only [spec_l01Number.j0, if_true]) (Ev.now _)
    · have h0 : 0 < s.size := by
        rcases Nat.eq_zero_or_pos s.size with h | h
        · exfalso
          apply c1
          rw [toList_eq]
          exact List.length_eq_zero_iff.1 (by simpa using h)
        · exact h
      simp only [if_neg c2, if_pos (show (0 : Int) < (s.size : Int) by omega)]
      have hl := spec_num_loop s (by omega) s.size 0 (by omega) rfl
      by_cases c3 : bt s 0 = 48
      · simp only [if_pos c3]
        by_cases c4 : 1 < s.size
        · rw [q3 h0 (by omega) c3 c4]
          exact Ev.step (f := fun _ => some (0, false)) (fun k => by simp only [spec_l01Number.j0]; rw [if_pos (by rw [decide_eq_true_eq]; omega)]) (Ev.now _)
        · rw [q4 h0 (by omega) (fun _ => c4)]
          exact Ev.step (fun k => by simp only [spec_l01Number.j0]; rw [if_neg (by rw [decide_eq_true_eq]; omega)]; rfl) hl
      · simp only [if_neg c3]
        rw [q4 h0 (by omega) (fun h => absurd h c3)]
        exact Ev.step (fun k => by simp only [spec_l01Number.j0, Bool.false_eq_true, if_false]; rfl) hl
theorem impl_num (s : ByteArray) : Ev (fun k => impl_number.f k s) (numR 5 s) := by
  obtain ⟨q1, q2, q3, q4⟩ := numR_cases 5 (by omega) s
  unfold impl_number.f
  by_cases c1 : s.toList = ([] : List UInt8)
  · simp only [if_pos c1]
    rw [q1 c1]
    exact Ev.step (f := fun _ => some (0, false)) (fun k => by simp only [impl_number.j0, if_true]) (Ev.now _)
  · simp only [if_neg c1]
    by_cases c2 : (s.size : Int) > 5
    · simp only [if_pos c2]
      rw [q2 (by omega)]
      exact Ev.step (f := fun _ => some (0, false)) (fun k => by simp only [impl_number.j0, if_true]) (Ev.now _)
    · have h0 : 0 < s.size := by
        rcases Nat.eq_zero_or_pos s.size with h | h
        · exfalso
          apply c1
          rw [toList_eq]
          exact List.length_eq_zero_iff.1 (by simpa using h)
        · exact h
      simp only [if_neg c2, if_pos (show (0 : Int) < (s.size : Int) by omega)]
      have hl := impl_num_loop s (by omega) s.size 0 (by omega) rfl
      by_cases c3 : bt s 0 = 48
      · simp only [if_pos c3]
        by_cases c4 : 1 < s.size
        · rw [q3 h0 (by omega) c3 c4]
          exact Ev.step (f := fun _ => some (0, false)) (fun k => by simp only [impl_number.j0]; rw [if_pos (by rw [decide_eq_true_eq]; omega)]) (Ev.now _)
        · rw [q4 h0 (by omega) (fun _ => c4)]
          exact Ev.step (fun k => by simp only [impl_number.j0]; rw [if_neg (by rw [decide_eq_true_eq]; omega)]; rfl) hl
      · simp only [if_neg c3]
        rw [q4 h0 (by omega) (fun h => absurd h c3)]
        exact Ev.step (fun k => by simp only [impl_number.j0, Bool.false_eq_true, if_false]; rfl) hl
/-- What both say of a number. -/
theorem num_two (s : ByteArray) : ((numR 9 s).2 = true ∧ (numR 9 s).1 ≤ 3000 ↔ (numR 5 s).2 = true ∧ (numR 5 s).1 ≤ 3000) ∧ ((numR 5 s).2 = true → (numR 9 s).2 = true ∧ (numR 9 s).1 = (numR 5 s).1) ∧ 0 ≤ (numR 9 s).1 ∧ 0 ≤ (numR 5 s).1 ∧ (numR 5 s).1 ≤ 99999 ∧ (numR 9 s).1 ≤ 999999999 := by
  have hsz : s.data.toList.length = s.size := by simp
  unfold numR
  by_cases h : numOk s.data.toList = true
  · have hall : s.data.toList.all digit = true := by
      unfold numOk at h
      rw [Bool.and_eq_true] at h
      exact h.2
    have hv := val_lt hall
    by_cases c5 : s.size ≤ 5
    · have hp : (10 : Nat) ^ s.data.toList.length ≤ 10 ^ 5 := Nat.pow_le_pow_right (by omega) (by omega)
      rw [if_pos ⟨h, by omega⟩, if_pos ⟨h, c5⟩]
      exact ⟨Iff.rfl, fun _ => ⟨rfl, rfl⟩, by omega, by omega, by omega, by omega⟩
    · rw [if_neg (show ¬ (numOk s.data.toList = true ∧ s.size ≤ 5) from fun e => c5 e.2)]
      by_cases c9 : s.size ≤ 9
      · have hp : (10 : Nat) ^ s.data.toList.length ≤ 10 ^ 9 := Nat.pow_le_pow_right (by omega) (by omega)
        have hg := val_ge h (by omega)
        rw [if_pos ⟨h, c9⟩]
        refine ⟨⟨fun e => ?_, fun e => (by cases e.1)⟩, fun e => (by cases e), by omega, by omega, by omega, by omega⟩
        have := e.2
        exfalso
        simp only at this
        omega
      · rw [if_neg (fun e => c9 e.2)]
        exact ⟨Iff.rfl, fun e => (by cases e), by omega, by omega, by omega, by omega⟩
  · rw [if_neg (fun e => h e.1), if_neg (fun e => h e.1)]
    exact ⟨Iff.rfl, fun e => (by cases e), by omega, by omega, by omega, by omega⟩

theorem rd_at {xs : List ByteArray} {j : Nat} (h : j < xs.length) : rdOf ByteArray.empty xs (j : Int) = xs[j] := by
  unfold rdOf
  rw [Int.toNat_natCast, List.getD_eq_getElem?_getD, List.getElem?_eq_getElem h]
  rfl
theorem i16_small {n : Int} (h : 0 ≤ n ∧ n ≤ 3000) : IntKind.i16.wrap n = n := by
  simp [IntKind.wrap, IntKind.signed, IntKind.bits]
  omega
theorem i8_small {n : Int} (h : 0 ≤ n ∧ n ≤ 127) : IntKind.i8.wrap n = n := by
  simp [IntKind.wrap, IntKind.signed, IntKind.bits]
  omega
theorem index_app (c : UInt8) (x r : List UInt8) (hx : ∀ b ∈ x, b ≠ c) : Go.Lib.index (x ++ c :: r) [c] = (x.length : Int) := by
  induction x with
  | nil => rw [List.nil_append, index_cons1, if_pos rfl]; rfl
  | cons b x ih =>
    have h1 := ih (fun y hy => hx y (List.mem_cons_of_mem _ hy))
    rw [List.cons_append, index_cons1, if_neg (hx b (List.mem_cons_self ..)), h1, if_neg (by omega), List.length_cons]
    omega
theorem index_no (c : UInt8) (x : List UInt8) (hx : ∀ b ∈ x, b ≠ c) : Go.Lib.index x [c] = -1 := by
  induction x with
  | nil => rfl
  | cons b x ih =>
    rw [index_cons1, if_neg (hx b (List.mem_cons_self ..)), ih (fun y hy => hx y (List.mem_cons_of_mem _ hy)), if_pos rfl]
theorem sp_cons (c : UInt8) (x r : List UInt8) (hx : ∀ b ∈ x, b ≠ c) : sp c (x ++ c :: r) = x :: sp c r := by
  have e : sp c (c :: r) = [] :: sp c r := by rw [sp, if_pos rfl]
  rw [sp_app c x hx _ _ _ e, List.append_nil]
theorem cut_two (c : UInt8) (l : List UInt8) : ((∀ b ∈ l, b ≠ c) ∧ Go.Lib.cut l [c] = (l, [], false)) ∨ ∃ x r, (∀ b ∈ x, b ≠ c) ∧ l = x ++ c :: r ∧ Go.Lib.cut l [c] = (x, r, true) := by
  by_cases h : c ∈ l
  · obtain ⟨x, r, rfl, hx⟩ := List.eq_append_cons_of_mem h
    have hx2 : ∀ b ∈ x, b ≠ c := fun b hb e => hx (e ▸ hb)
    refine .inr ⟨x, r, hx2, rfl, ?_⟩
    unfold Go.Lib.cut
    rw [index_app c x r hx2, if_pos (by omega), Int.toNat_natCast]
    simp
  · have hx : ∀ b ∈ l, b ≠ c := fun b hb e => h (e ▸ hb)
    refine .inl ⟨hx, ?_⟩
    unfold Go.Lib.cut
    rw [index_no c l hx, if_neg (by omega)]
theorem numR_bad (n : Nat) (s : ByteArray) (h : s.data.toList.all digit = false) : (numR n s).2 = false := by
  unfold numR numOk
  rw [h, Bool.and_false, if_neg (by simp)]
theorem cut_step (w : ByteArray) (hw : w.size ≤ 10000000) (c : UInt8) (hd : digit c = false) : ∃ (pc : List ByteArray) (u v : ByteArray) (f : Bool), Ev (fun k => spec_l01Split.f k w (c.toNat : Int)) pc ∧ strings_Cut.f w (⟨#[c]⟩ : ByteArray) = some (u, v, f) ∧ (pc = [u, v] ∨ pc.length ≠ 2 ∧ (numR 5 v).2 = false) := by
  obtain ⟨pc, h1, h2, _⟩ := both_split w c hw
  have hcut : strings_Cut.f w (⟨#[c]⟩ : ByteArray) = some (⟨(Go.Lib.cut w.data.toList [c]).1.toArray⟩, ⟨(Go.Lib.cut w.data.toList [c]).2.1.toArray⟩, (Go.Lib.cut w.data.toList [c]).2.2) := by
    unfold strings_Cut.f
    rw [if_pos (by omega)]
  refine ⟨pc, _, _, _, h2, hcut, ?_⟩
  have hl : pc.length = (sp c w.data.toList).length := by rw [← h1, List.length_map]
  rcases cut_two c w.data.toList with ⟨hx, hc⟩ | ⟨x, r, hx, hl2, hc⟩
  · right
    rw [hc]
    rw [sp_none c _ hx] at hl
    exact ⟨by rw [hl, List.length_singleton]; omega, by unfold numR numOk; simp⟩
  · rw [hc]
    rw [hl2, sp_cons c x r hx] at h1 hl
    by_cases hr : c ∈ r
    · right
      obtain ⟨x2, r2, rfl, hx2⟩ := List.eq_append_cons_of_mem hr
      rw [sp_cons c x2 r2 (fun b hb e => hx2 (e ▸ hb))] at hl
      have := sp_len c r2
      refine ⟨by rw [hl, List.length_cons, List.length_cons]; omega, numR_bad _ _ ?_⟩
      simp [hd]
    · left
      rw [sp_none c r (fun b hb e => hr (e ▸ hb))] at h1
      exact map_inj h1
/-- What may stand among the waters that are read. -/
def FO (m : Int) (l : List S47) : Prop := ∀ x ∈ l, (0 ≤ x.f0 ∧ x.f0 ≤ 3000) ∧ 0 ≤ x.f1 ∧ x.f1 ≤ m
theorem FO.snoc {m : Int} {l : List S47} (h : FO m l) {x : S47} (h0 : 0 ≤ x.f0 ∧ x.f0 ≤ 3000) (h1 : 0 ≤ x.f1 ∧ x.f1 ≤ m) : FO m (l ++ [x]) := by
  intro y hy
  rcases List.mem_append.1 hy with hy | hy
  · exact h y hy
  · rw [List.mem_singleton.1 hy]; exact ⟨h0, h1⟩
theorem FO.fits {m : Int} {l : List S47} (h : FO m l) (hm : m ≤ 127) : Fits l := by
  intro i
  unfold M V
  by_cases hi : i < l.length
  · rw [rdWater hi]
    have := h _ (List.getElem_mem hi)
    omega
  · have e : rd_T47 l (i : Int) = z47 := by
      unfold rd_T47
      rw [Int.toNat_natCast, List.getD_eq_getElem?_getD, List.getElem?_eq_none (by omega)]
      rfl
    rw [e]
    exact ⟨by decide, by decide⟩
theorem not_tides {l : List S47} (h : ∃ x ∈ l, 100 < x.f1) : ¬ Tides l := by
  obtain ⟨x, hx, hg⟩ := h
  obtain ⟨i, hi, rfl⟩ := List.getElem_of_mem hx
  intro ht
  have := V_bd ht hi
  unfold V at this
  rw [rdWater hi] at this
  omega
def good (m : Int) (p q : Int × Bool) : Prop := p.2 = true ∧ p.1 ≤ 3000 ∧ q.2 = true ∧ q.1 ≤ m
theorem impl_sm (v : ByteArray) : Ev (fun k => impl_small.f k v) (if (numR 5 v).2 = true ∧ (numR 5 v).1 ≤ 127 then ((numR 5 v).1, true) else (IntKind.i8.wrap (mn (numR 5 v).1 127), false)) := by
  have hb := (num_two v).2.2.2.1
  refine Ev.bind (impl_num v) ?_
  by_cases c : (numR 5 v).2 = true
  · simp only [if_pos c]
    by_cases c2 : (numR 5 v).1 ≤ 127
    · rw [if_pos ⟨c, c2⟩, decide_eq_true c2]
      have e : mn (numR 5 v).1 127 = (numR 5 v).1 := by unfold mn; omega
      rw [e, i8_small ⟨hb, c2⟩]
      exact Ev.now _
    · rw [if_neg (show ¬ ((numR 5 v).2 = true ∧ (numR 5 v).1 ≤ 127) from fun h => c2 h.2), decide_eq_false c2]
      exact Ev.now _
  · simp only [if_neg c]
    rw [if_neg (show ¬ ((numR 5 v).2 = true ∧ (numR 5 v).1 ≤ 127) from fun h => c h.1)]
    exact Ev.now _
theorem impl_step (ts : List ByteArray) (out : List S47) (hol : out.length ≤ 1000000) {j : Nat} (hlt : j < ts.length) (hts : ts.length ≤ 1000000) {u v : ByteArray} {f : Bool} (hcut : strings_Cut.f ts[j] (⟨#[64]⟩ : ByteArray) = some (u, v, f)) :
    (good 127 (numR 5 u) (numR 5 v) → ∀ q, Ev (fun k => impl_ReadTides.l0 k (out ++ [⟨(numR 5 u).1, (numR 5 v).1⟩]) ts (ts.length : Int) ((j + 1 : Nat) : Int)) q → Ev (fun k => impl_ReadTides.l0 k out ts (ts.length : Int) (j : Int)) q) ∧
    (¬ good 127 (numR 5 u) (numR 5 v) → Ev (fun k => impl_ReadTides.l0 k out ts (ts.length : Int) (j : Int)) ([], 5)) := by
  have hw1 : wrap64 ((j : Int) + 1) = ((j + 1 : Nat) : Int) := by unfold wrap64; omega
  have hu := (num_two u).2.2.2.1
  have st := fun k : Nat => show impl_ReadTides.l0 (k + 1) out ts (ts.length : Int) (j : Int) = (impl_number.f k u).bind fun bt184 => ((impl_small.f k v).bind fun bt186 => (if bt184.2 = true then (if bt186.2 = true then (if bt184.1 > 3000 then (some (([] : List S47), 5)) else (if out.length < 35184372088832 then (impl_ReadTides.l0 k (out ++ [(⟨IntKind.i16.wrap (bt184.1), bt186.1⟩ : S47)]) ts (ts.length : Int) ((j + 1 : Nat) : Int)) else (none))) else (some (([] : List S47), 5))) else (some (([] : List S47), 5)))) by
    simp only [impl_ReadTides.l0]
    rw [if_pos (by omega), if_pos (by omega), if_pos (by omega), rd_at hlt, hcut, hw1]
    rfl
  constructor
  · intro g q hq
    refine Ev.step st (Ev.bind (impl_num u) (Ev.bind (impl_sm v) ?_))
    rw [if_pos (show (numR 5 v).2 = true ∧ (numR 5 v).1 ≤ 127 from ⟨g.2.2.1, g.2.2.2⟩)]
    have k1 : ¬ (numR 5 u).1 > 3000 := by have := g.2.1; omega
    have k2 : out.length < 35184372088832 := by omega
    simp only [if_pos g.1, if_true, if_neg k1, if_pos k2]
    rw [i16_small ⟨hu, g.2.1⟩]
    exact hq
  · intro g
    refine Ev.step st (Ev.bind (impl_num u) (Ev.bind (impl_sm v) ?_))
    by_cases c1 : (numR 5 u).2 = true
    · simp only [if_pos c1]
      by_cases c2 : (numR 5 v).2 = true ∧ (numR 5 v).1 ≤ 127
      · rw [if_pos c2]
        have k1 : (numR 5 u).1 > 3000 := by have : ¬ (numR 5 u).1 ≤ 3000 := fun h => g ⟨c1, h, c2.1, c2.2⟩; omega
        simp only [if_true, if_pos k1]
        exact Ev.now _
      · rw [if_neg c2]
        simp only [Bool.false_eq_true, if_false]
        exact Ev.now _
    · simp only [if_neg c1]
      exact Ev.now _
theorem spec_step (ts : List ByteArray) (out : List S47) (hol : out.length ≤ 10000000) {j : Nat} (hlt : j < ts.length) (hts : ts.length ≤ 10000000) {pc : List ByteArray} (hp : Ev (fun k => spec_l01Split.f k ts[j] 64) pc) :
    (∀ u v, pc = [u, v] → good 100 (numR 9 u) (numR 9 v) → ∀ q, Ev (fun k => spec_ReadTides.l0 k (out ++ [⟨(numR 9 u).1, (numR 9 v).1⟩]) ts ((j + 1 : Nat) : Int)) q → Ev (fun k => spec_ReadTides.l0 k out ts (j : Int)) q) ∧
    (∀ u v, pc = [u, v] → ¬ good 100 (numR 9 u) (numR 9 v) → Ev (fun k => spec_ReadTides.l0 k out ts (j : Int)) ([], 5)) ∧
    (pc.length ≠ 2 → Ev (fun k => spec_ReadTides.l0 k out ts (j : Int)) ([], 5)) := by
  have hw1 : wrap64 ((j : Int) + 1) = ((j + 1 : Nat) : Int) := by unfold wrap64; omega
  have st := fun k : Nat => show spec_ReadTides.l0 (k + 1) out ts (j : Int) = (spec_l01Split.f k ts[j] 64).bind fun t136 => (if (t136.length : Int) = 2 then (if 0 < (t136.length : Int) then ((spec_l01Number.f k (rdOf ByteArray.empty t136 0)).bind fun bt143 => (if 1 < (t136.length : Int) then ((spec_l01Number.f k (rdOf ByteArray.empty t136 1)).bind fun bt146 => (if bt143.2 = true then (if bt146.2 = true then (if bt143.1 > 3000 then (some ((([] : List S47)), 5)) else (if bt146.1 > 100 then (some ((([] : List S47)), 5)) else (if out.length < 35184372088832 then (spec_ReadTides.l0 k (out ++ [(⟨IntKind.i16.wrap (bt143.1), IntKind.i8.wrap (bt146.1)⟩ : S47)]) ts ((j + 1 : Nat) : Int)) else (none)))) else (some ((([] : List S47)), 5))) else (some ((([] : List S47)), 5)))) else (none))) else (none)) else (some ((([] : List S47)), 5))) by
    simp only [spec_ReadTides.l0]
    rw [if_pos (by omega), if_pos (by omega), rd_at hlt, hw1]
  refine ⟨?_, ?_, ?_⟩
  · rintro u v rfl g q hq
    refine Ev.step st (Ev.bind hp ?_)
    have hu := (num_two u).2.2.1
    have hv := (num_two v).2.2.1
    have k1 : (([u, v] : List ByteArray).length : Int) = 2 := rfl
    have k2 : (0 : Int) < (([u, v] : List ByteArray).length : Int) := by rw [k1]; omega
    have k3 : (1 : Int) < (([u, v] : List ByteArray).length : Int) := by rw [k1]; omega
    simp only [if_pos k1, if_pos k2]
    refine Ev.bind (spec_number u) ?_
    simp only [if_pos k3]
    refine Ev.bind (spec_number v) ?_
    have k4 : ¬ (numR 9 u).1 > 3000 := by have := g.2.1; omega
    have k5 : ¬ (numR 9 v).1 > 100 := by have := g.2.2.2; omega
    have k6 : out.length < 35184372088832 := by omega
    simp only [if_pos g.1, if_pos g.2.2.1, if_neg k4, if_neg k5, if_pos k6]
    rw [i16_small ⟨hu, g.2.1⟩, i8_small ⟨hv, by have := g.2.2.2; omega⟩]
    exact hq
  · rintro u v rfl g
    refine Ev.step st (Ev.bind hp ?_)
    have k1 : (([u, v] : List ByteArray).length : Int) = 2 := rfl
    have k2 : (0 : Int) < (([u, v] : List ByteArray).length : Int) := by rw [k1]; omega
    have k3 : (1 : Int) < (([u, v] : List ByteArray).length : Int) := by rw [k1]; omega
    simp only [if_pos k1, if_pos k2]
    refine Ev.bind (spec_number u) ?_
    simp only [if_pos k3]
    refine Ev.bind (spec_number v) ?_
    by_cases c1 : (numR 9 u).2 = true
    · simp only [if_pos c1]
      by_cases c2 : (numR 9 v).2 = true
      · simp only [if_pos c2]
        by_cases c3 : (numR 9 u).1 > 3000
        · simp only [if_pos c3]
          exact Ev.now _
        · have k5 : (numR 9 v).1 > 100 := by have : ¬ (numR 9 v).1 ≤ 100 := fun h => g ⟨c1, by omega, c2, h⟩; omega
          simp only [if_neg c3, if_pos k5]
          exact Ev.now _
      · simp only [if_neg c2]
        exact Ev.now _
    · simp only [if_neg c1]
      exact Ev.now _
  · intro hne
    refine Ev.step st (Ev.bind hp ?_)
    have k1 : ¬ (pc.length : Int) = 2 := by omega
    simp only [if_neg k1]
    exact Ev.now _
theorem impl_end (ts : List ByteArray) (out : List S47) (hf : Fits out) (hl : out.length ≤ 1048576) (b : Bool) (hb : Ev (fun k => impl_ValidTides.f k out) b) : Ev (fun k => impl_ReadTides.l0 k out ts (ts.length : Int) (ts.length : Int)) (if b = true then (out, 0) else ([], 5)) := by
  refine Ev.step (f := fun k => (impl_ValidTides.f k out).bind fun t179 => (if t179 = true then (some (out, 0)) else (some (([] : List S47), 5)))) (fun k => ?_) (Ev.bind hb ?_)
  · simp only [impl_ReadTides.l0]
    rw [if_neg (by omega)]
  · cases b <;> exact Ev.now _
theorem spec_end (ts : List ByteArray) (out : List S47) (b : Bool) (hb : Ev (fun k => spec_l02Tides.f k out) b) : Ev (fun k => spec_ReadTides.l0 k out ts (ts.length : Int)) (if b = true then (out, 0) else ([], 5)) := by
  refine Ev.step (f := fun k => (spec_l02Tides.f k out).bind fun t131 => (if t131 = true then (some (out, 0)) else (some ((([] : List S47)), 5)))) (fun k => ?_) (Ev.bind hb ?_)
  · simp only [spec_ReadTides.l0]
    rw [if_neg (by omega)]
  · cases b <;> exact Ev.now _
theorem bad_loop (ts : List ByteArray) (hts : ts.length ≤ 1000000) (hws : ∀ w ∈ ts, w.size ≤ 10000000) (d : Nat) : ∀ (j : Nat) (out : List S47), ts.length = j + d → out.length ≤ j → FO 127 out → (∃ x ∈ out, 100 < x.f1) →
    Ev (fun k => impl_ReadTides.l0 k out ts (ts.length : Int) (j : Int)) ([], 5) := by
  induction d with
  | zero =>
    intro j out hj ho hfo hbad
    obtain ⟨b, h1, h2⟩ := impl_tides out (hfo.fits (by omega)) (by omega)
    have hb : b = false := by
      cases b
      · rfl
      · exact absurd (h2.1 rfl) (not_tides hbad)
    subst hb
    have := impl_end ts out (hfo.fits (by omega)) (by omega) false h1
    rw [show (j : Int) = (ts.length : Int) by omega]
    exact this
  | succ d ih =>
    intro j out hj ho hfo hbad
    have hlt : j < ts.length := by omega
    obtain ⟨pc, u, v, f, _, hcut, _⟩ := cut_step ts[j] (hws _ (List.getElem_mem hlt)) 64 (by decide)
    obtain ⟨s1, s2⟩ := impl_step ts out (by omega) hlt hts hcut
    by_cases g : good 127 (numR 5 u) (numR 5 v)
    · refine s1 g _ (ih (j + 1) _ (by omega) (by rw [List.length_append, List.length_singleton]; omega) (hfo.snoc ⟨(num_two u).2.2.2.1, g.2.1⟩ ⟨(num_two v).2.2.2.1, g.2.2.2⟩) ?_)
      obtain ⟨x, hx, hg⟩ := hbad
      exact ⟨x, List.mem_append_left _ hx, hg⟩
    · exact s2 g
theorem read_loop (ts : List ByteArray) (hts : ts.length ≤ 8) (hws : ∀ w ∈ ts, w.size ≤ 10000000) (d : Nat) : ∀ (j : Nat) (out : List S47), ts.length = j + d → out.length ≤ j → FO 100 out →
    ∃ q : List S47 × Int, q.1.length ≤ 8 ∧ Ev (fun k => spec_ReadTides.l0 k out ts (j : Int)) q ∧ Ev (fun k => impl_ReadTides.l0 k out ts (ts.length : Int) (j : Int)) q := by
  induction d with
  | zero =>
    intro j out hj ho hfo
    have hf := hfo.fits (by omega)
    obtain ⟨b, h1, h2, _⟩ := EvB.same (spec_tides out hf (by omega)) (impl_tides out hf (by omega))
    rw [show (j : Int) = (ts.length : Int) by omega]
    refine ⟨if b = true then (out, 0) else ([], 5), ?_, spec_end ts out b h1, impl_end ts out hf (by omega) b h2⟩
    cases b
    · exact Nat.zero_le _
    · show out.length ≤ 8
      omega
  | succ d ih =>
    intro j out hj ho hfo
    have hlt : j < ts.length := by omega
    obtain ⟨pc, u, v, f, hp, hcut, hpc⟩ := cut_step ts[j] (hws _ (List.getElem_mem hlt)) 64 (by decide)
    obtain ⟨s1, s2⟩ := impl_step ts out (by omega) hlt (by omega) hcut
    obtain ⟨t1, t2, t3⟩ := spec_step ts out (by omega) hlt (by omega) hp
    obtain ⟨u1, u2, u3, u4, _, _⟩ := num_two u
    obtain ⟨v1, v2, v3, v4, _, _⟩ := num_two v
    rcases hpc with hpc | ⟨hne, hv0⟩
    · by_cases g9 : good 100 (numR 9 u) (numR 9 v)
      · have hu5 := u1.1 ⟨g9.1, g9.2.1⟩
        have hv5 := v1.1 ⟨g9.2.2.1, by have := g9.2.2.2; omega⟩
        have eu := (u2 hu5.1).2
        have ev := (v2 hv5.1).2
        obtain ⟨q, q1, q2, q3⟩ := ih (j + 1) (out ++ [⟨(numR 9 u).1, (numR 9 v).1⟩]) (by omega) (by rw [List.length_append, List.length_singleton]; omega) (hfo.snoc ⟨u3, g9.2.1⟩ ⟨v3, g9.2.2.2⟩)
        refine ⟨q, q1, t1 u v hpc g9 q q2, s1 ⟨hu5.1, hu5.2, hv5.1, ?_⟩ q ?_⟩
        · rw [← ev]; have := g9.2.2.2; omega
        · rw [← eu, ← ev]; exact q3
      · refine ⟨([], 5), Nat.zero_le _, t2 u v hpc g9, ?_⟩
        by_cases g5 : good 127 (numR 5 u) (numR 5 v)
        · have hu9 := u1.2 ⟨g5.1, g5.2.1⟩
          have hv9 := v2 g5.2.2.1
          have hgt : 100 < (numR 5 v).1 := by
            rcases Int.lt_or_le 100 (numR 5 v).1 with h | h
            · exact h
            · exact absurd ⟨hu9.1, hu9.2, hv9.1, by rw [hv9.2]; exact h⟩ g9
          have hfo2 : FO 127 out := fun x hx => by have := hfo x hx; omega
          refine s1 g5 _ (bad_loop ts (by omega) hws d (j + 1) _ (by omega) (by rw [List.length_append, List.length_singleton]; omega) (hfo2.snoc ⟨u4, g5.2.1⟩ ⟨v4, g5.2.2.2⟩) ⟨_, List.mem_append_right _ (List.mem_singleton.2 rfl), hgt⟩)
        · exact s2 g5
    · exact ⟨([], 5), Nat.zero_le _, t3 hne, s2 (fun g => by have := g.2.2.1; rw [hv0] at this; cases this)⟩
theorem long_loop (ts : List ByteArray) (hts : ts.length ≤ 10000000) (h8 : 8 < ts.length) (hws : ∀ w ∈ ts, w.size ≤ 10000000) (d : Nat) : ∀ (j : Nat) (out : List S47), ts.length = j + d → out.length = j → ts.length ≤ 1048577 → FO 100 out →
    Ev (fun k => spec_ReadTides.l0 k out ts (j : Int)) ([], 5) := by
  induction d with
  | zero =>
    intro j out hj ho ht2 hfo
    obtain ⟨b, h1, h2⟩ := spec_tides out (hfo.fits (by omega)) (by omega)
    have hb : b = false := by
      cases b
      · rfl
      · have := (h2.1 rfl).1
        omega
    subst hb
    have := spec_end ts out false h1
    rw [show (j : Int) = (ts.length : Int) by omega]
    exact this
  | succ d ih =>
    intro j out hj ho ht2 hfo
    have hlt : j < ts.length := by omega
    obtain ⟨pc, u, v, f, hp, _, hpc⟩ := cut_step ts[j] (hws _ (List.getElem_mem hlt)) 64 (by decide)
    obtain ⟨t1, t2, t3⟩ := spec_step ts out (by omega) hlt (by omega) hp
    rcases hpc with hpc | ⟨hne, _⟩
    · by_cases g9 : good 100 (numR 9 u) (numR 9 v)
      · refine t1 u v hpc g9 _ (ih (j + 1) _ (by omega) (by rw [List.length_append, List.length_singleton]; omega) ht2 (hfo.snoc ⟨(num_two u).2.2.1, g9.2.1⟩ ⟨(num_two v).2.2.1, g9.2.2.2⟩))
      · exact t2 u v hpc g9
    · exact t3 hne
/-- Both read a text alike. -/
theorem both_read (s : ByteArray) (hs : s.size ≤ 1048576) : ∃ q : List S47 × Int, q.1.length ≤ 8 ∧ Ev (fun k => spec_ReadTides.f k s) q ∧ Ev (fun k => impl_ReadTides.f k s) q := by
  obtain ⟨ts, h1, h2, h3⟩ := both_split s 32 (by omega)
  have hlen : ts.length = (sp 32 s.data.toList).length := by rw [← h1, List.length_map]
  have hsp := sp_len 32 s.data.toList
  have hsz : s.data.toList.length = s.size := by simp
  have hws : ∀ w ∈ ts, w.size ≤ 10000000 := by
    intro w hw
    have hm : w.data.toList ∈ sp 32 s.data.toList := by rw [← h1]; exact List.mem_map.2 ⟨w, hw, rfl⟩
    have := (sp_mem 32 s.data.toList _ hm).2
    have e : w.data.toList.length = w.size := by simp
    omega
  have e32 : ((32 : UInt8).toNat : Int) = 32 := rfl
  rw [e32] at h2
  have fo0 : FO 100 ([] : List S47) := fun x hx => by cases hx
  unfold spec_ReadTides.f impl_ReadTides.f
  by_cases he : s.toList = ([] : List UInt8)
  · have hw0 : impl_wordsOf.f s = some [] := by unfold impl_wordsOf.f; rw [if_pos he]
    rw [toList_eq] at he
    rw [he] at hlen
    have hl1 : ts.length = 1 := hlen
    obtain ⟨w, rfl⟩ : ∃ w, ts = [w] := by
      match ts, hl1 with
      | [w], _ => exact ⟨w, rfl⟩
    have hw : w.data.toList = [] := by
      rw [he] at h1
      have : [w.data.toList] = [([] : List UInt8)] := h1
      simpa using this
    obtain ⟨pc, u, v, f, hp, _, _⟩ := cut_step w (hws w (List.mem_singleton.2 rfl)) 64 (by decide)
    obtain ⟨pc2, g1, g2, _⟩ := both_split w 64 (hws w (List.mem_singleton.2 rfl))
    have hne : pc2.length ≠ 2 := by
      rw [hw] at g1
      have : pc2.length = 1 := by rw [← List.length_map (f := fun x : ByteArray => x.data.toList), g1]; rfl
      omega
    have hs3 := (spec_step [w] [] (by simp) (j := 0) (by simp) (by simp) g2).2.2 hne
    refine ⟨([], 5), Nat.zero_le _, Ev.bind h2 hs3, ?_⟩
    have k0 : ¬ ((([] : List ByteArray).length : Int) > 8) := by simp
    simp only [hw0, Option.bind_some, if_neg k0]
    obtain ⟨b, b1, b2⟩ := impl_tides ([] : List S47) (fo0.fits (by omega)) (by simp)
    have hb : b = false := by
      cases b
      · rfl
      · have := (b2.1 rfl).1
        simp at this
    subst hb
    exact impl_end [] [] (fo0.fits (by omega)) (by simp) false b1
  · have hw0 : impl_wordsOf.f s = some ts := by
      unfold impl_wordsOf.f
      rw [if_neg he, h3]
      rfl
    simp only [hw0, Option.bind_some]
    by_cases c8 : (ts.length : Int) > 8
    · simp only [if_pos c8]
      exact ⟨([], 5), Nat.zero_le _, Ev.bind h2 (long_loop ts (by omega) (by omega) hws ts.length 0 [] (by omega) rfl (by omega) fo0), Ev.now _⟩
    · simp only [if_neg c8]
      obtain ⟨q, q1, q2, q3⟩ := read_loop ts (by omega) hws ts.length 0 [] (by omega) (Nat.zero_le _) fo0
      exact ⟨q, q1, Ev.bind h2 q2, q3⟩

def FnExactReadTidesPure : Prop := ∀ (a0 : ByteArray), a0.size ≤ 140737488351232 → ∃ k, laws_FnExactReadTides.f k a0 = some true

theorem FnExactReadTides : FnExactReadTidesPure := by
  intro s hn
  refine Ev.rounds ?_
  by_cases hbig : (s.size : Int) > 1048576
  · refine Ev.congr (f := fun _ => some true) (fun k => ?_) (Ev.now _)
    unfold laws_FnExactReadTides.f
    rw [if_pos hbig]
  · obtain ⟨q, hq, hs, hi⟩ := both_read s (by omega)
    have er := eqWater q.1 (by omega)
    obtain ⟨m, x, e, p, o⟩ := markWater q.1 (by omega)
    have hqq : (q.2 != q.2) = false := by simp
    simp only [laws_FnExactReadTides.f, if_neg hbig]
    refine Ev.bind hs (Ev.bind hi (Ev.bind er ?_))
    simp only [if_true, hqq]
    refine Ev.step (fun k => by simp only [laws_FnExactReadTides.j0, Bool.false_eq_true, if_false]; rfl) (Ev.bind e (Ev.bind o ?_))
    simp only [if_neg (show ¬ m < 0 from by omega), if_true]
    refine Ev.bind hi (Ev.bind er ?_)
    simp only [if_true, hqq]
    refine Ev.step (fun k => by simp only [laws_FnExactReadTides.j1, Bool.false_eq_true, if_false]; rfl) (Ev.bind o ?_)
    simp only [if_neg (show ¬ m < 0 from by omega), if_true]
    exact Ev.now _

end Go.Proofs.YtdfhjljlpcjdoaaDoor.Pure
