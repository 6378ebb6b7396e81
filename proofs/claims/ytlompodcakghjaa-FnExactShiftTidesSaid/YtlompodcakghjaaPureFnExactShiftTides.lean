/- ShiftTides of the program answers what the reference's answers, for all arguments. Conditions: none. -/
import Derived.Test.YtlompodcakghjaaPFnExactShiftTidesx5
namespace Go.Proofs.Ytlompodcakghjaa.Pure
open Go.RowKit Go.Proofs.Ytlompodcakghjaa.PFnExactShiftTides Go.Proofs.YtlompodcakghjaaW.PrintWords Go.Proofs.YtlompodcakghjaaW.PrintLast

namespace W
/-- From some number of rounds on it answers a truth value: whether P holds. -/
def EvB (g : Nat → Option Bool) (P : Prop) : Prop := ∃ b, Ev g b ∧ (b = true ↔ P)
theorem EvB.iff {g : Nat → Option Bool} {P Q : Prop} (h : EvB g P) (e : P ↔ Q) : EvB g Q := by
  obtain ⟨b, h1, h2⟩ := h
  exact ⟨b, h1, h2.trans e⟩
theorem EvB.step {g f : Nat → Option Bool} {P : Prop} (h : ∀ k, g (k + 1) = f k) (k : EvB f P) : EvB g P := by
  obtain ⟨b, h1, h2⟩ := k
  exact ⟨b, Ev.step h h1, h2⟩
theorem EvB.congr {g f : Nat → Option Bool} {P : Prop} (h : ∀ k, g k = f k) (k : EvB f P) : EvB g P := by
  obtain ⟨b, h1, h2⟩ := k
  exact ⟨b, Ev.congr h h1, h2⟩
theorem EvB.yes {P : Prop} (h : P) : EvB (fun _ => some true) P := ⟨true, Ev.now _, by simp [h]⟩
theorem EvB.no {P : Prop} (h : ¬ P) : EvB (fun _ => some false) P := ⟨false, Ev.now _, by simp [h]⟩
theorem EvB.bind {α : Type} {g : Nat → Option α} {f : Nat → α → Option Bool} {a : α} {P : Prop} (h : Ev g a) (k : EvB (fun n => f n a) P) : EvB (fun n => (g n).bind (f n)) P := by
  obtain ⟨b, h1, h2⟩ := k
  exact ⟨b, Ev.bind h h1, h2⟩
theorem EvB.same {g f : Nat → Option Bool} {P : Prop} (h : EvB g P) (k : EvB f P) : ∃ b, Ev g b ∧ Ev f b ∧ (b = true ↔ P) := by
  obtain ⟨b, h1, h2⟩ := h
  obtain ⟨c, h3, h4⟩ := k
  have e : c = b := by rw [Bool.eq_iff_iff, h4, h2]
  subst e
  exact ⟨c, h1, h3, h2⟩

/-! ### Water -/
theorem rdWater {xs : List S49} {j : Nat} (h : j < xs.length) : rd_T49 xs (j : Int) = xs[j] := by
  unfold rd_T49
  rw [Int.toNat_natCast, List.getD_eq_getElem?_getD, List.getElem?_eq_getElem h]
  rfl
theorem rdWater' {xs : List S51} {j : Nat} (h : j < xs.length) : rd_T51 xs (j : Int) = xs[j] := by
  unfold rd_T51
  rw [Int.toNat_natCast, List.getD_eq_getElem?_getD, List.getElem?_eq_getElem h]
  rfl
def convWater (x : S51) : S49 := ⟨x.f0, x.f1⟩
theorem toWater_loop (l : List S51) (hl : l.length ≤ 1048576) (d : Nat) : ∀ (j : Nat) (x : List S49), l.length = j + d → x.length = l.length → (∀ i, i < j → x[i]? = (l[i]?).map convWater) → ∀ k, d < k → laws_toWaterS.l0 k l x (j : Int) = some (l.map convWater) := by
  induction d with
  | zero =>
    intro j x hj hx hi k hk
    obtain ⟨k, rfl⟩ : ∃ q, k = q + 1 := ⟨k - 1, by omega⟩
    simp only [laws_toWaterS.l0]
    rw [if_neg (by omega)]
    refine congrArg some (List.ext_getElem? fun i => ?_)
    rw [List.getElem?_map]
    by_cases h : i < j
    · exact hi i h
    · rw [List.getElem?_eq_none (by omega), List.getElem?_eq_none (by omega)]
      rfl
  | succ d ih =>
    intro j x hj hx hi k hk
    obtain ⟨k, rfl⟩ : ∃ q, k = q + 1 := ⟨k - 1, by omega⟩
    have hlt : j < l.length := by omega
    have hw : wrap64 ((j : Int) + 1) = ((j + 1 : Nat) : Int) := by unfold wrap64; omega
    simp only [laws_toWaterS.l0, hw]
    rw [if_pos (by omega), if_pos (by omega), rdWater' hlt]
    simp only [laws_toWater.f, Option.bind_some]
    rw [if_pos (by omega), Int.toNat_natCast]
    refine ih (j + 1) _ (by omega) (by rw [List.length_set]; exact hx) (fun i h => ?_) k (by omega)
    by_cases e : i = j
    · subst e
      rw [List.getElem?_set_self (by omega), List.getElem?_eq_getElem hlt]
      rfl
    · rw [List.getElem?_set_ne (by omega)]
      exact hi i (by omega)
theorem toWater (l : List S51) (hl : l.length ≤ 1048576) : Ev (fun k => laws_toWaterS.f k l) (l.map convWater) := by
  refine ⟨l.length + 1, fun k hk => ?_⟩
  show laws_toWaterS.f k l = _
  unfold laws_toWaterS.f
  rw [if_pos (by omega), Int.toNat_natCast, if_pos (by omega)]
  exact toWater_loop l hl l.length 0 _ (by omega) (by simp) (fun i h => by omega) k (by omega)
theorem szWater (l : List S51) (h : l.length ≤ 9223372036854775807) (a : Int) (ha : 0 ≤ a) (ha2 : a ≤ 1048576) : laws_szWaterS.f l a = some (if a < l.length then -1 else a - l.length) := by
  have hw : wrap64 (a - (l.length : Int)) = a - l.length := by unfold wrap64; omega
  unfold laws_szWaterS.f
  rw [hw]
  by_cases c : a < l.length
  · rw [if_pos (by omega), if_pos c]
  · rw [if_neg (by omega), if_neg c]
theorem eqWater_loop (a : List S49) (ha : a.length ≤ 9223372036854775000) (d : Nat) : ∀ (j : Nat), a.length = j + d → ∀ k, d < k → laws_eqWaterS.l0 k a a (j : Int) = some true := by
  induction d with
  | zero =>
    intro j hj k hk
    obtain ⟨k, rfl⟩ : ∃ q, k = q + 1 := ⟨k - 1, by omega⟩
    simp only [laws_eqWaterS.l0]
    rw [if_neg (by omega)]
  | succ d ih =>
    intro j hj k hk
    obtain ⟨k, rfl⟩ : ∃ q, k = q + 1 := ⟨k - 1, by omega⟩
    have hw : wrap64 ((j : Int) + 1) = ((j + 1 : Nat) : Int) := by unfold wrap64; omega
    simp only [laws_eqWaterS.l0, hw, laws_eqWater.f, if_true, Option.bind_some]
    rw [if_pos (by omega), if_pos (by omega), if_pos (by omega)]
    exact ih (j + 1) (by omega) k (by omega)
theorem eqWater (a : List S49) (ha : a.length ≤ 9223372036854775000) : Ev (fun k => laws_eqWaterS.f k a a) true := by
  refine ⟨a.length + 1, fun k hk => ?_⟩
  show laws_eqWaterS.f k a a = _
  unfold laws_eqWaterS.f
  rw [if_pos rfl]
  exact eqWater_loop a ha a.length 0 (by omega) k (by omega)
/-- What the mark writes at number m. -/
def mkWater (m : Int) : S49 := ⟨IntKind.i16.wrap (m), IntKind.i8.wrap (m + 1)⟩
theorem markWater_loop (d : Nat) : ∀ (j : Nat) (x : List S49) (m : Int), x.length = j + d → x.length ≤ 1099511627776 → 0 ≤ m → m + 2 * d ≤ 1099511627776000 →
    ∃ x', (∀ k, d < k → laws_markWaterS.l0 k x m (j : Int) = some (m + 2 * d, x')) ∧ x'.length = x.length ∧ (∀ i, i < j → x'[i]? = x[i]?) ∧ ∀ i, j ≤ i → i < x.length → x'[i]? = some (mkWater (m + 2 * (i - j))) := by
  induction d with
  | zero =>
    intro j x m hj hx h0 hm
    refine ⟨x, fun k hk => ?_, rfl, fun _ _ => rfl, fun i h1 h2 => by omega⟩
    obtain ⟨k, rfl⟩ : ∃ q, k = q + 1 := ⟨k - 1, by omega⟩
    simp only [laws_markWaterS.l0]
    rw [if_neg (by omega)]
    simp
  | succ d ih =>
    intro j x m hj hx h0 hm
    have hlt : j < x.length := by omega
    have hw : wrap64 ((j : Int) + 1) = ((j + 1 : Nat) : Int) := by unfold wrap64; omega
    have w1 : wrap64 (m + 1) = m + 1 := by unfold wrap64; omega
    have w2 : wrap64 (m + 2) = m + 2 := by unfold wrap64; omega
    have v1 : wrap64 (m + 1 + 1) = m + 2 := by unfold wrap64; omega
    obtain ⟨x', h1, h2, h3, h4⟩ := ih (j + 1) (x.set j (mkWater m)) (m + 2) (by rw [List.length_set]; omega) (by rw [List.length_set]; exact hx) (by omega) (by omega)
    refine ⟨x', fun k hk => ?_, by rw [h2, List.length_set], fun i h => ?_, fun i h h' => ?_⟩
    · obtain ⟨k, rfl⟩ : ∃ q, k = q + 1 := ⟨k - 1, by omega⟩
      have e : m + 2 * ((d + 1 : Nat) : Int) = m + 2 + 2 * (d : Int) := by omega
      rw [e, ← h1 k (by omega)]
      simp only [laws_markWaterS.l0, hw, w1, v1, Int.toNat_natCast, Option.bind_some]
      rw [if_pos (by omega), if_pos (by omega)]
      simp [rd_T49, hlt, mkWater]
    · rw [h3 i (by omega), List.getElem?_set_ne (by omega)]
    · by_cases c : i = j
      · subst c
        rw [h3 i (by omega), List.getElem?_set_self hlt, Int.sub_self, Int.mul_zero, Int.add_zero]
      · rw [h4 i (by omega) (by rw [List.length_set]; exact h')]
        congr 2
        omega
theorem heldWater_loop (d : Nat) : ∀ (j : Nat) (x : List S49) (m : Int), x.length = j + d → x.length ≤ 1099511627776 → 0 ≤ m → m + 2 * d ≤ 1099511627776000 → (∀ i, j ≤ i → i < x.length → x[i]? = some (mkWater (m + 2 * (i - j)))) →
    ∀ k, d < k → laws_heldWaterS.l0 k x m (j : Int) = some (m + 2 * d) := by
  induction d with
  | zero =>
    intro j x m hj hx h0 hm hi k hk
    obtain ⟨k, rfl⟩ : ∃ q, k = q + 1 := ⟨k - 1, by omega⟩
    simp only [laws_heldWaterS.l0]
    rw [if_neg (by omega)]
    simp
  | succ d ih =>
    intro j x m hj hx h0 hm hi k hk
    obtain ⟨k, rfl⟩ : ∃ q, k = q + 1 := ⟨k - 1, by omega⟩
    have hlt : j < x.length := by omega
    have hw : wrap64 ((j : Int) + 1) = ((j + 1 : Nat) : Int) := by unfold wrap64; omega
    have w1 : wrap64 (m + 1) = m + 1 := by unfold wrap64; omega
    have w2 : wrap64 (m + 2) = m + 2 := by unfold wrap64; omega
    have v1 : wrap64 (m + 1 + 1) = m + 2 := by unfold wrap64; omega
    have hr : rd_T49 x (j : Int) = mkWater m := by
      have h := hi j (Nat.le_refl _) hlt
      rw [Int.sub_self, Int.mul_zero, Int.add_zero] at h
      unfold rd_T49
      rw [Int.toNat_natCast, List.getD_eq_getElem?_getD, h]
      rfl
    have e : m + 2 * ((d + 1 : Nat) : Int) = m + 2 + 2 * (d : Int) := by omega
    rw [e, ← ih (j + 1) x (m + 2) (by omega) hx (by omega) (by omega) (fun i h h' => by rw [hi i (by omega) h']; congr 2; omega) k (by omega)]
    simp only [laws_heldWaterS.l0, hw, w1, v1, hr]
    rw [if_pos (by omega), if_pos (by omega)]
    simp [mkWater]
/-- A slice is marked, and holds the marks. -/
theorem markWater (x : List S49) (hx : x.length ≤ 1048576) : ∃ m x', Ev (fun k => laws_markWaterS.f k x 1) (m, x') ∧ 0 ≤ m ∧ Ev (fun k => laws_heldWaterS.f k x' 1) m := by
  obtain ⟨x', h1, h2, h3, h4⟩ := markWater_loop x.length 0 x 1 (by omega) (by omega) (by omega) (by omega)
  refine ⟨1 + 2 * x.length, x', ⟨x.length + 1, fun k hk => h1 k (by omega)⟩, by omega, ⟨x.length + 1, fun k hk => ?_⟩⟩
  exact heldWater_loop x.length 0 x' 1 (by omega) (by omega) (by omega) (by omega) (fun i h h' => h4 i h (by omega)) k (by omega)

theorem i8_of {n : Int} (h : (Lit.int .i8 n).wf = true) : -128 ≤ n ∧ n ≤ 127 := by
  simp [Lit.wf, IntKind.min, IntKind.max, IntKind.signed, IntKind.bits] at h
  omega
theorem i16_of {n : Int} (h : (Lit.int .i16 n).wf = true) : -32768 ≤ n ∧ n ≤ 32767 := by
  simp [Lit.wf, IntKind.min, IntKind.max, IntKind.signed, IntKind.bits] at h
  omega
theorem i64_of {n : Int} (h : (Lit.int .i64 n).wf = true) : -9223372036854775808 ≤ n ∧ n ≤ 9223372036854775807 := by
  simp [Lit.wf, IntKind.min, IntKind.max, IntKind.signed, IntKind.bits] at h
  omega
theorem w64 {n : Int} (h : -9223372036854775808 ≤ n ∧ n ≤ 9223372036854775807) : wrap64 n = n := by unfold wrap64; omega
/-- Water i's minute and level. -/
def M (l : List S49) (i : Nat) : Int := (rd_T49 l (i : Int)).f0
def V (l : List S49) (i : Nat) : Int := (rd_T49 l (i : Int)).f1
def Fits (l : List S49) : Prop := ∀ i : Nat, (-32768 ≤ M l i ∧ M l i ≤ 32767) ∧ (-128 ≤ V l i ∧ V l i ≤ 127)
theorem fits_conv (l : List S51) (h : ∀ x ∈ l, (Lit.int .i16 x.f0).wf = true ∧ (Lit.int .i8 x.f1).wf = true) : Fits (l.map convWater) := by
  intro i
  unfold M V
  by_cases hi : i < (l.map convWater).length
  · rw [rdWater hi, List.getElem_map]
    have := h _ (List.getElem_mem (l := l) (n := i) (by simpa using hi))
    exact ⟨i16_of this.1, i8_of this.2⟩
  · have e : rd_T49 (l.map convWater) (i : Int) = z49 := by
      unfold rd_T49
      rw [Int.toNat_natCast, List.getD_eq_getElem?_getD, List.getElem?_eq_none (by omega)]
      rfl
    rw [e]
    exact ⟨by decide, by decide⟩
/-- Water i is right behind those ahead of it. -/
def okAt (l : List S49) (i : Nat) : Prop := (0 ≤ M l i ∧ M l i ≤ 3000) ∧ (0 ≤ V l i ∧ V l i ≤ 100) ∧ (0 < i → M l (i - 1) + 6 ≤ M l i ∧ V l i ≠ V l (i - 1)) ∧ (1 < i → ¬ (V l i > V l (i - 1) ↔ V l (i - 1) > V l (i - 2)))
def Tides (l : List S49) : Prop := (2 ≤ l.length ∧ l.length ≤ 8) ∧ ∀ q, q < l.length → okAt l q
theorem in_some (a b c : Int) : spec_l00In.f a b c = some (decide (b ≤ a ∧ a ≤ c)) := by
  unfold spec_l00In.f
  by_cases h : a ≥ b
  · rw [if_pos h]; simp [h]
  · rw [if_neg h]; simp; omega
theorem EvB.same_of {g f : Nat → Option Bool} {P : Prop} (h : ∀ k, g k = f k) (k : EvB f P) : EvB g P := EvB.congr h k
theorem dec_beq (p q : Prop) [Decidable p] [Decidable q] : ((decide p == decide q) = true) ↔ (p ↔ q) := by
  by_cases hp : p <;> by_cases hq : q <;> simp [hp, hq]

theorem spec_tides_loop (l : List S49) (hf : Fits l) (hl : l.length ≤ 1048576) (d : Nat) : ∀ i : Nat, l.length = i + d → EvB (fun k => spec_l02Tides.l0 k l (i : Int)) ((2 ≤ l.length ∧ l.length ≤ 8) ∧ ∀ q, i ≤ q → q < l.length → okAt l q) := by
  induction d with
  | zero =>
    intro i hi
    have e : ¬ (i : Int) < l.length := by omega
    refine EvB.step (f := fun _ => some (decide (2 ≤ (l.length : Int) ∧ (l.length : Int) ≤ 8))) (fun k => ?_) ⟨_, Ev.now _, ?_⟩
    · simp only [spec_l02Tides.l0]
      rw [if_neg e, in_some]
      rfl
    · rw [decide_eq_true_iff]
      exact ⟨fun h => ⟨by omega, fun q h1 h2 => by omega⟩, fun h => by omega⟩
  | succ d ih =>
    intro i hi
    have hi1 : (i : Int) < l.length := by omega
    obtain ⟨f0, f1⟩ := hf i
    have w0 : wrap64 (rd_T49 l (i : Int)).f0 = M l i := w64 (by unfold M at f0; omega)
    have w1 : wrap64 (rd_T49 l (i : Int)).f1 = V l i := w64 (by unfold V at f1; omega)
    have hw : wrap64 ((i : Int) + 1) = ((i + 1 : Nat) : Int) := w64 (by omega)
    have no : ∀ {P : Prop}, ¬ okAt l i → ¬ (P ∧ ∀ q, i ≤ q → q < l.length → okAt l q) := fun h g => h (g.2 i (Nat.le_refl _) (by omega))
    have next : okAt l i → (((2 ≤ l.length ∧ l.length ≤ 8) ∧ ∀ q, i + 1 ≤ q → q < l.length → okAt l q) ↔ ((2 ≤ l.length ∧ l.length ≤ 8) ∧ ∀ q, i ≤ q → q < l.length → okAt l q)) := fun h => ⟨fun g => ⟨g.1, fun q h1 h2 => by
      by_cases e : q = i
      · rw [e]; exact h
      · exact g.2 q (by omega) h2⟩, fun g => ⟨g.1, fun q h1 h2 => g.2 q (by omega) h2⟩⟩
    by_cases a0 : 0 ≤ M l i ∧ M l i ≤ 3000
    · by_cases a1 : 0 ≤ V l i ∧ V l i ≤ 100
      · refine EvB.step (f := fun k => spec_l02Tides.j1 k l (i : Int) false (M l i) (V l i)) (fun k => ?_) ?_
        · simp only [spec_l02Tides.l0, w0, w1, in_some, Option.bind_some]
          rw [if_pos hi1, if_pos (by omega), if_pos (decide_eq_true a0), decide_eq_true a1]
          rfl
        · have wm : wrap64 (M l i) = M l i := w64 (by omega)
          by_cases p0 : 0 < i
          · have hp : wrap64 ((i : Int) - 1) = ((i - 1 : Nat) : Int) := by rw [w64 (by omega)]; omega
            obtain ⟨g0, g1⟩ := hf (i - 1)
            have v0 : wrap64 (rd_T49 l ((i - 1 : Nat) : Int)).f0 = M l (i - 1) := w64 (by unfold M at g0; omega)
            have v6 : wrap64 (M l (i - 1) + 6) = M l (i - 1) + 6 := w64 (by omega)
            by_cases b0 : M l i < M l (i - 1) + 6
            · refine EvB.step (f := fun k => spec_l02Tides.j2 k l (i : Int) true (M l i) (V l i)) (fun k => ?_) (EvB.step (f := fun _ => some false) (fun k => by simp [spec_l02Tides.j2]) (EvB.no (no fun h => by have := (h.2.2.1 p0).1; omega)))
              simp only [spec_l02Tides.j1, hp, wm, v0, v6, Bool.false_eq_true, if_false]
              rw [if_pos (by omega), if_pos (by omega), if_pos (by omega), if_pos b0]
            · by_cases b1 : V l i = V l (i - 1)
              · have e1 : (V l i == (rd_T49 l ((i - 1 : Nat) : Int)).f1) = true := beq_iff_eq.2 b1
                refine EvB.step (f := fun k => spec_l02Tides.j2 k l (i : Int) true (M l i) (V l i)) (fun k => ?_) (EvB.step (f := fun _ => some false) (fun k => by simp [spec_l02Tides.j2]) (EvB.no (no fun h => (h.2.2.1 p0).2 b1)))
                simp only [spec_l02Tides.j1, hp, wm, v0, v6, Bool.false_eq_true, if_false]
                rw [if_pos (by omega), if_pos (by omega), if_pos (by omega), if_neg b0, e1]
              · have e1 : (V l i == (rd_T49 l ((i - 1 : Nat) : Int)).f1) = false := beq_eq_false_iff_ne.2 b1
                refine EvB.step (f := fun k => spec_l02Tides.j2 k l (i : Int) false (M l i) (V l i)) (fun k => ?_) ?_
                · simp only [spec_l02Tides.j1, hp, wm, v0, v6, Bool.false_eq_true, if_false]
                  rw [if_pos (by omega), if_pos (by omega), if_pos (by omega), if_neg b0, e1]
                · by_cases p1 : 1 < i
                  · have hp2 : wrap64 ((i : Int) - 2) = ((i - 2 : Nat) : Int) := by rw [w64 (by omega)]; omega
                    by_cases c0 : V l i > V l (i - 1) ↔ V l (i - 1) > V l (i - 2)
                    · refine EvB.step (f := fun _ => some false) (fun k => ?_) (EvB.no (no fun h => h.2.2.2 p1 c0))
                      simp only [spec_l02Tides.j2, hp, hp2, hw, Bool.false_eq_true, if_false]
                      rw [if_pos (by omega), if_pos (by omega), if_pos (by omega), if_pos (by omega), if_pos (by omega), if_pos ((dec_beq (V l i > (rd_T49 l ((i - 1 : Nat) : Int)).f1) ((rd_T49 l ((i - 1 : Nat) : Int)).f1 > (rd_T49 l ((i - 2 : Nat) : Int)).f1)).2 c0)]
                    · refine EvB.step (fun k => ?_) ((ih (i + 1) (by omega)).iff (next ⟨a0, a1, fun _ => ⟨by omega, b1⟩, fun _ => c0⟩))
                      simp only [spec_l02Tides.j2, hp, hp2, hw, Bool.false_eq_true, if_false]
                      rw [if_pos (by omega), if_pos (by omega), if_pos (by omega), if_pos (by omega), if_pos (by omega), if_neg (fun h => c0 ((dec_beq (V l i > (rd_T49 l ((i - 1 : Nat) : Int)).f1) ((rd_T49 l ((i - 1 : Nat) : Int)).f1 > (rd_T49 l ((i - 2 : Nat) : Int)).f1)).1 h))]
                  · refine EvB.step (fun k => ?_) ((ih (i + 1) (by omega)).iff (next ⟨a0, a1, fun _ => ⟨by omega, b1⟩, fun h => absurd h p1⟩))
                    simp only [spec_l02Tides.j2, hw, Bool.false_eq_true, if_false]
                    rw [if_neg (by omega)]
          · refine EvB.step (f := fun k => spec_l02Tides.j2 k l (i : Int) false (M l i) (V l i)) (fun k => ?_) (EvB.step (fun k => ?_) ((ih (i + 1) (by omega)).iff (next ⟨a0, a1, fun h => absurd h p0, fun h => by omega⟩)))
            · simp only [spec_l02Tides.j1, Bool.false_eq_true, if_false]
              rw [if_neg (by omega)]
            · simp only [spec_l02Tides.j2, hw, Bool.false_eq_true, if_false]
              rw [if_neg (by omega)]
      · refine EvB.step (f := fun k => spec_l02Tides.j1 k l (i : Int) true (M l i) (V l i)) (fun k => ?_) (EvB.step (f := fun _ => some false) (fun k => by simp [spec_l02Tides.j1]) (EvB.no (no fun h => a1 h.2.1)))
        simp only [spec_l02Tides.l0, w0, w1, in_some, Option.bind_some]
        rw [if_pos hi1, if_pos (by omega), if_pos (decide_eq_true a0), decide_eq_false a1]
        rfl
    · refine EvB.step (f := fun k => spec_l02Tides.j1 k l (i : Int) true (M l i) (V l i)) (fun k => ?_) (EvB.step (f := fun _ => some false) (fun k => by simp [spec_l02Tides.j1]) (EvB.no (no fun h => a0 h.1)))
      simp only [spec_l02Tides.l0, w0, in_some, Option.bind_some]
      rw [if_pos hi1, if_pos (by omega), if_neg (by simpa using a0)]
      rfl

theorem spec_tides (l : List S49) (hf : Fits l) (hl : l.length ≤ 1048576) : EvB (fun k => spec_l02Tides.f k l) (Tides l) :=
  (spec_tides_loop l hf hl l.length 0 (by omega)).iff ⟨fun h => ⟨h.1, fun q hq => h.2 q (Nat.zero_le _) hq⟩, fun h => ⟨h.1, fun q _ hq => h.2 q hq⟩⟩

theorem impl_tides_loop (l : List S49) (hf : Fits l) (hl : l.length ≤ 1048576) (d : Nat) : ∀ i : Nat, l.length = i + d → (∀ q, q < i → okAt l q) → EvB (fun k => impl_ValidTides.l0 k l l l.length (i : Int)) (∀ q, q < l.length → okAt l q) := by
  induction d with
  | zero =>
    intro i hi ho
    have e : ¬ (i : Int) < l.length := by omega
    refine EvB.step (f := fun _ => some true) (fun k => ?_) (EvB.yes fun q hq => ho q (by omega))
    simp only [impl_ValidTides.l0]
    rw [if_neg e]
  | succ d ih =>
    intro i hi ho
    have hi1 : (i : Int) < l.length := by omega
    obtain ⟨f0, f1⟩ := hf i
    have hw : wrap64 ((i : Int) + 1) = ((i + 1 : Nat) : Int) := w64 (by omega)
    have no : ¬ okAt l i → ¬ ∀ q, q < l.length → okAt l q := fun h g => h (g i (by omega))
    have next : okAt l i → EvB (fun k => impl_ValidTides.l0 k l l l.length ((i + 1 : Nat) : Int)) (∀ q, q < l.length → okAt l q) := fun h => ih (i + 1) (by omega) fun q hq => by
      by_cases e : q = i
      · rw [e]; exact h
      · exact ho q (by omega)
    have bad : ¬ okAt l i → EvB (fun k => impl_ValidTides.j2 k l (i : Int) l l.length (i : Int) true (M l i) (V l i)) (∀ q, q < l.length → okAt l q) := fun h =>
      EvB.step (f := fun _ => some false) (fun k => by simp [impl_ValidTides.j2]) (EvB.no (no h))
    by_cases a0 : 0 ≤ M l i ∧ M l i ≤ 3000
    · by_cases a1 : 0 ≤ V l i ∧ V l i ≤ 100
      · refine EvB.step (f := fun k => impl_ValidTides.j2 k l (i : Int) l l.length (i : Int) false (M l i) (V l i)) (fun k => ?_) ?_
        · simp only [impl_ValidTides.l0]
          have q0 : ¬ (rd_T49 l (i : Int)).f0 < 0 := by unfold M at a0; omega
          have q1 : ¬ (rd_T49 l (i : Int)).f0 > 3000 := by unfold M at a0; omega
          have q2 : ¬ (rd_T49 l (i : Int)).f1 < 0 := by unfold V at a1; omega
          have q3 : decide ((rd_T49 l (i : Int)).f1 > 100) = false := decide_eq_false (by unfold V at a1; omega)
          rw [if_pos hi1, if_pos (by omega), if_pos hi1, if_neg q0, if_neg q1, if_neg q2, q3]
          rfl
        · by_cases p0 : 0 < i
          · have hp : wrap64 ((i : Int) - 1) = ((i - 1 : Nat) : Int) := by rw [w64 (by omega)]; omega
            have op := (ho (i - 1) (by omega)).1
            have v6 : IntKind.i16.wrap ((rd_T49 l ((i - 1 : Nat) : Int)).f0 + 6) = M l (i - 1) + 6 := by
              show IntKind.i16.wrap (M l (i - 1) + 6) = _
              simp [IntKind.wrap, IntKind.signed, IntKind.bits]
              omega
            by_cases b0 : M l i < M l (i - 1) + 6
            · refine EvB.step (f := fun _ => some false) (fun k => ?_) (EvB.no (no fun h => by have := (h.2.2.1 p0).1; omega))
              simp only [impl_ValidTides.j2, hp, v6, Bool.false_eq_true, if_false]
              rw [if_neg (by omega), if_pos (by omega), if_pos (by omega), if_pos b0]
            · by_cases b1 : V l i = V l (i - 1)
              · refine EvB.step (f := fun _ => some false) (fun k => ?_) (EvB.no (no fun h => (h.2.2.1 p0).2 b1))
                simp only [impl_ValidTides.j2, hp, v6, Bool.false_eq_true, if_false]
                rw [if_neg (by omega), if_pos (by omega), if_pos (by omega), if_neg b0, if_pos (show V l i = (rd_T49 l ((i - 1 : Nat) : Int)).f1 from b1)]
              · by_cases p1 : 1 < i
                · have hp2 : wrap64 ((i : Int) - 2) = ((i - 2 : Nat) : Int) := by rw [w64 (by omega)]; omega
                  by_cases c0 : V l i > V l (i - 1) ↔ V l (i - 1) > V l (i - 2)
                  · refine EvB.step (f := fun _ => some false) (fun k => ?_) (EvB.no (no fun h => h.2.2.2 p1 c0))
                    simp only [impl_ValidTides.j2, hp, hp2, hw, v6, Bool.false_eq_true, if_false]
                    rw [if_neg (by omega), if_pos (by omega), if_pos (by omega), if_neg b0, if_neg (show ¬ V l i = (rd_T49 l ((i - 1 : Nat) : Int)).f1 from b1), if_pos (by omega), if_pos (by omega), if_pos (by omega), if_pos ((dec_beq (V l i > (rd_T49 l ((i - 1 : Nat) : Int)).f1) ((rd_T49 l ((i - 1 : Nat) : Int)).f1 > (rd_T49 l ((i - 2 : Nat) : Int)).f1)).2 c0)]
                  · refine EvB.step (fun k => ?_) (next ⟨a0, a1, fun _ => ⟨by omega, b1⟩, fun _ => c0⟩)
                    simp only [impl_ValidTides.j2, hp, hp2, hw, v6, Bool.false_eq_true, if_false]
                    rw [if_neg (by omega), if_pos (by omega), if_pos (by omega), if_neg b0, if_neg (show ¬ V l i = (rd_T49 l ((i - 1 : Nat) : Int)).f1 from b1), if_pos (by omega), if_pos (by omega), if_pos (by omega), if_neg (fun h => c0 ((dec_beq (V l i > (rd_T49 l ((i - 1 : Nat) : Int)).f1) ((rd_T49 l ((i - 1 : Nat) : Int)).f1 > (rd_T49 l ((i - 2 : Nat) : Int)).f1)).1 h))]
                · refine EvB.step (fun k => ?_) (next ⟨a0, a1, fun _ => ⟨by omega, b1⟩, fun h => absurd h p1⟩)
                  simp only [impl_ValidTides.j2, hp, hw, v6, Bool.false_eq_true, if_false]
                  rw [if_neg (by omega), if_pos (by omega), if_pos (by omega), if_neg b0, if_neg (show ¬ V l i = (rd_T49 l ((i - 1 : Nat) : Int)).f1 from b1), if_neg (by omega)]
          · refine EvB.step (fun k => ?_) (next ⟨a0, a1, fun h => absurd h p0, fun h => by omega⟩)
            simp only [impl_ValidTides.j2, hw, Bool.false_eq_true, if_false]
            rw [if_pos (by omega)]
      · by_cases a2 : V l i < 0
        · refine EvB.step (fun k => ?_) (bad fun h => a1 h.2.1)
          simp only [impl_ValidTides.l0]
          have q0 : ¬ (rd_T49 l (i : Int)).f0 < 0 := by unfold M at a0; omega
          have q1 : ¬ (rd_T49 l (i : Int)).f0 > 3000 := by unfold M at a0; omega
          rw [if_pos hi1, if_pos (by omega), if_pos hi1, if_neg q0, if_neg q1, if_pos (show (rd_T49 l (i : Int)).f1 < 0 from a2)]
          rfl
        · refine EvB.step (fun k => ?_) (bad fun h => a1 h.2.1)
          simp only [impl_ValidTides.l0]
          have q0 : ¬ (rd_T49 l (i : Int)).f0 < 0 := by unfold M at a0; omega
          have q1 : ¬ (rd_T49 l (i : Int)).f0 > 3000 := by unfold M at a0; omega
          have q3 : decide ((rd_T49 l (i : Int)).f1 > 100) = true := decide_eq_true (by unfold V at a1 a2; omega)
          rw [if_pos hi1, if_pos (by omega), if_pos hi1, if_neg q0, if_neg q1, if_neg (show ¬ (rd_T49 l (i : Int)).f1 < 0 from a2), q3]
          rfl
    · by_cases a2 : M l i < 0
      · refine EvB.step (fun k => ?_) (bad fun h => a0 h.1)
        simp only [impl_ValidTides.l0]
        rw [if_pos hi1, if_pos (by omega), if_pos hi1, if_pos (show (rd_T49 l (i : Int)).f0 < 0 from a2)]
        rfl
      · refine EvB.step (fun k => ?_) (bad fun h => a0 h.1)
        simp only [impl_ValidTides.l0]
        have q1 : (rd_T49 l (i : Int)).f0 > 3000 := by unfold M at a0 a2; omega
        rw [if_pos hi1, if_pos (by omega), if_pos hi1, if_neg (show ¬ (rd_T49 l (i : Int)).f0 < 0 from a2), if_pos q1]
        rfl

theorem impl_tides (l : List S49) (hf : Fits l) (hl : l.length ≤ 1048576) : EvB (fun k => impl_ValidTides.f k l) (Tides l) := by
  by_cases h2 : 2 ≤ l.length
  · by_cases h8 : l.length ≤ 8
    · refine EvB.congr (f := fun k => impl_ValidTides.j0 k l false) (fun k => ?_) (EvB.step (f := fun k => impl_ValidTides.l0 k l l l.length ((0 : Nat) : Int)) (fun k => by simp [impl_ValidTides.j0]) ((impl_tides_loop l hf hl l.length 0 (by omega) (fun q hq => by omega)).iff ⟨fun h => ⟨⟨h2, h8⟩, h⟩, fun h => h.2⟩))
      unfold impl_ValidTides.f
      rw [if_neg (by omega), decide_eq_false (by omega)]
    · refine EvB.congr (f := fun k => impl_ValidTides.j0 k l true) (fun k => ?_) (EvB.step (f := fun _ => some false) (fun k => by simp [impl_ValidTides.j0]) (EvB.no fun h => h8 h.1.2))
      unfold impl_ValidTides.f
      rw [if_neg (by omega), decide_eq_true (by omega)]
  · refine EvB.congr (f := fun k => impl_ValidTides.j0 k l true) (fun k => ?_) (EvB.step (f := fun _ => some false) (fun k => by simp [impl_ValidTides.j0]) (EvB.no fun h => h2 h.1.1))
    unfold impl_ValidTides.f
    rw [if_pos (by omega)]


def shW (a : Int) (x : S49) : S49 := ⟨IntKind.i16.wrap (x.f0 + IntKind.i16.wrap a), x.f1⟩
theorem i16_wrap (n : Int) : -32768 ≤ IntKind.i16.wrap n ∧ IntKind.i16.wrap n ≤ 32767 := by
  simp [IntKind.wrap, IntKind.signed, IntKind.bits]
  omega
theorem i16_small {n : Int} (h : -32768 ≤ n ∧ n ≤ 32767) : IntKind.i16.wrap n = n := by
  simp [IntKind.wrap, IntKind.signed, IntKind.bits]
  omega
theorem M_get {l : List S49} {i : Nat} (h : i < l.length) : M l i = l[i].f0 := by unfold M; rw [rdWater h]
theorem V_get {l : List S49} {i : Nat} (h : i < l.length) : V l i = l[i].f1 := by unfold V; rw [rdWater h]
theorem fits_sh {l : List S49} (hf : Fits l) (a : Int) : Fits (l.map (shW a)) := by
  intro i
  by_cases hi : i < (l.map (shW a)).length
  · have hi' : i < l.length := by simpa using hi
    rw [M_get hi, V_get hi, List.getElem_map]
    refine ⟨i16_wrap _, ?_⟩
    have := (hf i).2
    rw [V_get hi'] at this
    exact this
  · have e : rd_T49 (l.map (shW a)) (i : Int) = z49 := by
      unfold rd_T49
      rw [Int.toNat_natCast, List.getD_eq_getElem?_getD, List.getElem?_eq_none (by omega)]
      rfl
    unfold M V
    rw [e]
    exact ⟨by decide, by decide⟩
theorem M_sh {l : List S49} (ht : Tides l) {a : Int} (ha : -3000 ≤ a ∧ a ≤ 3000) {i : Nat} (hi : i < l.length) : M (l.map (shW a)) i = M l i + a := by
  have h := (ht.2 i hi).1
  rw [M_get (by simpa using hi), List.getElem_map, M_get hi]
  rw [M_get hi] at h
  show IntKind.i16.wrap (l[i].f0 + IntKind.i16.wrap a) = _
  rw [i16_small (n := a) (by omega), i16_small (by omega)]
theorem V_sh {l : List S49} {a : Int} {i : Nat} (hi : i < l.length) : V (l.map (shW a)) i = V l i := by
  rw [V_get (by simpa using hi), List.getElem_map, V_get hi]
  rfl
theorem M_mono {l : List S49} (ht : Tides l) (d : Nat) : ∀ i : Nat, i + d < l.length → M l i ≤ M l (i + d) := by
  induction d with
  | zero => exact fun i _ => Int.le_refl _
  | succ d ih =>
    intro i hi
    have h1 := ih i (by omega)
    have h2 := ((ht.2 (i + (d + 1)) hi).2.2.1 (by omega)).1
    rw [show i + (d + 1) - 1 = i + d from by omega] at h2
    omega
theorem tides_sh {l : List S49} (ht : Tides l) {a : Int} (ha : -3000 ≤ a ∧ a ≤ 3000) : Tides (l.map (shW a)) ↔ (0 ≤ M l 0 + a ∧ M l 0 + a ≤ 3000) ∧ (0 ≤ M l (l.length - 1) + a ∧ M l (l.length - 1) + a ≤ 3000) := by
  have hl := ht.1
  constructor
  · intro h
    have h0 := (h.2 0 (by rw [List.length_map]; omega)).1
    have h1 := (h.2 (l.length - 1) (by rw [List.length_map]; omega)).1
    rw [M_sh ht ha (by omega)] at h0 h1
    exact ⟨h0, h1⟩
  · intro h
    refine ⟨by rw [List.length_map]; exact hl, fun q hq => ?_⟩
    have hq' : q < l.length := by simpa using hq
    have h0 := M_mono ht q 0 (by omega)
    have h1 := M_mono ht (l.length - 1 - q) q (by omega)
    rw [Nat.zero_add] at h0
    rw [show q + (l.length - 1 - q) = l.length - 1 from by omega] at h1
    obtain ⟨g0, g1, g2, g3⟩ := ht.2 q hq'
    refine ⟨by rw [M_sh ht ha hq']; omega, by rw [V_sh hq']; exact g1, fun hp => ?_, fun hp => ?_⟩
    · rw [M_sh ht ha hq', M_sh ht ha (by omega), V_sh hq', V_sh (by omega)]
      have := g2 hp
      exact ⟨by omega, this.2⟩
    · rw [V_sh hq', V_sh (by omega), V_sh (by omega)]
      exact g3 hp

theorem spec_shift_loop (l : List S49) (a : Int) (hl : l.length ≤ 8) (d : Nat) : ∀ (i : Nat) (acc : List S49), l.length = i + d → acc.length ≤ i → ∀ k, d < k → spec_ShiftTides.l0 k l a acc (i : Int) = some (acc ++ (l.drop i).map (shW a), 0) := by
  induction d with
  | zero =>
    intro i acc hi ha k hk
    obtain ⟨k, rfl⟩ : ∃ q, k = q + 1 := ⟨k - 1, by omega⟩
    simp only [spec_ShiftTides.l0]
    rw [if_neg (by omega), List.drop_of_length_le (by omega)]
    simp
  | succ d ih =>
    intro i acc hi ha k hk
    obtain ⟨k, rfl⟩ : ∃ q, k = q + 1 := ⟨k - 1, by omega⟩
    have hlt : i < l.length := by omega
    have hw : wrap64 ((i : Int) + 1) = ((i + 1 : Nat) : Int) := w64 (by omega)
    simp only [spec_ShiftTides.l0, rdWater hlt, hw]
    rw [if_pos (by omega), if_pos (by omega), if_pos (by omega), ih (i + 1) _ (by omega) (by simp; omega) k (by omega), List.drop_eq_getElem_cons hlt, List.map_cons, List.append_assoc]
    rfl

theorem impl_shift_loop (l : List S49) (a : Int) (hl : l.length ≤ 8) (q : List S49 × Int) (h : Ev (fun k => (impl_ValidTides.f k (l.map (shW a))).bind fun t => if t = true then some (l.map (shW a), 0) else some ([], 4)) q) (d : Nat) :
    ∀ (i : Nat) (x : List S49), l.length = i + d → x.length = l.length → (∀ j, j < i → x[j]? = (l[j]?).map (shW a)) → (∀ j, i ≤ j → x[j]? = l[j]?) → Ev (fun k => impl_ShiftTides.l0 k a x l.length (i : Int)) q := by
  induction d with
  | zero =>
    intro i x hi hx h1 h2
    have e : x = l.map (shW a) := List.ext_getElem? fun j => by
      rw [List.getElem?_map]
      by_cases hj : j < i
      · exact h1 j hj
      · rw [h2 j (by omega), List.getElem?_eq_none (by omega)]
        rfl
    subst e
    refine Ev.step (fun k => ?_) h
    simp only [impl_ShiftTides.l0]
    rw [if_neg (by omega)]
  | succ d ih =>
    intro i x hi hx h1 h2
    have hlt : i < x.length := by omega
    have hw : wrap64 ((i : Int) + 1) = ((i + 1 : Nat) : Int) := w64 (by omega)
    refine Ev.step (fun k => ?_) (ih (i + 1) (x.set i (shW a x[i])) (by omega) (by simpa using hx) (fun j hj => ?_) (fun j hj => ?_))
    · simp only [impl_ShiftTides.l0, rdWater hlt, hw, Int.toNat_natCast]
      rw [if_pos (by omega), if_pos (by omega), if_pos (by omega)]
      rfl
    · by_cases e : j = i
      · subst e
        have := h2 j (Nat.le_refl _)
        rw [List.getElem?_set_self hlt, ← this, List.getElem?_eq_getElem hlt]
        rfl
      · rw [List.getElem?_set_ne (by omega)]
        exact h1 j (by omega)
    · rw [List.getElem?_set_ne (by omega)]
      exact h2 j (by omega)

theorem both (l : List S49) (a : Int) (ha64 : -9223372036854775808 ≤ a ∧ a ≤ 9223372036854775807) (hf : Fits l) (hl : l.length ≤ 1048576) : ∃ (r : List S49) (q : Int), r.length ≤ 1048576 ∧ Ev (fun k => spec_ShiftTides.f k l a) (r, q) ∧ Ev (fun k => impl_ShiftTides.f k l a) (r, q) := by
  obtain ⟨b, h1, h2, h3⟩ := EvB.same (spec_tides l hf hl) (impl_tides l hf hl)
  by_cases ht : Tides l
  · have hb : b = true := h3.2 ht
    subst hb
    have hlen := ht.1
    by_cases ha : -3000 ≤ a ∧ a ≤ 3000
    · have m0 := (ht.2 0 (by omega)).1
      have m1 := (ht.2 (l.length - 1) (by omega)).1
      have e0 : spec_l02First.f l = some (M l 0) := by
        unfold spec_l02First.f
        rw [if_pos (by omega)]
        congr 1
        exact w64 (by unfold M at m0; simp at m0; omega)
      have hwl : wrap64 ((l.length : Int) - 1) = ((l.length - 1 : Nat) : Int) := by rw [w64 (by omega)]; omega
      have e1 : spec_l02Last.f l = some (M l (l.length - 1)) := by
        unfold spec_l02Last.f
        rw [hwl, if_pos (by omega), if_pos (by omega)]
        congr 1
        exact w64 (by unfold M at m1; omega)
      have w0 : wrap64 (M l 0 + a) = M l 0 + a := w64 (by omega)
      have w1 : wrap64 (M l (l.length - 1) + a) = M l (l.length - 1) + a := w64 (by omega)
      have hc : impl_Water.f l = some l := by unfold impl_Water.f; rw [if_pos (by omega)]
      have hspec : ∀ q, (∀ k, 10 < k → (if (0 ≤ M l 0 + a ∧ M l 0 + a ≤ 3000) ∧ (0 ≤ M l (l.length - 1) + a ∧ M l (l.length - 1) + a ≤ 3000) then spec_ShiftTides.l0 k l a [] 0 else some ([], 4)) = some q) → Ev (fun k => spec_ShiftTides.f k l a) q := by
        intro q hq
        have body : Ev (fun k => if (0 ≤ M l 0 + a ∧ M l 0 + a ≤ 3000) ∧ (0 ≤ M l (l.length - 1) + a ∧ M l (l.length - 1) + a ≤ 3000) then spec_ShiftTides.l0 k l a [] 0 else some ([], 4)) q := ⟨11, fun k hk => hq k (by omega)⟩
        refine Ev.congr (fun k => by unfold spec_ShiftTides.f; rfl) (Ev.bind h1 ?_)
        simp only [if_true, in_some, Option.bind_some, e0, e1, w0, w1]
        rw [decide_eq_true ha]
        simp only [if_true]
        by_cases c0 : 0 ≤ M l 0 + a ∧ M l 0 + a ≤ 3000
        · rw [decide_eq_true c0]
          simp only [if_true]
          by_cases c1 : 0 ≤ M l (l.length - 1) + a ∧ M l (l.length - 1) + a ≤ 3000
          · simp only [if_pos (And.intro c0 c1)] at body
            rw [decide_eq_true c1]
            exact Ev.step (fun k => by simp [spec_ShiftTides.j0]) body
          · simp only [if_neg (fun h => c1 (And.right h))] at body
            rw [decide_eq_false c1]
            exact Ev.step (fun k => by simp [spec_ShiftTides.j0]) body
        · simp only [if_neg (fun h => c0 (And.left h))] at body
          rw [decide_eq_false c0]
          exact Ev.step (fun k => by simp [spec_ShiftTides.j0]) body
      have himpl : ∀ q, Ev (fun k => (impl_ValidTides.f k (l.map (shW a))).bind fun t => if t = true then some (l.map (shW a), 0) else some ([], 4)) q → Ev (fun k => impl_ShiftTides.f k l a) q := by
        intro q hq
        refine Ev.congr (fun k => by unfold impl_ShiftTides.f; rfl) (Ev.bind h2 ?_)
        simp only [if_true, hc, Option.bind_some]
        simp only [if_neg (show ¬ a < -3000 from by omega), if_neg (show ¬ a > 3000 from by omega)]
        exact impl_shift_loop l a (by omega) q hq l.length 0 l (by omega) rfl (fun j hj => by omega) (fun j _ => rfl)
      obtain ⟨c, g1, g2⟩ := impl_tides (l.map (shW a)) (fits_sh hf a) (by rw [List.length_map]; exact hl)
      by_cases hs : Tides (l.map (shW a))
      · have hc2 := (tides_sh ht ha).1 hs
        rw [g2.2 hs] at g1
        refine ⟨l.map (shW a), 0, by rw [List.length_map]; exact hl, hspec _ (fun k hk => ?_), himpl _ (Ev.bind g1 (Ev.now _))⟩
        rw [if_pos hc2]
        have := spec_shift_loop l a (by omega) l.length 0 [] (by omega) (by simp) k (by omega)
        simpa using this
      · have hc2 : ¬ _ := fun h => hs ((tides_sh ht ha).2 h)
        have hcf : c = false := by
          cases c
          · rfl
          · exact absurd (g2.1 rfl) hs
        rw [hcf] at g1
        refine ⟨[], 4, by simp, hspec _ (fun k hk => ?_), himpl _ (Ev.bind g1 (Ev.now _))⟩
        rw [if_neg hc2]
    · refine ⟨[], 4, by simp, ?_, ?_⟩
      · refine Ev.congr (fun k => by unfold spec_ShiftTides.f; rfl) (Ev.bind h1 ?_)
        simp only [if_true, in_some, Option.bind_some]
        rw [decide_eq_false ha]
        exact Ev.step (f := fun _ => some ([], 4)) (fun k => by simp [spec_ShiftTides.j0]) (Ev.now _)
      · refine Ev.congr (fun k => by unfold impl_ShiftTides.f; rfl) (Ev.bind h2 ?_)
        simp only [if_true]
        by_cases c : a < -3000
        · simp only [if_pos c]
          exact Ev.now _
        · simp only [if_neg c, if_pos (show a > 3000 from by omega)]
          exact Ev.now _
  · have hb : b = false := by
      cases b
      · rfl
      · exact absurd (h3.1 rfl) ht
    subst hb
    refine ⟨[], 1, by simp, ?_, ?_⟩
    · exact Ev.congr (fun k => by unfold spec_ShiftTides.f; rfl) (Ev.bind h1 (Ev.now _))
    · exact Ev.congr (fun k => by unfold impl_ShiftTides.f; rfl) (Ev.bind h2 (Ev.now _))

end W
open W
def FnExactShiftTidesPure : Prop := ∀ (l0 : List S51) (a1 : Int), l0.length ≤ 9223372036854775807 → (∀ x ∈ l0, (Lit.int .i16 x.f0).wf = true ∧ (Lit.int .i8 x.f1).wf = true) → (Lit.int .i64 a1).wf = true → ∃ k, laws_FnExactShiftTides.f k l0 a1 = some true


theorem FnExactShiftTides : FnExactShiftTidesPure := by
  intro l a hl hw ha
  refine Ev.rounds ?_
  have hsz := szWater l hl 1048576 (by omega) (by omega)
  by_cases hlen : (1048576 : Int) < l.length
  · refine Ev.congr (f := fun _ => some true) (fun k => ?_) (Ev.now _)
    unfold laws_FnExactShiftTides.f
    rw [hsz, if_pos hlen]
    rfl
  · have hl2 : l.length ≤ 1048576 := by omega
    have ht := toWater l hl2
    obtain ⟨r, q, hr, hs, hi⟩ := both (l.map convWater) a (i64_of ha) (fits_conv l hw) (by rw [List.length_map]; exact hl2)
    obtain ⟨m1, x1, e1, p1, _⟩ := markWater (l.map convWater) (by rw [List.length_map]; exact hl2)
    obtain ⟨m2, x2, e2, _, o2⟩ := markWater r hr
    have er := eqWater r (by omega)
    have el := eqWater (l.map convWater) (by rw [List.length_map]; omega)
    have hqq : (q != q) = false := by simp
    simp only [laws_FnExactShiftTides.f, hsz, if_neg hlen, Option.bind_some, if_neg (show ¬ ((1048576 : Int) - l.length < 0) from by omega)]
    refine Ev.bind ht (Ev.bind hs (Ev.bind ht (Ev.bind hi (Ev.bind er ?_))))
    simp only [if_true, hqq]
    refine Ev.step (fun k => by simp only [laws_FnExactShiftTides.j0, Bool.false_eq_true, if_false]; rfl) (Ev.bind ht (Ev.bind el ?_))
    simp only [if_true]
    refine Ev.bind e1 ?_
    simp only [if_neg (show ¬ m1 < 0 from by omega)]
    refine Ev.bind er ?_
    simp only [if_true, hqq]
    refine Ev.step (fun k => by simp only [laws_FnExactShiftTides.j1, Bool.false_eq_true, if_false]; rfl) (Ev.bind e2 (Ev.bind o2 ?_))
    simp only [if_neg (show ¬ m2 < 0 from by omega), if_true]
    refine Ev.bind ht (Ev.bind hi (Ev.bind er ?_))
    simp only [if_true, hqq]
    refine Ev.step (fun k => by simp only [laws_FnExactShiftTides.j2, Bool.false_eq_true, if_false]; rfl) (Ev.bind o2 ?_)
    simp only [if_neg (show ¬ m2 < 0 from by omega), if_true]
    exact Ev.now _

end Go.Proofs.Ytlompodcakghjaa.Pure
