/- LongestWindow of the program answers what the reference's answers, for all arguments. Conditions: none. -/
import Derived.Test.YtjgdmeichlefiaaPFnExactLongestWindowx8
namespace Go.Proofs.Ytjgdmeichlefiaa.Pure
open Go.RowKit Go.Proofs.Ytjgdmeichlefiaa.PFnExactLongestWindow Go.Proofs.YtjgdmeichlefiaaW.PrintWords Go.Proofs.YtjgdmeichlefiaaW.PrintLast
set_option linter.unusedVariables false
set_option linter.unusedSimpArgs false

/-- From some number of rounds on it answers a truth value: whether P holds. -/
def EvB (g : Nat → Option Bool) (P : Prop) : Prop := ∃ b, Ev g b ∧ (b = true ↔ P)
theorem EvB.iff {g : Nat → Option Bool} {P Q : Prop} (h : EvB g P) (e : P ↔ Q) : EvB g Q := by
  obtain ⟨b, h1, h2⟩ := h
  exact ⟨b, h1, h2.trans e⟩
theorem EvB.step {g f : Nat → Option Bool} {P : Prop} (h : ∀ k, g (k + 1) = f k) (k : EvB f P) : EvB g P := by
  obtain ⟨b, h1, h2⟩ := k
  exact ⟨b, Ev.step h h1, h2⟩
theorem EvB.congr {g f : Nat → Option Bool} {P : Prop} (h : ∀ k, g k = f k) (k : EvB f P) : EvB g P := by
  obtain ⟨b, h1, h2⟩ := k
  exact ⟨b, Ev.congr h h1, h2⟩
theorem EvB.yes {P : Prop} (h : P) : EvB (fun _ => some true) P := ⟨true, Ev.now _, by simp [h]⟩
theorem EvB.no {P : Prop} (h : ¬ P) : EvB (fun _ => some false) P := ⟨false, Ev.now _, by simp [h]⟩
theorem EvB.bind {α : Type} {g : Nat → Option α} {f : Nat → α → Option Bool} {a : α} {P : Prop} (h : Ev g a) (k : EvB (fun n => f n a) P) : EvB (fun n => (g n).bind (f n)) P := by
  obtain ⟨b, h1, h2⟩ := k
  exact ⟨b, Ev.bind h h1, h2⟩
theorem EvB.same {g f : Nat → Option Bool} {P : Prop} (h : EvB g P) (k : EvB f P) : ∃ b, Ev g b ∧ Ev f b ∧ (b = true ↔ P) := by
  obtain ⟨b, h1, h2⟩ := h
  obtain ⟨c, h3, h4⟩ := k
  have e : c = b := by rw [Bool.eq_iff_iff, h4, h2]
  subst e
  exact ⟨c, h1, h3, h2⟩

theorem rdWater {xs : List S43} {j : Nat} (h : j < xs.length) : rd_T43 xs (j : Int) = xs[j] := by
  unfold rd_T43
  rw [Int.toNat_natCast, List.getD_eq_getElem?_getD, List.getElem?_eq_getElem h]
  rfl
theorem rdWater' {xs : List S45} {j : Nat} (h : j < xs.length) : rd_T45 xs (j : Int) = xs[j] := by
  unfold rd_T45
  rw [Int.toNat_natCast, List.getD_eq_getElem?_getD, List.getElem?_eq_getElem h]
  rfl
def convWater (x : S45) : S43 := ⟨x.f0, x.f1⟩
theorem toWater_loop (l : List S45) (hl : l.length ≤ 1048576) (d : Nat) : ∀ (j : Nat) (x : List S43), l.length = j + d → x.length = l.length → (∀ i, i < j → x[i]? = (l[i]?).map convWater) → ∀ k, d < k → laws_toWaterS.l0 k l x (j : Int) = some (l.map convWater) := by
  induction d with
  | zero =>
    intro j x hj hx hi k hk
    obtain ⟨k, rfl⟩ : ∃ q, k = q + 1 := ⟨k - 1, by omega⟩
    simp only [laws_toWaterS.l0]
    rw [if_neg (by omega)]
    refine congrArg some (List.ext_getElem? fun i => ?_)
    rw [List.getElem?_map]
    by_cases h : i < j
    · exact hi i h
    · rw [List.getElem?_eq_none (by omega), List.getElem?_eq_none (by omega)]
      rfl
  | succ d ih =>
    intro j x hj hx hi k hk
    obtain ⟨k, rfl⟩ : ∃ q, k = q + 1 := ⟨k - 1, by omega⟩
    have hlt : j < l.length := by omega
    have hw : wrap64 ((j : Int) + 1) = ((j + 1 : Nat) : Int) := by unfold wrap64; omega
    simp only [laws_toWaterS.l0, hw]
    rw [if_pos (by omega), if_pos (by omega), rdWater' hlt]
    simp only [laws_toWater.f, Option.bind_some]
    rw [if_pos (by omega), Int.toNat_natCast]
    refine ih (j + 1) _ (by omega) (by rw [List.length_set]; exact hx) (fun i h => ?_) k (by omega)
    by_cases e : i = j
    · subst e
      rw [List.getElem?_set_self (by omega), List.getElem?_eq_getElem hlt]
      rfl
    · rw [List.getElem?_set_ne (by omega)]
      exact hi i (by omega)
theorem toWater (l : List S45) (hl : l.length ≤ 1048576) : Ev (fun k => laws_toWaterS.f k l) (l.map convWater) := by
  refine ⟨l.length + 1, fun k hk => ?_⟩
  show laws_toWaterS.f k l = _
  unfold laws_toWaterS.f
  rw [if_pos (by omega), Int.toNat_natCast, if_pos (by omega)]
  exact toWater_loop l hl l.length 0 _ (by omega) (by simp) (fun i h => by omega) k (by omega)
theorem szWater (l : List S45) (h : l.length ≤ 9223372036854775807) (a : Int) (ha : 0 ≤ a) (ha2 : a ≤ 1048576) : laws_szWaterS.f l a = some (if a < l.length then -1 else a - l.length) := by
  have hw : wrap64 (a - (l.length : Int)) = a - l.length := by unfold wrap64; omega
  unfold laws_szWaterS.f
  rw [hw]
  by_cases c : a < l.length
  · rw [if_pos (by omega), if_pos c]
  · rw [if_neg (by omega), if_neg c]
theorem eqWater_loop (a : List S43) (ha : a.length ≤ 9223372036854775000) (d : Nat) : ∀ (j : Nat), a.length = j + d → ∀ k, d < k → laws_eqWaterS.l0 k a a (j : Int) = some true := by
  induction d with
  | zero =>
    intro j hj k hk
    obtain ⟨k, rfl⟩ : ∃ q, k = q + 1 := ⟨k - 1, by omega⟩
    simp only [laws_eqWaterS.l0]
    rw [if_neg (by omega)]
  | succ d ih =>
    intro j hj k hk
    obtain ⟨k, rfl⟩ : ∃ q, k = q + 1 := ⟨k - 1, by omega⟩
    have hw : wrap64 ((j : Int) + 1) = ((j + 1 : Nat) : Int) := by unfold wrap64; omega
    simp only [laws_eqWaterS.l0, hw, laws_eqWater.f, if_true, Option.bind_some]
    rw [if_pos (by omega), if_pos (by omega), if_pos (by omega)]
    exact ih (j + 1) (by omega) k (by omega)
theorem eqWater (a : List S43) (ha : a.length ≤ 9223372036854775000) : Ev (fun k => laws_eqWaterS.f k a a) true := by
  refine ⟨a.length + 1, fun k hk => ?_⟩
  show laws_eqWaterS.f k a a = _
  unfold laws_eqWaterS.f
  rw [if_pos rfl]
  exact eqWater_loop a ha a.length 0 (by omega) k (by omega)
theorem i8_of {n : Int} (h : (Lit.int .i8 n).wf = true) : -128 ≤ n ∧ n ≤ 127 := by
  simp [Lit.wf, IntKind.min, IntKind.max, IntKind.signed, IntKind.bits] at h
  omega
theorem i16_of {n : Int} (h : (Lit.int .i16 n).wf = true) : -32768 ≤ n ∧ n ≤ 32767 := by
  simp [Lit.wf, IntKind.min, IntKind.max, IntKind.signed, IntKind.bits] at h
  omega
theorem i64_of {n : Int} (h : (Lit.int .i64 n).wf = true) : -9223372036854775808 ≤ n ∧ n ≤ 9223372036854775807 := by
  simp [Lit.wf, IntKind.min, IntKind.max, IntKind.signed, IntKind.bits] at h
  omega
theorem w64 {n : Int} (h : -9223372036854775808 ≤ n ∧ n ≤ 9223372036854775807) : wrap64 n = n := by unfold wrap64; omega
/-- Water i's minute and level. -/
def M (l : List S43) (i : Nat) : Int := (rd_T43 l (i : Int)).f0
def V (l : List S43) (i : Nat) : Int := (rd_T43 l (i : Int)).f1
def Fits (l : List S43) : Prop := ∀ i : Nat, (-32768 ≤ M l i ∧ M l i ≤ 32767) ∧ (-128 ≤ V l i ∧ V l i ≤ 127)
theorem fits_conv (l : List S45) (h : ∀ x ∈ l, (Lit.int .i16 x.f0).wf = true ∧ (Lit.int .i8 x.f1).wf = true) : Fits (l.map convWater) := by
  intro i
  unfold M V
  by_cases hi : i < (l.map convWater).length
  · rw [rdWater hi, List.getElem_map]
    have := h _ (List.getElem_mem (l := l) (n := i) (by simpa using hi))
    exact ⟨i16_of this.1, i8_of this.2⟩
  · have e : rd_T43 (l.map convWater) (i : Int) = z43 := by
      unfold rd_T43
      rw [Int.toNat_natCast, List.getD_eq_getElem?_getD, List.getElem?_eq_none (by omega)]
      rfl
    rw [e]
    exact ⟨by decide, by decide⟩
/-- Water i is right behind those ahead of it. -/
def okAt (l : List S43) (i : Nat) : Prop := (0 ≤ M l i ∧ M l i ≤ 3000) ∧ (0 ≤ V l i ∧ V l i ≤ 100) ∧ (0 < i → M l (i - 1) + 6 ≤ M l i ∧ V l i ≠ V l (i - 1)) ∧ (1 < i → ¬ (V l i > V l (i - 1) ↔ V l (i - 1) > V l (i - 2)))
def Tides (l : List S43) : Prop := (2 ≤ l.length ∧ l.length ≤ 8) ∧ ∀ q, q < l.length → okAt l q
theorem in_some (a b c : Int) : spec_l00In.f a b c = some (decide (b ≤ a ∧ a ≤ c)) := by
  unfold spec_l00In.f
  by_cases h : a ≥ b
  · rw [if_pos h]; simp [h]
  · rw [if_neg h]; simp; omega
theorem EvB.same_of {g f : Nat → Option Bool} {P : Prop} (h : ∀ k, g k = f k) (k : EvB f P) : EvB g P := EvB.congr h k
theorem dec_beq (p q : Prop) [Decidable p] [Decidable q] : ((decide p == decide q) = true) ↔ (p ↔ q) := by
  by_cases hp : p <;> by_cases hq : q <;> simp [hp, hq]

theorem spec_tides_loop (l : List S43) (hf : Fits l) (hl : l.length ≤ 1048576) (d : Nat) : ∀ i : Nat, l.length = i + d → EvB (fun k => spec_l02Tides.l0 k l (i : Int)) ((2 ≤ l.length ∧ l.length ≤ 8) ∧ ∀ q, i ≤ q → q < l.length → okAt l q) := by
  induction d with
  | zero =>
    intro i hi
    have e : ¬ (i : Int) < l.length := by omega
    refine EvB.step (f := fun _ => some (decide (2 ≤ (l.length : Int) ∧ (l.length : Int) ≤ 8))) (fun k => ?_) ⟨_, Ev.now _, ?_⟩
    · simp only [spec_l02Tides.l0]
      rw [if_neg e, in_some]
      rfl
    · rw [decide_eq_true_iff]
      exact ⟨fun h => ⟨by omega, fun q h1 h2 => by omega⟩, fun h => by omega⟩
  | succ d ih =>
    intro i hi
    have hi1 : (i : Int) < l.length := by omega
    obtain ⟨f0, f1⟩ := hf i
    have w0 : wrap64 (rd_T43 l (i : Int)).f0 = M l i := w64 (by unfold M at f0; omega)
    have w1 : wrap64 (rd_T43 l (i : Int)).f1 = V l i := w64 (by unfold V at f1; omega)
    have hw : wrap64 ((i : Int) + 1) = ((i + 1 : Nat) : Int) := w64 (by omega)
    have no : ∀ {P : Prop}, ¬ okAt l i → ¬ (P ∧ ∀ q, i ≤ q → q < l.length → okAt l q) := fun h g => h (g.2 i (Nat.le_refl _) (by omega))
    have next : okAt l i → (((2 ≤ l.length ∧ l.length ≤ 8) ∧ ∀ q, i + 1 ≤ q → q < l.length → okAt l q) ↔ ((2 ≤ l.length ∧ l.length ≤ 8) ∧ ∀ q, i ≤ q → q < l.length → okAt l q)) := fun h => ⟨fun g => ⟨g.1, fun q h1 h2 => by
      by_cases e : q = i
      · rw [e]; exact h
      · exact g.2 q (by omega) h2⟩, fun g => ⟨g.1, fun q h1 h2 => g.2 q (by omega) h2⟩⟩
    by_cases a0 : 0 ≤ M l i ∧ M l i ≤ 3000
    · by_cases a1 : 0 ≤ V l i ∧ V l i ≤ 100
      · refine EvB.step (f := fun k => spec_l02Tides.j1 k l (i : Int) false (M l i) (V l i)) (fun k => ?_) ?_
        · simp only [spec_l02Tides.l0, w0, w1, in_some, Option.bind_some]
          rw [if_pos hi1, if_pos (by omega), if_pos (decide_eq_true a0), decide_eq_true a1]
          rfl
        · have wm : wrap64 (M l i) = M l i := w64 (by omega)
          by_cases p0 : 0 < i
          · have hp : wrap64 ((i : Int) - 1) = ((i - 1 : Nat) : Int) := by rw [w64 (by omega)]; omega
            obtain ⟨g0, g1⟩ := hf (i - 1)
            have v0 : wrap64 (rd_T43 l ((i - 1 : Nat) : Int)).f0 = M l (i - 1) := w64 (by unfold M at g0; omega)
            have v6 : wrap64 (M l (i - 1) + 6) = M l (i - 1) + 6 := w64 (by omega)
            by_cases b0 : M l i < M l (i - 1) + 6
            · refine EvB.step (f := fun k => spec_l02Tides.j2 k l (i : Int) true (M l i) (V l i)) (fun k => ?_) (EvB.step (f := fun _ => some false) (fun k => by simp [spec_l02Tides.j2]) (EvB.no (no fun h => by have := (h.2.2.1 p0).1; omega)))
              simp only [spec_l02Tides.j1, hp, wm, v0, v6, Bool.false_eq_true, if_false]
              rw [if_pos (by omega), if_pos (by omega), if_pos (by omega), if_pos b0]
            · by_cases b1 : V l i = V l (i - 1)
              · have e1 : (V l i == (rd_T43 l ((i - 1 : Nat) : Int)).f1) = true := beq_iff_eq.2 b1
                refine EvB.step (f := fun k => spec_l02Tides.j2 k l (i : Int) true (M l i) (V l i)) (fun k => ?_) (EvB.step (f := fun _ => some false) (fun k => by simp [spec_l02Tides.j2]) (EvB.no (no fun h => (h.2.2.1 p0).2 b1)))
                simp only [spec_l02Tides.j1, hp, wm, v0, v6, Bool.false_eq_true, if_false]
                rw [if_pos (by omega), if_pos (by omega), if_pos (by omega), if_neg b0, e1]
              · have e1 : (V l i == (rd_T43 l ((i - 1 : Nat) : Int)).f1) = false := beq_eq_false_iff_ne.2 b1
                refine EvB.step (f := fun k => spec_l02Tides.j2 k l (i : Int) false (M l i) (V l i)) (fun k => ?_) ?_
                · simp only [spec_l02Tides.j1, hp, wm, v0, v6, Bool.false_eq_true, if_false]
                  rw [if_pos (by omega), if_pos (by omega), if_pos (by omega), if_neg b0, e1]
                · by_cases p1 : 1 < i
                  · have hp2 : wrap64 ((i : Int) - 2) = ((i - 2 : Nat) : Int) := by rw [w64 (by omega)]; omega
                    by_cases c0 : V l i > V l (i - 1) ↔ V l (i - 1) > V l (i - 2)
                    · refine EvB.step (f := fun _ => some false) (fun k => ?_) (EvB.no (no fun h => h.2.2.2 p1 c0))
                      simp only [spec_l02Tides.j2, hp, hp2, hw, Bool.false_eq_true, if_false]
                      rw [if_pos (by omega), if_pos (by omega), if_pos (by omega), if_pos (by omega), if_pos (by omega), if_pos ((dec_beq (V l i > (rd_T43 l ((i - 1 : Nat) : Int)).f1) ((rd_T43 l ((i - 1 : Nat) : Int)).f1 > (rd_T43 l ((i - 2 : Nat) : Int)).f1)).2 c0)]
                    · refine EvB.step (fun k => ?_) ((ih (i + 1) (by omega)).iff (next ⟨a0, a1, fun _ => ⟨by omega, b1⟩, fun _ => c0⟩))
                      simp only [spec_l02Tides.j2, hp, hp2, hw, Bool.false_eq_true, if_false]
                      rw [if_pos (by omega), if_pos (by omega), if_pos (by omega), if_pos (by omega), if_pos (by omega), if_neg (fun h => c0 ((dec_beq (V l i > (rd_T43 l ((i - 1 : Nat) : Int)).f1) ((rd_T43 l ((i - 1 : Nat) : Int)).f1 > (rd_T43 l ((i - 2 : Nat) : Int)).f1)).1 h))]
                  · refine EvB.step (fun k => ?_) ((ih (i + 1) (by omega)).iff (next ⟨a0, a1, fun _ => ⟨by omega, b1⟩, fun h => absurd h p1⟩))
                    simp only [spec_l02Tides.j2, hw, Bool.false_eq_true, if_false]
                    rw [if_neg (by omega)]
          · refine EvB.step (f := fun k => spec_l02Tides.j2 k l (i : Int) false (M l i) (V l i)) (fun k => ?_) (EvB.step (fun k => ?_) ((ih (i + 1) (by omega)).iff (next ⟨a0, a1, fun h => absurd h p0, fun h => by omega⟩)))
            · simp only [spec_l02Tides.j1, Bool.false_eq_true, if_false]
              rw [if_neg (by omega)]
            · simp only [spec_l02Tides.j2, hw, Bool.false_eq_true, if_false]
              rw [if_neg (by omega)]
      · refine EvB.step (f := fun k => spec_l02Tides.j1 k l (i : Int) true (M l i) (V l i)) (fun k => ?_) (EvB.step (f := fun _ => some false) (fun k => by simp [spec_l02Tides.j1]) (EvB.no (no fun h => a1 h.2.1)))
        simp only [spec_l02Tides.l0, w0, w1, in_some, Option.bind_some]
        rw [if_pos hi1, if_pos (by omega), if_pos (decide_eq_true a0), decide_eq_false a1]
        rfl
    · refine EvB.step (f := fun k => spec_l02Tides.j1 k l (i : Int) true (M l i) (V l i)) (fun k => ?_) (EvB.step (f := fun _ => some false) (fun k => by simp [spec_l02Tides.j1]) (EvB.no (no fun h => a0 h.1)))
      simp only [spec_l02Tides.l0, w0, in_some, Option.bind_some]
      rw [if_pos hi1, if_pos (by omega), if_neg (by simpa using a0)]
      rfl

theorem spec_tides (l : List S43) (hf : Fits l) (hl : l.length ≤ 1048576) : EvB (fun k => spec_l02Tides.f k l) (Tides l) :=
  (spec_tides_loop l hf hl l.length 0 (by omega)).iff ⟨fun h => ⟨h.1, fun q hq => h.2 q (Nat.zero_le _) hq⟩, fun h => ⟨h.1, fun q _ hq => h.2 q hq⟩⟩

theorem impl_tides_loop (l : List S43) (hf : Fits l) (hl : l.length ≤ 1048576) (d : Nat) : ∀ i : Nat, l.length = i + d → (∀ q, q < i → okAt l q) → EvB (fun k => impl_ValidTides.l0 k l l l.length (i : Int)) (∀ q, q < l.length → okAt l q) := by
  induction d with
  | zero =>
    intro i hi ho
    have e : ¬ (i : Int) < l.length := by omega
    refine EvB.step (f := fun _ => some true) (fun k => ?_) (EvB.yes fun q hq => ho q (by omega))
    simp only [impl_ValidTides.l0]
    rw [if_neg e]
  | succ d ih =>
    intro i hi ho
    have hi1 : (i : Int) < l.length := by omega
    obtain ⟨f0, f1⟩ := hf i
    have hw : wrap64 ((i : Int) + 1) = ((i + 1 : Nat) : Int) := w64 (by omega)
    have no : ¬ okAt l i → ¬ ∀ q, q < l.length → okAt l q := fun h g => h (g i (by omega))
    have next : okAt l i → EvB (fun k => impl_ValidTides.l0 k l l l.length ((i + 1 : Nat) : Int)) (∀ q, q < l.length → okAt l q) := fun h => ih (i + 1) (by omega) fun q hq => by
      by_cases e : q = i
      · rw [e]; exact h
      · exact ho q (by omega)
    have bad : ¬ okAt l i → EvB (fun k => impl_ValidTides.j2 k l (i : Int) l l.length (i : Int) true (M l i) (V l i)) (∀ q, q < l.length → okAt l q) := fun h =>
      EvB.step (f := fun _ => some false) (fun k => by simp [impl_ValidTides.j2]) (EvB.no (no h))
    by_cases a0 : 0 ≤ M l i ∧ M l i ≤ 3000
    · by_cases a1 : 0 ≤ V l i ∧ V l i ≤ 100
      · refine EvB.step (f := fun k => impl_ValidTides.j2 k l (i : Int) l l.length (i : Int) false (M l i) (V l i)) (fun k => ?_) ?_
        · simp only [impl_ValidTides.l0]
          have q0 : ¬ (rd_T43 l (i : Int)).f0 < 0 := by unfold M at a0; omega
          have q1 : ¬ (rd_T43 l (i : Int)).f0 > 3000 := by unfold M at a0; omega
          have q2 : ¬ (rd_T43 l (i : Int)).f1 < 0 := by unfold V at a1; omega
          have q3 : decide ((rd_T43 l (i : Int)).f1 > 100) = false := decide_eq_false (by unfold V at a1; omega)
          rw [if_pos hi1, if_pos (by omega), if_pos hi1, if_neg q0, if_neg q1, if_neg q2, q3]
          rfl
        · by_cases p0 : 0 < i
          · have hp : wrap64 ((i : Int) - 1) = ((i - 1 : Nat) : Int) := by rw [w64 (by omega)]; omega
            have op := (ho (i - 1) (by omega)).1
            have v6 : IntKind.i16.wrap ((rd_T43 l ((i - 1 : Nat) : Int)).f0 + 6) = M l (i - 1) + 6 := by
              show IntKind.i16.wrap (M l (i - 1) + 6) = _
              simp [IntKind.wrap, IntKind.signed, IntKind.bits]
              omega
            by_cases b0 : M l i < M l (i - 1) + 6
            · refine EvB.step (f := fun _ => some false) (fun k => ?_) (EvB.no (no fun h => by have := (h.2.2.1 p0).1; omega))
              simp only [impl_ValidTides.j2, hp, v6, Bool.false_eq_true, if_false]
              rw [if_neg (by omega), if_pos (by omega), if_pos (by omega), if_pos b0]
            · by_cases b1 : V l i = V l (i - 1)
              · refine EvB.step (f := fun _ => some false) (fun k => ?_) (EvB.no (no fun h => (h.2.2.1 p0).2 b1))
                simp only [impl_ValidTides.j2, hp, v6, Bool.false_eq_true, if_false]
                rw [if_neg (by omega), if_pos (by omega), if_pos (by omega), if_neg b0, if_pos (show V l i = (rd_T43 l ((i - 1 : Nat) : Int)).f1 from b1)]
              · by_cases p1 : 1 < i
                · have hp2 : wrap64 ((i : Int) - 2) = ((i - 2 : Nat) : Int) := by rw [w64 (by omega)]; omega
                  by_cases c0 : V l i > V l (i - 1) ↔ V l (i - 1) > V l (i - 2)
                  · refine EvB.step (f := fun _ => some false) (fun k => ?_) (EvB.no (no fun h => h.2.2.2 p1 c0))
                    simp only [impl_ValidTides.j2, hp, hp2, hw, v6, Bool.false_eq_true, if_false]
                    rw [if_neg (by omega), if_pos (by omega), if_pos (by omega), if_neg b0, if_neg (show ¬ V l i = (rd_T43 l ((i - 1 : Nat) : Int)).f1 from b1), if_pos (by omega), if_pos (by omega), if_pos (by omega), if_pos ((dec_beq (V l i > (rd_T43 l ((i - 1 : Nat) : Int)).f1) ((rd_T43 l ((i - 1 : Nat) : Int)).f1 > (rd_T43 l ((i - 2 : Nat) : Int)).f1)).2 c0)]
                  · refine EvB.step (fun k => ?_) (next ⟨a0, a1, fun _ => ⟨by omega, b1⟩, fun _ => c0⟩)
                    simp only [impl_ValidTides.j2, hp, hp2, hw, v6, Bool.false_eq_true, if_false]
                    rw [if_neg (by omega), if_pos (by omega), if_pos (by omega), if_neg b0, if_neg (show ¬ V l i = (rd_T43 l ((i - 1 : Nat) : Int)).f1 from b1), if_pos (by omega), if_pos (by omega), if_pos (by omega), if_neg (fun h => c0 ((dec_beq (V l i > (rd_T43 l ((i - 1 : Nat) : Int)).f1) ((rd_T43 l ((i - 1 : Nat) : Int)).f1 > (rd_T43 l ((i - 2 : Nat) : Int)).f1)).1 h))]
                · refine EvB.step (fun k => ?_) (next ⟨a0, a1, fun _ => ⟨by omega, b1⟩, fun h => absurd h p1⟩)
                  simp only [impl_ValidTides.j2, hp, hw, v6, Bool.false_eq_true, if_false]
                  rw [if_neg (by omega), if_pos (by omega), if_pos (by omega), if_neg b0, if_neg (show ¬ V l i = (rd_T43 l ((i - 1 : Nat) : Int)).f1 from b1), if_neg (by omega)]
          · refine EvB.step (fun k => ?_) (next ⟨a0, a1, fun h => absurd h p0, fun h => by omega⟩)
            simp only [impl_ValidTides.j2, hw, Bool.false_eq_true, if_false]
            rw [if_pos (by omega)]
      · by_cases a2 : V l i < 0
        · refine EvB.step (fun k => ?_) (bad fun h => a1 h.2.1)
          simp only [impl_ValidTides.l0]
          have q0 : ¬ (rd_T43 l (i : Int)).f0 < 0 := by unfold M at a0; omega
          have q1 : ¬ (rd_T43 l (i : Int)).f0 > 3000 := by unfold M at a0; omega
          rw [if_pos hi1, if_pos (by omega), if_pos hi1, if_neg q0, if_neg q1, if_pos (show (rd_T43 l (i : Int)).f1 < 0 from a2)]
          rfl
        · refine EvB.step (fun k => ?_) (bad fun h => a1 h.2.1)
          simp only [impl_ValidTides.l0]
          have q0 : ¬ (rd_T43 l (i : Int)).f0 < 0 := by unfold M at a0; omega
          have q1 : ¬ (rd_T43 l (i : Int)).f0 > 3000 := by unfold M at a0; omega
          have q3 : decide ((rd_T43 l (i : Int)).f1 > 100) = true := decide_eq_true (by unfold V at a1 a2; omega)
          rw [if_pos hi1, if_pos (by omega), if_pos hi1, if_neg q0, if_neg q1, if_neg (show ¬ (rd_T43 l (i : Int)).f1 < 0 from a2), q3]
          rfl
    · by_cases a2 : M l i < 0
      · refine EvB.step (fun k => ?_) (bad fun h => a0 h.1)
        simp only [impl_ValidTides.l0]
        rw [if_pos hi1, if_pos (by omega), if_pos hi1, if_pos (show (rd_T43 l (i : Int)).f0 < 0 from a2)]
        rfl
      · refine EvB.step (fun k => ?_) (bad fun h => a0 h.1)
        simp only [impl_ValidTides.l0]
        have q1 : (rd_T43 l (i : Int)).f0 > 3000 := by unfold M at a0 a2; omega
        rw [if_pos hi1, if_pos (by omega), if_pos hi1, if_neg (show ¬ (rd_T43 l (i : Int)).f0 < 0 from a2), if_pos q1]
        rfl

theorem impl_tides (l : List S43) (hf : Fits l) (hl : l.length ≤ 1048576) : EvB (fun k => impl_ValidTides.f k l) (Tides l) := by
  by_cases h2 : 2 ≤ l.length
  · by_cases h8 : l.length ≤ 8
    · refine EvB.congr (f := fun k => impl_ValidTides.j0 k l false) (fun k => ?_) (EvB.step (f := fun k => impl_ValidTides.l0 k l l l.length ((0 : Nat) : Int)) (fun k => by simp [impl_ValidTides.j0]) ((impl_tides_loop l hf hl l.length 0 (by omega) (fun q hq => by omega)).iff ⟨fun h => ⟨⟨h2, h8⟩, h⟩, fun h => h.2⟩))
      unfold impl_ValidTides.f
      rw [if_neg (by omega), decide_eq_false (by omega)]
    · refine EvB.congr (f := fun k => impl_ValidTides.j0 k l true) (fun k => ?_) (EvB.step (f := fun _ => some false) (fun k => by simp [impl_ValidTides.j0]) (EvB.no fun h => h8 h.1.2))
      unfold impl_ValidTides.f
      rw [if_neg (by omega), decide_eq_true (by omega)]
  · refine EvB.congr (f := fun k => impl_ValidTides.j0 k l true) (fun k => ?_) (EvB.step (f := fun _ => some false) (fun k => by simp [impl_ValidTides.j0]) (EvB.no fun h => h2 h.1.1))
    unfold impl_ValidTides.f
    rw [if_pos (by omega)]

def tw (k : Nat) : Int := rd [1, 2, 3, 3, 2, 1] (k : Int)
def sm : Nat → Int
  | 0 => 0
  | k + 1 => sm k + tw k
theorem sm_six : sm 6 = 12 := rfl
theorem tw_six : tw 6 = 0 := rfl
theorem tw_bd (k : Nat) : 0 ≤ tw k ∧ tw k ≤ 3 := by
  by_cases h : k < 6
  · have : k = 0 ∨ k = 1 ∨ k = 2 ∨ k = 3 ∨ k = 4 ∨ k = 5 := by omega
    rcases this with rfl | rfl | rfl | rfl | rfl | rfl <;> decide
  · have : tw k = 0 := by
      unfold tw rd
      rw [Int.toNat_natCast, List.getD_eq_getElem?_getD, List.getElem?_eq_none (by simp; omega)]
      rfl
    rw [this]; decide
theorem sm_bd {k : Nat} (h : k ≤ 6) : 0 ≤ sm k ∧ sm k ≤ 12 := by
  have : k = 0 ∨ k = 1 ∨ k = 2 ∨ k = 3 ∨ k = 4 ∨ k = 5 ∨ k = 6 := by omega
  rcases this with rfl | rfl | rfl | rfl | rfl | rfl | rfl <;> decide
theorem prod_bd {x y a b : Int} (h1 : -a ≤ x) (h2 : x ≤ a) (h3 : 0 ≤ y) (h4 : y ≤ b) (ha : 0 ≤ a) : -(a * b) ≤ x * y ∧ x * y ≤ a * b := by
  have g1 := Int.mul_nonneg (show 0 ≤ a - x by omega) h3
  have g2 := Int.mul_nonneg (show 0 ≤ a + x by omega) h3
  have g3 := Int.mul_le_mul_of_nonneg_left h4 ha
  rw [Int.sub_mul] at g1
  rw [Int.add_mul] at g2
  omega
/-- What is rounded towards 0 and corrected is rounded down. -/
theorem floor_div {u b : Int} (hb : 0 < b) : (if Int.tmod u b < 0 then Int.tdiv u b - 1 else Int.tdiv u b) = u / b := by
  have h1 := Int.tmod_def u b
  have h2 := Int.mul_ediv_add_emod u b
  have h3 := Int.emod_nonneg u (show b ≠ 0 by omega)
  have h4 := Int.emod_lt_of_pos u hb
  have h5 := Int.tdiv_eq_ediv (a := u) (b := b)
  rw [h5] at h1 ⊢
  by_cases c : 0 ≤ u ∨ b ∣ u
  · rw [if_pos c] at h1 ⊢
    have e : b * (u / b + 0) = b * (u / b) := by rw [Int.add_zero]
    rw [if_neg (by omega)]
    omega
  · rw [if_neg c] at h1 ⊢
    have hs : b.sign = 1 := Int.sign_eq_one_of_pos hb
    rw [hs] at h1 ⊢
    have e : b * (u / b + 1) = b * (u / b) + b := by rw [Int.mul_add, Int.mul_one]
    rw [if_pos (by omega)]
    omega

/-- Minute m lies between waters i and i + 1. -/
def Seg (l : List S43) (m : Int) (i : Nat) : Prop := i + 1 < l.length ∧ M l i ≤ m ∧ m ≤ M l (i + 1) ∧ (i + 2 < l.length → m < M l (i + 1))
def kOf (l : List S43) (m : Int) (i : Nat) : Nat := (6 * (m - M l i) / (M l (i + 1) - M l i)).toNat
def rOf (l : List S43) (m : Int) (i : Nat) : Int := 6 * (m - M l i) % (M l (i + 1) - M l i)
def nOf (l : List S43) (m : Int) (i : Nat) : Int := sm (kOf l m i) * (M l (i + 1) - M l i) + tw (kOf l m i) * rOf l m i
/-- The height at a minute between waters i and i + 1. -/
def hgt (l : List S43) (m : Int) (i : Nat) : Int := V l i + ((V l (i + 1) - V l i) * nOf l m i) / (12 * (M l (i + 1) - M l i))

theorem step_up {l : List S43} (ht : Tides l) {i : Nat} (hi : i + 1 < l.length) : M l i + 6 ≤ M l (i + 1) ∧ V l (i + 1) ≠ V l i := by
  have := (ht.2 (i + 1) hi).2.2.1 (by omega)
  simpa using this
theorem M_bd {l : List S43} (ht : Tides l) {i : Nat} (hi : i < l.length) : 0 ≤ M l i ∧ M l i ≤ 3000 := (ht.2 i hi).1
theorem V_bd {l : List S43} (ht : Tides l) {i : Nat} (hi : i < l.length) : 0 ≤ V l i ∧ V l i ≤ 100 := (ht.2 i hi).2.1
theorem M_le {l : List S43} (ht : Tides l) {i j : Nat} (h : i ≤ j) (hj : j < l.length) : M l i ≤ M l j := by
  induction j with
  | zero =>
    have : i = 0 := by omega
    rw [this]
    exact Int.le_refl _
  | succ j ih =>
    by_cases e : i = j + 1
    · rw [e]; exact Int.le_refl _
    · have h1 := ih (by omega) (by omega)
      have h2 := (step_up ht hj).1
      omega
theorem seg_some {l : List S43} (ht : Tides l) {m : Int} (h0 : M l 0 ≤ m) (h1 : m ≤ M l (l.length - 1)) : ∃ i, Seg l m i := by
  have hl := ht.1
  suffices g : ∀ n, n + 1 < l.length → (∃ i, i < n ∧ Seg l m i) ∨ M l n ≤ m by
    rcases g (l.length - 2) (by omega) with ⟨i, _, hi⟩ | hi
    · exact ⟨i, hi⟩
    · refine ⟨l.length - 2, by omega, hi, ?_, fun h => by omega⟩
      rwa [show l.length - 2 + 1 = l.length - 1 from by omega]
  intro n
  induction n with
  | zero => exact fun _ => .inr h0
  | succ n ih =>
    intro hn
    rcases ih (by omega) with ⟨i, hi, hs⟩ | hi
    · exact .inl ⟨i, by omega, hs⟩
    · by_cases c : M l (n + 1) ≤ m
      · exact .inr c
      · exact .inl ⟨n, by omega, by omega, hi, by omega, fun _ => by omega⟩
theorem k_le {l : List S43} (ht : Tides l) {m : Int} {i : Nat} (h : Seg l m i) : kOf l m i ≤ 6 := by
  obtain ⟨h1, h2, h3, _⟩ := h
  have := (step_up ht h1).1
  unfold kOf
  have : 6 * (m - M l i) / (M l (i + 1) - M l i) ≤ 6 := Int.ediv_le_of_le_mul (by omega) (by omega)
  omega
theorem k_lt {l : List S43} (ht : Tides l) {m : Int} {i : Nat} (h : Seg l m i) (hm : m < M l (i + 1)) : kOf l m i < 6 := by
  obtain ⟨h1, h2, h3, _⟩ := h
  have := (step_up ht h1).1
  unfold kOf
  have : 6 * (m - M l i) / (M l (i + 1) - M l i) < 6 := Int.ediv_lt_of_lt_mul (by omega) (by omega)
  omega
theorem k_cast {l : List S43} (ht : Tides l) {m : Int} {i : Nat} (h : Seg l m i) : ((kOf l m i : Nat) : Int) = 6 * (m - M l i) / (M l (i + 1) - M l i) := by
  obtain ⟨h1, h2, h3, _⟩ := h
  have := (step_up ht h1).1
  have := Int.ediv_nonneg (show 0 ≤ 6 * (m - M l i) by omega) (show 0 ≤ M l (i + 1) - M l i by omega)
  unfold kOf
  omega
theorem r_bd {l : List S43} (ht : Tides l) {m : Int} {i : Nat} (h : i + 1 < l.length) : 0 ≤ rOf l m i ∧ rOf l m i < M l (i + 1) - M l i := by
  have := (step_up ht h).1
  exact ⟨Int.emod_nonneg _ (by omega), Int.emod_lt_of_pos _ (by omega)⟩
theorem k_last {l : List S43} (ht : Tides l) {m : Int} {i : Nat} (h : i + 1 < l.length) (hm : m = M l (i + 1)) : kOf l m i = 6 ∧ rOf l m i = 0 := by
  have := (step_up ht h).1
  unfold kOf rOf
  subst hm
  rw [Int.mul_ediv_cancel _ (by omega), Int.mul_emod_left]
  exact ⟨rfl, rfl⟩
theorem k_first {l : List S43} {m : Int} {i : Nat} (hm : m = M l i) : kOf l m i = 0 ∧ rOf l m i = 0 := by
  unfold kOf rOf
  subst hm
  simp
theorem hgt_last {l : List S43} (ht : Tides l) {i : Nat} (h : i + 1 < l.length) : hgt l (M l (i + 1)) i = V l (i + 1) := by
  have h6 := (step_up ht h).1
  obtain ⟨h1, h2⟩ := k_last ht h (m := M l (i + 1)) rfl
  unfold hgt nOf
  rw [h1, h2, sm_six, tw_six, Int.mul_zero, Int.add_zero, Int.mul_ediv_cancel _ (by omega)]
  omega
theorem hgt_first (l : List S43) (i : Nat) : hgt l (M l i) i = V l i := by
  obtain ⟨h1, h2⟩ := k_first (l := l) (m := M l i) (i := i) rfl
  unfold hgt nOf
  rw [h1, h2]
  simp [sm]
theorem n_bd {l : List S43} (ht : Tides l) {m : Int} {i : Nat} (h : Seg l m i) : 0 ≤ nOf l m i ∧ nOf l m i ≤ 45000 := by
  have h6 := (step_up ht h.1).1
  have ha := M_bd ht (i := i) (by have := h.1; omega)
  have hb := M_bd ht h.1
  have hr := r_bd ht (m := m) h.1
  have hs := sm_bd (k_le ht h)
  have hw := tw_bd (kOf l m i)
  have p1 := prod_bd (x := sm (kOf l m i)) (y := M l (i + 1) - M l i) (a := 12) (b := 3000) (by omega) (by omega) (by omega) (by omega) (by omega)
  have p2 := prod_bd (x := tw (kOf l m i)) (y := rOf l m i) (a := 3) (b := 3000) (by omega) (by omega) (by omega) (by omega) (by omega)
  have p3 := Int.mul_nonneg hs.1 (show 0 ≤ M l (i + 1) - M l i by omega)
  have p4 := Int.mul_nonneg hw.1 hr.1
  unfold nOf
  omega
theorem up_bd {l : List S43} (ht : Tides l) {m : Int} {i : Nat} (h : Seg l m i) : -4500000 ≤ (V l (i + 1) - V l i) * nOf l m i ∧ (V l (i + 1) - V l i) * nOf l m i ≤ 4500000 := by
  have va := V_bd ht (i := i) (by have := h.1; omega)
  have vb := V_bd ht h.1
  have hn := n_bd ht h
  have := prod_bd (x := V l (i + 1) - V l i) (y := nOf l m i) (a := 100) (b := 45000) (by omega) (by omega) hn.1 hn.2 (by omega)
  omega

theorem rdM {l : List S43} (i : Nat) : (rd_T43 l (i : Int)).f0 = M l i := rfl
theorem rdV {l : List S43} (i : Nat) : (rd_T43 l (i : Int)).f1 = V l i := rfl

theorem spec_tw_loop (k : Nat) (hk : k < 6) (d : Nat) : ∀ j : Nat, k = j + d → ∀ g, d < g → spec_l02Twelfths.l0 g (k : Int) [1, 2, 3, 3, 2, 1] (sm j) (j : Int) = some (tw k, sm k) := by
  induction d with
  | zero =>
    intro j hj g hg
    obtain ⟨g, rfl⟩ : ∃ q, g = q + 1 := ⟨g - 1, by omega⟩
    obtain rfl : k = j := by omega
    simp only [spec_l02Twelfths.l0]
    rw [if_neg (by omega), if_pos (by omega), if_pos (by simp; omega)]
    rfl
  | succ d ih =>
    intro j hj g hg
    obtain ⟨g, rfl⟩ : ∃ q, g = q + 1 := ⟨g - 1, by omega⟩
    have hw : wrap64 ((j : Int) + 1) = ((j + 1 : Nat) : Int) := w64 (by omega)
    have hs : wrap64 (sm j + rd [1, 2, 3, 3, 2, 1] (j : Int)) = sm (j + 1) := by
      show wrap64 (sm j + tw j) = _
      have := sm_bd (k := j) (by omega)
      have := tw_bd j
      rw [w64 (by omega)]
      rfl
    simp only [spec_l02Twelfths.l0, hw, hs]
    rw [if_pos (by omega), if_pos (by omega), if_pos (by simp; omega)]
    exact ih (j + 1) (by omega) g (by omega)
theorem spec_tw (k : Nat) (hk : k < 6) : Ev (fun g => spec_l02Twelfths.f g (k : Int)) (tw k, sm k) :=
  ⟨7, fun g hg => spec_tw_loop k hk k 0 (by omega) g (by omega)⟩

/-- What the reference tells of a minute. -/
theorem spec_at_loop (l : List S43) (ht : Tides l) (m : Int) (i : Nat) (hs : Seg l m i) (d : Nat) : ∀ j : Nat, 1 ≤ j → i + 1 = j + d →
    Ev (fun g => spec_l02At.l0 g l m (j : Int)) (if m = M l (i + 1) then (M l (i + 1), V l (i + 1), M l (i + 1), V l (i + 1), 0, 0, true) else (M l i, V l i, M l (i + 1), V l (i + 1), (kOf l m i : Int), rOf l m i, decide (m = M l i))) := by
  have hl := ht.1
  have hm0 := M_bd ht (i := i) (by have := hs.1; omega)
  have hm1 := M_bd ht hs.1
  have h6 := (step_up ht hs.1).1
  obtain ⟨s1, s2, s3, s4⟩ := hs
  induction d with
  | zero =>
    intro j hj hd
    obtain rfl : j = i + 1 := by omega
    have hp : wrap64 (((i + 1 : Nat) : Int) - 1) = (i : Int) := by rw [w64 (by omega)]; omega
    have w0 : wrap64 (M l i) = M l i := w64 (by omega)
    have w1 : wrap64 (M l (i + 1)) = M l (i + 1) := w64 (by omega)
    have wl : wrap64 ((l.length : Int) - 1) = (l.length : Int) - 1 := w64 (by omega)
    by_cases e : m = M l (i + 1)
    · have hlast : ¬ i + 2 < l.length := fun h => by have := s4 h; omega
      rw [if_pos e]
      refine Ev.step (f := fun g => spec_l02At.j1 g l m ((i + 1 : Nat) : Int) (M l i) (M l (i + 1)) false) (fun g => ?_) (Ev.step (f := fun _ => some (M l (i + 1), V l (i + 1), M l (i + 1), V l (i + 1), 0, 0, true)) (fun g => ?_) (Ev.now _))
      · simp only [spec_l02At.l0, hp, rdM, w0, w1, wl]
        rw [if_pos (by omega), if_pos (by omega), if_pos (by omega), if_pos (by omega), if_neg (by omega), if_neg (by omega), if_pos e, decide_eq_false (by omega)]
      · simp only [spec_l02At.j1, rdM, rdV, Bool.false_eq_true, if_false]
        rw [if_pos e, if_pos (by omega), if_pos (by omega)]
    · have e' : m < M l (i + 1) := by omega
      have hk := k_cast ht ⟨s1, s2, s3, s4⟩
      have hk6 := k_le ht ⟨s1, s2, s3, s4⟩
      have hr := r_bd ht (m := m) s1
      have a1 : wrap64 (M l (i + 1) - M l i) = M l (i + 1) - M l i := w64 (by omega)
      have a2 : wrap64 (m - M l i) = m - M l i := w64 (by omega)
      have a3 : wrap64 (6 * (m - M l i)) = 6 * (m - M l i) := w64 (by omega)
      have a4 : wrap64 (Int.tdiv (6 * (m - M l i)) (M l (i + 1) - M l i)) = (kOf l m i : Int) := by
        rw [Int.tdiv_eq_ediv_of_nonneg (by omega), ← hk]
        exact w64 (by omega)
      have a5 : Int.tmod (6 * (m - M l i)) (M l (i + 1) - M l i) = rOf l m i := Int.tmod_eq_emod_of_nonneg (by omega)
      have a6 : (6 * (m - M l i) == 0) = decide (m = M l i) := by
        by_cases c : m = M l i
        · rw [decide_eq_true c]; exact beq_iff_eq.2 (by omega)
        · rw [decide_eq_false c]; exact beq_eq_false_iff_ne.2 (by omega)
      rw [if_neg e]
      refine Ev.step (f := fun g => spec_l02At.j1 g l m ((i + 1 : Nat) : Int) (M l i) (M l (i + 1)) false) (fun g => ?_) (Ev.step (f := fun _ => some (M l i, V l i, M l (i + 1), V l (i + 1), (kOf l m i : Int), rOf l m i, decide (m = M l i))) (fun g => ?_) (Ev.now _))
      · simp only [spec_l02At.l0, hp, rdM, w0, w1]
        rw [if_pos (by omega), if_pos (by omega), if_pos (by omega), if_pos (by omega), if_neg (by omega), if_neg (by omega), if_neg e]
      · simp only [spec_l02At.j1, hp, rdM, rdV, a1, a2, a3, a4, a5, a6, Bool.false_eq_true, if_false]
        rw [if_neg e, if_pos (by omega), if_pos (by omega), if_pos (by omega), if_pos (by omega), if_neg (by omega)]
  | succ d ih =>
    intro j hj hd
    have hp : wrap64 ((j : Int) - 1) = ((j - 1 : Nat) : Int) := by rw [w64 (by omega)]; omega
    have hw : wrap64 ((j : Int) + 1) = ((j + 1 : Nat) : Int) := w64 (by omega)
    have b0 := M_bd ht (i := j - 1) (by omega)
    have b1 := M_bd ht (i := j) (by omega)
    have w0 : wrap64 (M l (j - 1)) = M l (j - 1) := w64 (by omega)
    have w1 : wrap64 (M l j) = M l j := w64 (by omega)
    have wl : wrap64 ((l.length : Int) - 1) = (l.length : Int) - 1 := w64 (by omega)
    have c0 := M_le ht (i := j - 1) (j := j) (by omega) (by omega)
    have c1 := M_le ht (i := j) (j := i) (by omega) (by omega)
    refine Ev.step (f := fun g => spec_l02At.j1 g l m (j : Int) (M l (j - 1)) (M l j) true) (fun g => ?_) (Ev.step (fun g => ?_) (ih (j + 1) (by omega) (by omega)))
    · simp only [spec_l02At.l0, hp, rdM, w0, w1, wl]
      rw [if_pos (by omega), if_pos (by omega), if_pos (by omega), if_pos (by omega), if_neg (by omega)]
      by_cases c : m > M l j
      · rw [if_pos c]
      · rw [if_neg c, if_pos (by omega), decide_eq_true (by omega)]
    · simp only [spec_l02At.j1, if_true, hw]

theorem spec_at (l : List S43) (ht : Tides l) (m : Int) (i : Nat) (hs : Seg l m i) :
    Ev (fun g => spec_l02At.f g l m) (if m = M l (i + 1) then (M l (i + 1), V l (i + 1), M l (i + 1), V l (i + 1), 0, 0, true) else (M l i, V l i, M l (i + 1), V l (i + 1), (kOf l m i : Int), rOf l m i, decide (m = M l i))) :=
  spec_at_loop l ht m i hs i 1 (Nat.le_refl _) (by omega)

theorem impl_part_loop (l : List S43) (ht : Tides l) (m : Int) (i : Nat) (hs : Seg l m i) (d : Nat) : ∀ j : Nat, i = j + d →
    Ev (fun g => impl_part.l0 g l m (j : Int)) ((i : Int), (kOf l m i : Int), rOf l m i) := by
  have hl := ht.1
  have hm0 := M_bd ht (i := i) (by have := hs.1; omega)
  have hm1 := M_bd ht hs.1
  have h6 := (step_up ht hs.1).1
  obtain ⟨s1, s2, s3, s4⟩ := hs
  induction d with
  | zero =>
    intro j hj
    obtain rfl : i = j := by omega
    have hp : wrap64 ((i : Int) + 1) = ((i + 1 : Nat) : Int) := w64 (by omega)
    have hp2 : wrap64 ((i : Int) + 2) = ((i + 2 : Nat) : Int) := w64 (by omega)
    have w0 : wrap64 (M l i) = M l i := w64 (by omega)
    have w1 : wrap64 (M l (i + 1)) = M l (i + 1) := w64 (by omega)
    have hk := k_cast ht ⟨s1, s2, s3, s4⟩
    have hk6 := k_le ht ⟨s1, s2, s3, s4⟩
    have a1 : wrap64 (M l (i + 1) - M l i) = M l (i + 1) - M l i := w64 (by omega)
    have a2 : wrap64 (m - M l i) = m - M l i := w64 (by omega)
    have a3 : wrap64 (6 * (m - M l i)) = 6 * (m - M l i) := w64 (by omega)
    have a4 : wrap64 (Int.tdiv (6 * (m - M l i)) (M l (i + 1) - M l i)) = (kOf l m i : Int) := by
      rw [Int.tdiv_eq_ediv_of_nonneg (by omega), ← hk]
      exact w64 (by omega)
    have a5 : Int.tmod (6 * (m - M l i)) (M l (i + 1) - M l i) = rOf l m i := Int.tmod_eq_emod_of_nonneg (by omega)
    refine Ev.step (f := fun _ => some ((i : Int), (kOf l m i : Int), rOf l m i)) (fun g => ?_) (Ev.now _)
    simp only [impl_part.l0, hp, hp2, rdM, w0, w1, a1, a2, a3, a4, a5]
    rw [if_pos (by omega), if_pos (by omega)]
    by_cases c : M l (i + 1) ≤ m
    · rw [if_pos c, if_neg (fun h => by have := s4 (by omega); omega), if_pos (by omega), if_pos (by omega), if_neg (by omega)]
    · rw [if_neg c, if_pos (by omega), if_pos (by omega), if_neg (by omega)]
  | succ d ih =>
    intro j hj
    have hp : wrap64 ((j : Int) + 1) = ((j + 1 : Nat) : Int) := w64 (by omega)
    have hp2 : wrap64 ((j : Int) + 2) = ((j + 2 : Nat) : Int) := w64 (by omega)
    have b1 := M_bd ht (i := j + 1) (by omega)
    have w1 : wrap64 (M l (j + 1)) = M l (j + 1) := w64 (by omega)
    have c1 := M_le ht (i := j + 1) (j := i) (by omega) (by omega)
    refine Ev.step (fun g => ?_) (ih (j + 1) (by omega))
    simp only [impl_part.l0, hp, hp2, rdM, w1]
    rw [if_pos (by omega), if_pos (by omega), if_pos (by omega), if_pos (by omega)]
theorem impl_part_at (l : List S43) (ht : Tides l) (m : Int) (i : Nat) (hs : Seg l m i) : Ev (fun g => impl_part.f g l m) ((i : Int), (kOf l m i : Int), rOf l m i) :=
  impl_part_loop l ht m i hs i 0 (by omega)

/-- The common last step of both heights. -/
theorem last_step {l : List S43} (ht : Tides l) {m : Int} {i : Nat} (hs : Seg l m i) : ∀ (b : Int), b = 12 * (M l (i + 1) - M l i) → b ≠ 0 ∧
    (if Int.tmod ((V l (i + 1) - V l i) * nOf l m i) b < 0 then some (wrap64 (V l i + wrap64 (wrap64 (Int.tdiv ((V l (i + 1) - V l i) * nOf l m i) b) - 1))) else some (wrap64 (V l i + wrap64 (Int.tdiv ((V l (i + 1) - V l i) * nOf l m i) b)))) = some (hgt l m i) := by
  rintro b rfl
  have h6 := (step_up ht hs.1).1
  have hu := up_bd ht hs
  have va := V_bd ht (i := i) (by have := hs.1; omega)
  refine ⟨by omega, ?_⟩
  have hb : 0 < 12 * (M l (i + 1) - M l i) := by omega
  have hf := floor_div (u := (V l (i + 1) - V l i) * nOf l m i) hb
  have q1 : -4500000 ≤ (V l (i + 1) - V l i) * nOf l m i / (12 * (M l (i + 1) - M l i)) := by
    refine Int.le_ediv_of_mul_le hb ?_
    have := prod_bd (x := -4500000) (y := 12 * (M l (i + 1) - M l i)) (a := 4500000) (b := 12 * (M l (i + 1) - M l i)) (by omega) (by omega) (by omega) (by omega) (by omega)
    omega
  have q2 : (V l (i + 1) - V l i) * nOf l m i / (12 * (M l (i + 1) - M l i)) ≤ 4500000 := by
    refine Int.ediv_le_of_le_mul hb ?_
    omega
  unfold hgt
  by_cases c : Int.tmod ((V l (i + 1) - V l i) * nOf l m i) (12 * (M l (i + 1) - M l i)) < 0
  · rw [if_pos c] at hf ⊢
    rw [w64 (n := Int.tdiv _ _) (by omega), w64 (n := Int.tdiv _ _ - 1) (by omega), w64 (by omega), hf]
  · rw [if_neg c] at hf ⊢
    rw [w64 (n := Int.tdiv _ _) (by omega), w64 (by omega), hf]

theorem spec_height (l : List S43) (ht : Tides l) (m : Int) (i : Nat) (hs : Seg l m i) : Ev (fun g => spec_l02Height.f g l m) (hgt l m i) := by
  have h6 := (step_up ht hs.1).1
  have ma := M_bd ht (i := i) (by have := hs.1; omega)
  have mb := M_bd ht hs.1
  have va := V_bd ht (i := i) (by have := hs.1; omega)
  have vb := V_bd ht hs.1
  have hat := spec_at l ht m i hs
  by_cases e : m = M l (i + 1)
  · rw [if_pos e] at hat
    refine Ev.congr (fun g => by unfold spec_l02Height.f; rfl) (Ev.bind hat ?_)
    simp only [if_true]
    rw [w64 (n := V l (i + 1)) (by omega), e, hgt_last ht hs.1]
    exact Ev.now _
  · rw [if_neg e] at hat
    refine Ev.congr (fun g => by unfold spec_l02Height.f; rfl) (Ev.bind hat ?_)
    by_cases e0 : m = M l i
    · simp only [decide_eq_true e0, if_true]
      rw [w64 (n := V l i) (by omega), e0, hgt_first]
      exact Ev.now _
    · simp only [decide_eq_false e0, Bool.false_eq_true, if_false]
      have hk := k_lt ht hs (by have := hs.2.2.1; omega)
      refine Ev.bind (spec_tw _ hk) ?_
      have hn := n_bd ht hs
      have hu := up_bd ht hs
      have hr := r_bd ht (m := m) hs.1
      have hsb := sm_bd (k_le ht hs)
      have hw := tw_bd (kOf l m i)
      have p1 := prod_bd (x := sm (kOf l m i)) (y := M l (i + 1) - M l i) (a := 12) (b := 3000) (by omega) (by omega) (by omega) (by omega) (by omega)
      have p2 := prod_bd (x := tw (kOf l m i)) (y := rOf l m i) (a := 3) (b := 3000) (by omega) (by omega) (by omega) (by omega) (by omega)
      have q0 : wrap64 (M l (i + 1)) = M l (i + 1) := w64 (by omega)
      have q1 : wrap64 (M l i) = M l i := w64 (by omega)
      have q2 : wrap64 (M l (i + 1) - M l i) = M l (i + 1) - M l i := w64 (by omega)
      have q3 : wrap64 (12 * (M l (i + 1) - M l i)) = 12 * (M l (i + 1) - M l i) := w64 (by omega)
      have q4 : wrap64 (V l (i + 1)) = V l (i + 1) := w64 (by omega)
      have q5 : wrap64 (V l i) = V l i := w64 (by omega)
      have q6 : wrap64 (V l (i + 1) - V l i) = V l (i + 1) - V l i := w64 (by omega)
      have q7 : wrap64 (sm (kOf l m i) * (M l (i + 1) - M l i)) = sm (kOf l m i) * (M l (i + 1) - M l i) := w64 (by omega)
      have q8 : wrap64 (tw (kOf l m i) * rOf l m i) = tw (kOf l m i) * rOf l m i := w64 (by omega)
      have q9 : wrap64 (sm (kOf l m i) * (M l (i + 1) - M l i) + tw (kOf l m i) * rOf l m i) = nOf l m i := w64 (by omega)
      have q10 : wrap64 ((V l (i + 1) - V l i) * nOf l m i) = (V l (i + 1) - V l i) * nOf l m i := w64 (by omega)
      obtain ⟨hb0, hl⟩ := last_step ht hs _ rfl
      refine Ev.congr (f := fun _ => some (hgt l m i)) (fun g => ?_) (Ev.now _)
      simp only [q0, q1, q2, q3, q4, q5, q6, q7, q8, q9, q10]
      rw [if_neg hb0, hl]

theorem impl_height_loop (l : List S43) (ht : Tides l) (m : Int) (i : Nat) (hs : Seg l m i) (hm : m < M l (i + 1)) (d : Nat) : ∀ j : Nat, kOf l m i = j + d →
    Ev (fun g => impl_height.l0 g l (i : Int) (kOf l m i : Int) (rOf l m i) (sm j) (([1, 2, 3, 3, 2, 1] : List Int).take (kOf l m i)) (kOf l m i : Int) (j : Int)) (hgt l m i) := by
  have hk := k_lt ht hs hm
  have hlen := ht.1
  induction d with
  | zero =>
    intro j hj
    rw [show sm j = sm (kOf l m i) from by rw [show j = kOf l m i from by omega]]
    have h6 := (step_up ht hs.1).1
    have ma := M_bd ht (i := i) (by have := hs.1; omega)
    have mb := M_bd ht hs.1
    have va := V_bd ht (i := i) (by have := hs.1; omega)
    have vb := V_bd ht hs.1
    have hn := n_bd ht hs
    have hu := up_bd ht hs
    have hr := r_bd ht (m := m) hs.1
    have hsb := sm_bd (k_le ht hs)
    have hw := tw_bd (kOf l m i)
    have p1 := prod_bd (x := sm (kOf l m i)) (y := M l (i + 1) - M l i) (a := 12) (b := 3000) (by omega) (by omega) (by omega) (by omega) (by omega)
    have p2 := prod_bd (x := tw (kOf l m i)) (y := rOf l m i) (a := 3) (b := 3000) (by omega) (by omega) (by omega) (by omega) (by omega)
    have hp : wrap64 ((i : Int) + 1) = ((i + 1 : Nat) : Int) := w64 (by have := hs.1; omega)
    have q0 : wrap64 (M l (i + 1)) = M l (i + 1) := w64 (by omega)
    have q1 : wrap64 (M l i) = M l i := w64 (by omega)
    have q2 : wrap64 (M l (i + 1) - M l i) = M l (i + 1) - M l i := w64 (by omega)
    have q3 : wrap64 (12 * (M l (i + 1) - M l i)) = 12 * (M l (i + 1) - M l i) := w64 (by omega)
    have q4 : wrap64 (V l (i + 1)) = V l (i + 1) := w64 (by omega)
    have q5 : wrap64 (V l i) = V l i := w64 (by omega)
    have q6 : wrap64 (V l (i + 1) - V l i) = V l (i + 1) - V l i := w64 (by omega)
    have q7 : wrap64 (sm (kOf l m i) * (M l (i + 1) - M l i)) = sm (kOf l m i) * (M l (i + 1) - M l i) := w64 (by omega)
    have q8 : wrap64 (rd [1, 2, 3, 3, 2, 1] (kOf l m i : Int) * rOf l m i) = tw (kOf l m i) * rOf l m i := w64 (by show _ ≤ tw (kOf l m i) * rOf l m i ∧ tw (kOf l m i) * rOf l m i ≤ _; omega)
    have q9 : wrap64 (sm (kOf l m i) * (M l (i + 1) - M l i) + tw (kOf l m i) * rOf l m i) = nOf l m i := w64 (by omega)
    have q10 : wrap64 ((V l (i + 1) - V l i) * nOf l m i) = (V l (i + 1) - V l i) * nOf l m i := w64 (by omega)
    obtain ⟨hb0, hl⟩ := last_step ht hs _ rfl
    refine Ev.step (f := fun _ => some (hgt l m i)) (fun g => ?_) (Ev.now _)
    simp only [impl_height.l0, impl_twelfths.f, Option.bind_some, hp, rdM, rdV, q0, q1, q2, q3, q4, q5, q6, q7, q8, q9, q10]
    have hs1 := hs.1
    rw [if_neg (by omega), if_pos (by omega), if_pos (by omega), if_pos (by omega), if_pos (by omega), if_pos (by omega), if_pos (by simp; omega), if_neg hb0, hl]
  | succ d ih =>
    intro j hj
    have hw : wrap64 ((j : Int) + 1) = ((j + 1 : Nat) : Int) := w64 (by omega)
    have hrd : rd (([1, 2, 3, 3, 2, 1] : List Int).take (kOf l m i)) (j : Int) = tw j := by
      unfold tw rd
      rw [Int.toNat_natCast, List.getD_eq_getElem?_getD, List.getD_eq_getElem?_getD, List.getElem?_take, if_pos (by omega)]
    have hsj : wrap64 (sm j + tw j) = sm (j + 1) := by
      have := sm_bd (k := j) (by omega)
      have := tw_bd j
      rw [w64 (by omega)]
      rfl
    refine Ev.step (fun g => ?_) (ih (j + 1) (by omega))
    simp only [impl_height.l0, hw, hrd, hsj]
    rw [if_pos (by omega), if_pos (by omega), if_pos (by rw [List.length_take]; simp; omega)]

theorem span_some (l : List S43) (ht : Tides l) : impl_span.f l = some (M l 0, M l (l.length - 1)) := by
  have hl := ht.1
  have m0 := M_bd ht (i := 0) (by omega)
  have m1 := M_bd ht (i := l.length - 1) (by omega)
  have hwl : wrap64 ((l.length : Int) - 1) = ((l.length - 1 : Nat) : Int) := by rw [w64 (by omega)]; omega
  unfold impl_span.f
  rw [hwl, if_pos (by omega), if_pos (by omega), if_pos (by omega), rdM]
  have e0 : wrap64 (rd_T43 l 0).f0 = M l 0 := w64 (by unfold M at m0; simp at m0; omega)
  rw [e0, w64 (by omega)]

theorem impl_height_at (l : List S43) (ht : Tides l) (m : Int) (i : Nat) (hs : Seg l m i) : Ev (fun g => impl_height.f g l m) (hgt l m i) := by
  have hl := ht.1
  have hwl : wrap64 ((l.length : Int) - 1) = ((l.length - 1 : Nat) : Int) := by rw [w64 (by omega)]; omega
  have vb := V_bd ht hs.1
  by_cases e : m = M l (l.length - 1)
  · have hi : i + 1 = l.length - 1 := by
      have h1 := hs.1
      by_cases c : i + 2 < l.length
      · have h4 := hs.2.2.2 c
        have := M_le ht (i := i + 1) (j := l.length - 1) (by omega) (by omega)
        omega
      · omega
    refine Ev.congr (f := fun _ => some (hgt l m i)) (fun g => ?_) (Ev.now _)
    unfold impl_height.f
    rw [span_some l ht]
    simp only [Option.bind_some, hwl, rdV]
    rw [if_pos e, if_pos (by omega), if_pos (by omega), ← hi, w64 (by omega)]
    rw [← hi] at e
    rw [e, hgt_last ht hs.1]
  · have hm : m < M l (i + 1) := by
      by_cases c : i + 2 < l.length
      · exact hs.2.2.2 c
      · have h1 := hs.1
        have h3 := hs.2.2.1
        rw [show l.length - 1 = i + 1 from by omega] at e
        omega
    have hk := k_lt ht hs hm
    refine Ev.congr (f := fun g => (impl_part.f g l m).bind fun bt181 => ((impl_twelfths.f).bind fun t184 => (if 0 ≤ bt181.2.1 then (if bt181.2.1 ≤ (t184.length : Int) then ((some (t184.take (bt181.2.1 : Int).toNat : List Int)).bind fun y187 => (impl_height.l0 g l bt181.1 bt181.2.1 bt181.2.2 0 y187 (y187.length : Int) 0)) else (none)) else (none)))) (fun g => ?_) (Ev.bind (impl_part_at l ht m i hs) ?_)
    · unfold impl_height.f
      rw [span_some l ht]
      simp only [Option.bind_some]
      rw [if_neg e]
    · have hlen : ((([1, 2, 3, 3, 2, 1] : List Int).take (kOf l m i)).length : Int) = (kOf l m i : Int) := by rw [List.length_take]; simp; omega
      have hg := impl_height_loop l ht m i hs hm (kOf l m i) 0 (by omega)
      refine Ev.congr (fun g => ?_) hg
      simp only [impl_twelfths.f, Option.bind_some, Int.toNat_natCast, hlen]
      rw [if_pos (by omega), if_pos (by simp; omega)]
      rfl

/-- A minute of tides. -/
def InT (l : List S43) (m : Int) : Prop := M l 0 ≤ m ∧ m ≤ M l (l.length - 1)
theorem spec_asked (l : List S43) (c b : Bool) (h : Ev (fun k => spec_l02Tides.f k l) c) : Ev (fun k => spec_l02Asked.f k l b) (if c = true then (if b = true then 0 else 2) else 1) := by
  refine Ev.congr (fun k => by unfold spec_l02Asked.f; rfl) (Ev.bind h ?_)
  cases c <;> cases b <;> exact Ev.now _
/-- What the program's code tells of some minutes and levels that are few. -/
theorem impl_code (l : List S43) (c : Bool) (h : Ev (fun k => impl_ValidTides.f k l) c) (hc : c = true → Tides l) (ms ls : List Int) (q : Int)
    (hq : Tides l → Ev (fun k => impl_tidesCode.l0 k ms ls (M l 0) (M l (l.length - 1)) ms ms.length 0) q) : Ev (fun k => impl_tidesCode.f k l ms ls) (if c = true then q else 1) := by
  refine Ev.congr (fun k => by unfold impl_tidesCode.f; rfl) (Ev.bind h ?_)
  cases c with
  | true =>
    simp only [if_true]
    rw [span_some l (hc rfl)]
    exact hq (hc rfl)
  | false => exact Ev.now _
theorem levels1 (k : Nat) (v : Int) : impl_tidesCode.l1 (k + 2) [v] 1 0 = some (if 0 ≤ v ∧ v ≤ 100 then 0 else 2) := by
  have hw : wrap64 (0 + 1) = 1 := w64 (by omega)
  have hr : rd [v] 0 = v := rfl
  simp only [impl_tidesCode.l1, hw, hr, List.length_cons, List.length_nil]
  by_cases c0 : v < 0
  · simp [c0] <;> omega
  · by_cases c1 : v > 100
    · simp [c0, c1] <;> omega
    · simp [c0, c1] <;> omega
theorem last_some (l : List S43) (ht : Tides l) : spec_l02Last.f l = some (M l (l.length - 1)) := by
  have hl := ht.1
  have m1 := M_bd ht (i := l.length - 1) (by omega)
  have hwl : wrap64 ((l.length : Int) - 1) = ((l.length - 1 : Nat) : Int) := by rw [w64 (by omega)]; omega
  unfold spec_l02Last.f
  rw [hwl, if_pos (by omega), if_pos (by omega), rdM, w64 (by omega)]
theorem div_bd {u b : Int} (h1 : -4500000 ≤ u) (h2 : u ≤ 4500000) (hb : 0 < b) : -4500000 ≤ u / b ∧ u / b ≤ 4500000 := by
  constructor
  · refine (Int.le_ediv_iff_mul_le hb).2 ?_
    have : (-4500000 : Int) * b ≤ -4500000 * 1 := Int.mul_le_mul_of_nonpos_left (by omega) (by omega)
    omega
  · have h3 : u / b ≤ 4500000 / b := Int.ediv_le_ediv hb h2
    have h4 : (4500000 : Int) / b ≤ 4500000 := Int.ediv_le_self _ (by omega)
    omega
theorem hgt_bd {l : List S43} (ht : Tides l) {m : Int} {i : Nat} (hs : Seg l m i) : -5000000 ≤ hgt l m i ∧ hgt l m i ≤ 5000000 := by
  have h1 := up_bd ht hs
  have h2 := (step_up ht hs.1).1
  have h3 := div_bd h1.1 h1.2 (b := 12 * (M l (i + 1) - M l i)) (by omega)
  have h4 := V_bd ht (i := i) (by have := hs.1; omega)
  unfold hgt
  omega
theorem first_some (l : List S43) (ht : Tides l) : spec_l02First.f l = some (M l 0) := by
  have hl := ht.1
  have m1 := M_bd ht (i := 0) (by omega)
  have e : (rd_T43 l 0).f0 = M l 0 := rfl
  unfold spec_l02First.f
  rw [if_pos (by omega), e, w64 (by omega)]

theorem rd82 {xs : List S39} {j : Nat} (h : j < xs.length) : rd_T39 xs (j : Int) = xs[j] := by
  unfold rd_T39
  rw [Int.toNat_natCast, List.getD_eq_getElem?_getD, List.getElem?_eq_getElem h]
  rfl
theorem n_bd12 {l : List S43} (ht : Tides l) {m : Int} {i : Nat} (h : Seg l m i) : 0 ≤ nOf l m i ∧ nOf l m i ≤ 12 * (M l (i + 1) - M l i) := by
  refine ⟨(n_bd ht h).1, ?_⟩
  have h6 := (step_up ht h.1).1
  have hr := r_bd ht (m := m) h.1
  have hk := k_le ht h
  unfold nOf
  by_cases e : kOf l m i = 6
  · rw [e, sm_six, tw_six, Int.zero_mul, Int.add_zero]
    exact Int.le_refl _
  · have hs := sm_bd (k := kOf l m i + 1) (by omega)
    have hw := tw_bd (kOf l m i)
    have e1 : sm (kOf l m i + 1) = sm (kOf l m i) + tw (kOf l m i) := rfl
    have p1 := Int.mul_le_mul_of_nonneg_left (Int.le_of_lt hr.2) hw.1
    have p2 := Int.mul_le_mul_of_nonneg_right hs.2 (show 0 ≤ M l (i + 1) - M l i by omega)
    rw [e1, Int.add_mul] at p2
    omega
theorem hgt_pos {l : List S43} (ht : Tides l) {m : Int} {i : Nat} (h : Seg l m i) : 0 ≤ hgt l m i := by
  have h6 := (step_up ht h.1).1
  have va := V_bd ht (i := i) (by have := h.1; omega)
  have vb := V_bd ht h.1
  have hn := n_bd12 ht h
  unfold hgt
  by_cases c : V l i ≤ V l (i + 1)
  · have := Int.ediv_nonneg (Int.mul_nonneg (show 0 ≤ V l (i + 1) - V l i by omega) hn.1) (show 0 ≤ 12 * (M l (i + 1) - M l i) by omega)
    omega
  · have p := Int.mul_le_mul_of_nonpos_left (show V l (i + 1) - V l i ≤ 0 by omega) hn.2
    have := Int.le_ediv_of_mul_le (show 0 < 12 * (M l (i + 1) - M l i) by omega) p
    omega
theorem at_pos {l : List S43} (ht : Tides l) {m : Int} (h : InT l m) : ∃ q : Int, Ev (fun g => spec_l02Height.f g l m) q ∧ Ev (fun g => impl_height.f g l m) q ∧ 0 ≤ q ∧ q ≤ 5000000 := by
  obtain ⟨i, hs⟩ := seg_some ht h.1 h.2
  have := hgt_bd ht hs
  exact ⟨hgt l m i, spec_height l ht m i hs, impl_height_at l ht m i hs, hgt_pos ht hs, this.2⟩
theorem rd82_last (o : List S39) (x : S39) : rd_T39 (o ++ [x]) (o.length : Int) = x := by
  rw [rd82 (by simp)]; simp
theorem set82_last (o : List S39) (x y : S39) : (o ++ [x]).set o.length y = o ++ [y] := by
  rw [List.set_append_right _ _ (Nat.le_refl _)]; simp
/-- What both programs hold at minute m: the windows, and whether the last one is open. -/
def WinI (out : List S39) (fl : Bool) (m : Int) : Prop := (out = [] ∧ fl = false) ∨ ∃ (o : List S39) (p q : Int), out = o ++ [(⟨p, q⟩ : S39)] ∧ q ≤ m - 1 ∧ fl = decide (q = m - 1)
theorem win_loop (P : Int → Bool) (need : Int) (l : List S43) (ht : Tides l) (hP : ∀ h : Int, 0 ≤ h → h ≤ 5000000 → (P h = true ↔ need ≤ h)) (n : Nat) : ∀ (m : Int) (out : List S39) (fl : Bool), M l 0 ≤ m → M l (l.length - 1) + 1 = m + n → out.length + n ≤ 100000 → WinI out fl m →
    ∃ r : List S39, r.length ≤ 100000 ∧ Ev (fun k => spec_l02Windows.l0 k l need out fl m) r ∧ Ev (fun k => impl_windows.l0 (fun h => some (P h)) k l out (M l (l.length - 1)) m) r := by
  have hl := ht.1
  have hb := M_bd ht (i := l.length - 1) (by omega)
  have hb0 := M_bd ht (i := 0) (by omega)
  induction n with
  | zero =>
    intro m out fl h0 hm hc hi
    refine ⟨out, by omega, Ev.step (f := fun _ => some out) (fun k => ?_) (Ev.now _), Ev.step (f := fun _ => some out) (fun k => ?_) (Ev.now _)⟩
    · simp only [spec_l02Windows.l0, last_some l ht, Option.bind_some]
      rw [if_neg (by omega)]
    · simp only [impl_windows.l0]
      rw [if_neg (by omega)]
  | succ n ih =>
    intro m out fl h0 hm hc hi
    obtain ⟨h, a1, a2, a3, a4⟩ := at_pos ht (m := m) ⟨h0, by omega⟩
    have hw1 : wrap64 (m + 1) = m + 1 := w64 (by omega)
    have hwm : wrap64 (m - 1) = m - 1 := w64 (by omega)
    have hp := hP h a3 a4
    have lim1 : out.length < 8796093022208 := by omega
    by_cases c : need ≤ h
    · have hpt : P h = true := hp.2 c
      have key : ∀ out2 : List S39, out2.length ≤ out.length + 1 → WinI out2 true (m + 1) → 
          (∀ k, (impl_windows.l0 (fun h => some (P h)) (k + 1) l out (M l (l.length - 1)) m) = ((impl_height.f k l m).bind fun t => (if P t = true then impl_windows.l0 (fun h => some (P h)) k l out2 (M l (l.length - 1)) (m + 1) else impl_windows.l0 (fun h => some (P h)) k l out (M l (l.length - 1)) (m + 1)))) →
          (∀ k, (spec_l02Windows.l0 (k + 1) l need out fl m) = ((spec_l02Height.f k l m).bind fun t => (if t < need then spec_l02Windows.l0 k l need out false (m + 1) else spec_l02Windows.l0 k l need out2 true (m + 1)))) →
          ∃ r : List S39, r.length ≤ 100000 ∧ Ev (fun k => spec_l02Windows.l0 k l need out fl m) r ∧ Ev (fun k => impl_windows.l0 (fun h => some (P h)) k l out (M l (l.length - 1)) m) r := by
        intro out2 h2 hi2 e1 e2
        obtain ⟨r, r0, r1, r2⟩ := ih (m + 1) out2 true (by omega) (by omega) (by omega) hi2
        refine ⟨r, r0, Ev.step e2 (Ev.bind a1 ?_), Ev.step e1 (Ev.bind a2 ?_)⟩
        · simp only [if_neg (show ¬ h < need by omega)]; exact r1
        · simp only [if_pos hpt]; exact r2
      rcases hi with ⟨rfl, rfl⟩ | ⟨o, p, q, rfl, hq, rfl⟩
      · refine key [(⟨m, m⟩ : S39)] (by simp) (.inr ⟨[], m, m, rfl, by omega, by rw [decide_eq_true (by omega)]⟩) (fun k => ?_) (fun k => ?_)
        · simp only [impl_windows.l0, if_pos (show m ≤ M l (l.length - 1) by omega), hw1, Option.bind_some, List.length_nil, List.nil_append]
          rfl
        · have e : wrap64 (((([⟨m, m⟩] : List S39).length : Nat) : Int) - 1) = 0 := by
            rw [show ((([(⟨m, m⟩ : S39)] : List S39).length : Nat) : Int) - 1 = 0 from by simp]
            exact w64 (by omega)
          simp only [spec_l02Windows.l0, last_some l ht, Option.bind_some, if_pos (show m ≤ M l (l.length - 1) by omega), hw1, List.nil_append, Bool.false_eq_true, if_false, e, if_pos lim1]
          rfl
      · have hlen : (o ++ [(⟨p, q⟩ : S39)]).length = o.length + 1 := by simp
        have e0 : wrap64 (((o ++ [(⟨p, q⟩ : S39)]).length : Int) - 1) = (o.length : Int) := by rw [hlen, w64 (by omega)]; omega
        have e1 := rd82_last o ⟨p, q⟩
        have e2 := fun y => set82_last o ⟨p, q⟩ y
        by_cases c2 : q = m - 1
        · refine key (o ++ [(⟨p, m⟩ : S39)]) (by simp) (.inr ⟨o, p, m, rfl, by omega, by rw [decide_eq_true (by omega)]⟩) (fun k => ?_) (fun k => ?_)
          · simp only [impl_windows.l0, if_pos (show m ≤ M l (l.length - 1) by omega), hw1, hwm, Option.bind_some, e0, e1, Int.toNat_natCast, e2, if_pos c2]
            rw [if_pos (show ((o ++ [(⟨p, q⟩ : S39)]).length : Int) > 0 by omega), if_pos (show (0 : Int) ≤ o.length by omega), if_pos (show (o.length : Int) < ((o ++ [(⟨p, q⟩ : S39)]).length : Int) by omega)]
          · simp only [spec_l02Windows.l0, last_some l ht, Option.bind_some, if_pos (show m ≤ M l (l.length - 1) by omega), hw1, decide_eq_true c2, if_true, e0, e1, Int.toNat_natCast, e2]
            rw [if_pos (show (0 : Int) ≤ o.length by omega), if_pos (show (o.length : Int) < ((o ++ [(⟨p, q⟩ : S39)]).length : Int) by omega)]
        · have hlen2 : ((o ++ [(⟨p, q⟩ : S39)]) ++ [(⟨m, m⟩ : S39)]).length = (o ++ [(⟨p, q⟩ : S39)]).length + 1 := by simp
          have f0 : wrap64 ((((o ++ [(⟨p, q⟩ : S39)]) ++ [(⟨m, m⟩ : S39)]).length : Int) - 1) = ((o ++ [(⟨p, q⟩ : S39)]).length : Int) := by rw [hlen2, w64 (by omega)]; omega
          have f1 := rd82_last (o ++ [(⟨p, q⟩ : S39)]) ⟨m, m⟩
          have f2 := fun y => set82_last (o ++ [(⟨p, q⟩ : S39)]) ⟨m, m⟩ y
          refine key ((o ++ [(⟨p, q⟩ : S39)]) ++ [(⟨m, m⟩ : S39)]) (by simp) (.inr ⟨_, m, m, rfl, by omega, by rw [decide_eq_true (by omega)]⟩) (fun k => ?_) (fun k => ?_)
          · simp only [impl_windows.l0, if_pos (show m ≤ M l (l.length - 1) by omega), hw1, hwm, Option.bind_some, e0, e1, if_neg c2, if_pos lim1]
            rw [if_pos (show ((o ++ [(⟨p, q⟩ : S39)]).length : Int) > 0 by omega), if_pos (show (0 : Int) ≤ o.length by omega), if_pos (show (o.length : Int) < ((o ++ [(⟨p, q⟩ : S39)]).length : Int) by omega)]
          · simp only [spec_l02Windows.l0, last_some l ht, Option.bind_some, if_pos (show m ≤ M l (l.length - 1) by omega), hw1, decide_eq_false c2, Bool.false_eq_true, if_false, f0, f1, Int.toNat_natCast, f2, if_pos lim1]
            rw [if_pos (show (0 : Int) ≤ ((o ++ [(⟨p, q⟩ : S39)]).length : Int) by omega), if_pos (show ((o ++ [(⟨p, q⟩ : S39)]).length : Int) < (((o ++ [(⟨p, q⟩ : S39)]) ++ [(⟨m, m⟩ : S39)]).length : Int) by omega)]
    · have hpf : ¬ P h = true := fun g => c (hp.1 g)
      obtain ⟨r, r0, r1, r2⟩ := ih (m + 1) out false (by omega) (by omega) (by omega) (by
        rcases hi with ⟨rfl, rfl⟩ | ⟨o, p, q, rfl, hq, rfl⟩
        · exact .inl ⟨rfl, rfl⟩
        · exact .inr ⟨o, p, q, rfl, by omega, by rw [decide_eq_false (by omega)]⟩)
      refine ⟨r, r0, Ev.step (f := fun k => (spec_l02Height.f k l m).bind fun t => (if t < need then spec_l02Windows.l0 k l need out false (m + 1) else (if fl = true then (if 0 ≤ (wrap64 ((out.length : Int) - 1)) then (if (wrap64 ((out.length : Int) - 1)) < (out.length : Int) then (spec_l02Windows.l0 k l need (out.set ((wrap64 ((out.length : Int) - 1)) : Int).toNat (⟨(rd_T39 out (wrap64 ((out.length : Int) - 1))).f0, m⟩ : S39)) fl (wrap64 (m + 1))) else (none)) else (none)) else (if out.length < 8796093022208 then ((some (out ++ [(⟨m, m⟩ : S39)] : List (S39))).bind fun y238 => (if 0 ≤ (wrap64 ((y238.length : Int) - 1)) then (if (wrap64 ((y238.length : Int) - 1)) < (y238.length : Int) then (spec_l02Windows.l0 k l need (y238.set ((wrap64 ((y238.length : Int) - 1)) : Int).toNat (⟨(rd_T39 y238 (wrap64 ((y238.length : Int) - 1))).f0, m⟩ : S39)) true (wrap64 (m + 1))) else (none)) else (none))) else (none))))) (fun k => ?_) (Ev.bind a1 ?_), Ev.step (f := fun k => (impl_height.f k l m).bind fun t => ((fun h => some (P h)) t : Option Bool).bind fun b => (if b = true then (if (out.length : Int) > 0 then (if 0 ≤ (wrap64 ((out.length : Int) - 1)) then (if (wrap64 ((out.length : Int) - 1)) < (out.length : Int) then (if ((rd_T39 out (wrap64 ((out.length : Int) - 1))).f1) = (wrap64 (m - 1)) then (impl_windows.l0 (fun h => some (P h)) k l (out.set ((wrap64 ((out.length : Int) - 1)) : Int).toNat (⟨(rd_T39 out (wrap64 ((out.length : Int) - 1))).f0, m⟩ : S39)) (M l (l.length - 1)) (wrap64 (m + 1))) else (if out.length < 8796093022208 then (impl_windows.l0 (fun h => some (P h)) k l (out ++ [(⟨m, m⟩ : S39)]) (M l (l.length - 1)) (wrap64 (m + 1))) else (none))) else (none)) else (none)) else (if out.length < 8796093022208 then (impl_windows.l0 (fun h => some (P h)) k l (out ++ [(⟨m, m⟩ : S39)]) (M l (l.length - 1)) (wrap64 (m + 1))) else (none))) else (impl_windows.l0 (fun h => some (P h)) k l out (M l (l.length - 1)) (wrap64 (m + 1))))) (fun k => ?_) (Ev.bind a2 ?_)⟩
      · simp only [spec_l02Windows.l0, last_some l ht, Option.bind_some]
        rw [if_pos (by omega), hw1]
      · simp only [if_pos (show h < need by omega)]; exact r1
      · simp only [impl_windows.l0]
        rw [if_pos (by omega)]
      · simp only [Option.bind_some, if_neg hpf, hw1]; exact r2
theorem both_windows (P : Int → Bool) (need : Int) (l : List S43) (ht : Tides l) (hP : ∀ h : Int, 0 ≤ h → h ≤ 5000000 → (P h = true ↔ need ≤ h)) :
    ∃ r : List S39, r.length ≤ 100000 ∧ Ev (fun k => spec_l02Windows.f k l need) r ∧ Ev (fun k => impl_windows.f (fun h => some (P h)) k l) r := by
  have hl := ht.1
  have b0 := M_bd ht (i := 0) (by omega)
  have b1 := M_bd ht (i := l.length - 1) (by omega)
  have b2 := M_le ht (i := 0) (j := l.length - 1) (by omega) (by omega)
  obtain ⟨r, r0, r1, r2⟩ := win_loop P need l ht hP (M l (l.length - 1) + 1 - M l 0).toNat (M l 0) [] false (by omega) (by omega) (by simp; omega) (.inl ⟨rfl, rfl⟩)
  refine ⟨r, r0, ?_, ?_⟩
  · unfold spec_l02Windows.f
    rw [first_some l ht]
    exact r1
  · unfold impl_windows.f
    rw [span_some l ht]
    exact r2

theorem codesW (l : List S43) (hf : Fits l) (hl : l.length ≤ 1048576) (v : Int) : ∃ (q : Int), Ev (fun k => (spec_l02Level.f v).bind fun t => spec_l02Asked.f k l t) q ∧ Ev (fun k => impl_tidesCode.f k l [] [v]) q ∧ (q = 0 → Tides l) := by
  obtain ⟨c, h1, h2, h3⟩ := EvB.same (spec_tides l hf hl) (impl_tides l hf hl)
  have hlv : spec_l02Level.f v = some (decide (0 ≤ v ∧ v ≤ 100)) := by unfold spec_l02Level.f; rw [in_some]; rfl
  refine ⟨if c = true then (if 0 ≤ v ∧ v ≤ 100 then 0 else 2) else 1, ?_, ?_, ?_⟩
  · simp only [hlv, Option.bind_some]
    have := spec_asked l c (decide (0 ≤ v ∧ v ≤ 100)) h1
    by_cases g : 0 ≤ v ∧ v ≤ 100
    · rw [decide_eq_true g] at this; simpa [g] using this
    · rw [decide_eq_false g] at this; simpa [g] using this
  · refine impl_code l c h2 h3.1 [] [v] _ (fun _ => ⟨3, fun k hk => ?_⟩)
    obtain ⟨k, rfl⟩ : ∃ q, k = q + 3 := ⟨k - 3, by omega⟩
    have e : impl_tidesCode.l1 (k + 2) [v] 1 0 = some (if 0 ≤ v ∧ v ≤ 100 then 0 else 2) := levels1 k v
    simp only [impl_tidesCode.l0, List.length_nil, List.length_cons]
    rw [if_neg (by simp)]
    exact e
  · intro e
    cases c with
    | true => exact h3.1 rfl
    | false => simp at e
theorem bothW (l : List S43) (hf : Fits l) (hl : l.length ≤ 1048576) (v : Int) :
    ∃ (r : List S39) (c : Int), r.length ≤ 100000 ∧ Ev (fun k => (spec_l02Level.f v).bind fun t => spec_l02Asked.f k l t) c ∧ (c = 0 → Ev (fun k => spec_l02Windows.f k l v) r) ∧ (c ≠ 0 → r = []) ∧ Ev (fun k => impl_WindowsOver.f k l v) (r, c) := by
  obtain ⟨q, h1, h2, h3⟩ := codesW l hf hl v
  by_cases c0 : q = 0
  · subst c0
    obtain ⟨r, r0, r1, r2⟩ := both_windows (fun h => decide (h ≥ v)) v l (h3 rfl) (fun h _ _ => by simp)
    refine ⟨r, 0, r0, h1, fun _ => r1, fun g => absurd rfl g, ?_⟩
    unfold impl_WindowsOver.f
    refine Ev.bind h2 ?_
    simp only [if_true]
    exact Ev.bind r2 (Ev.now _)
  · refine ⟨[], q, by simp, h1, fun g => absurd g c0, fun _ => rfl, ?_⟩
    unfold impl_WindowsOver.f
    refine Ev.bind h2 ?_
    simp only [if_neg c0]
    exact Ev.now _
theorem long_loop (r : List S39) (hr : r.length ≤ 100000) (n : Nat) : ∀ (j : Nat) (x y : Int), r.length = j + n →
    ∃ q : Int × Int × Int, Ev (fun k => spec_LongestWindow.l0 k r (j : Int) x y) q ∧ Ev (fun k => impl_LongestWindow.l0 k r (r.length : Int) (j : Int) x y) q := by
  induction n with
  | zero =>
    intro j x y hj
    refine ⟨(x, y, 0), Ev.step (f := fun _ => some (x, y, 0)) (fun k => ?_) (Ev.now _), Ev.step (f := fun _ => some (x, y, 0)) (fun k => ?_) (Ev.now _)⟩
    · simp only [spec_LongestWindow.l0]
      rw [if_neg (by omega)]
    · simp only [impl_LongestWindow.l0]
      rw [if_neg (by omega)]
  | succ n ih =>
    intro j x y hj
    have hw : wrap64 ((j : Int) + 1) = ((j + 1 : Nat) : Int) := w64 (by omega)
    by_cases c : wrap64 ((rd_T39 r (j : Int)).f1 - (rd_T39 r (j : Int)).f0) > wrap64 (y - x)
    · obtain ⟨q, q1, q2⟩ := ih (j + 1) (rd_T39 r (j : Int)).f0 (rd_T39 r (j : Int)).f1 (by omega)
      refine ⟨q, Ev.step (fun k => ?_) q1, Ev.step (fun k => ?_) q2⟩
      · simp only [spec_LongestWindow.l0, hw]
        rw [if_pos (by omega), if_pos (by omega), if_pos c]
      · simp only [impl_LongestWindow.l0, hw]
        rw [if_pos (by omega), if_pos (by omega), if_pos (by omega), if_pos c]
    · obtain ⟨q, q1, q2⟩ := ih (j + 1) x y (by omega)
      refine ⟨q, Ev.step (fun k => ?_) q1, Ev.step (fun k => ?_) q2⟩
      · simp only [spec_LongestWindow.l0, hw]
        rw [if_pos (by omega), if_pos (by omega), if_neg c]
      · simp only [impl_LongestWindow.l0, hw]
        rw [if_pos (by omega), if_pos (by omega), if_pos (by omega), if_neg c]
theorem both (l : List S43) (hf : Fits l) (hl : l.length ≤ 1048576) (v : Int) (_ : -9223372036854775808 ≤ v ∧ v ≤ 9223372036854775807) : ∃ (q : Int × Int × Int), Ev (fun k => spec_LongestWindow.f k l v) (q.1, q.2.1, q.2.2) ∧ Ev (fun k => impl_LongestWindow.f k l v) (q.1, q.2.1, q.2.2) := by
  obtain ⟨r, c, r0, h1, h2, h3, h4⟩ := bothW l hf hl v
  have e : (fun k => spec_LongestWindow.f k l v) = fun k => ((spec_l02Level.f v).bind fun t => spec_l02Asked.f k l t).bind fun t149 => (if t149 = 0 then ((spec_l02Windows.f k l v).bind fun t150 => (if (t150.length : Int) = 0 then (some (0, 0, 6)) else (if 0 < (t150.length : Int) then (spec_LongestWindow.l0 k t150 1 ((rd_T39 t150 0).f0) ((rd_T39 t150 0).f1)) else (none)))) else (some (0, 0, t149))) := by
    funext k
    unfold spec_LongestWindow.f
    cases spec_l02Level.f v <;> rfl
  rw [e]
  unfold impl_LongestWindow.f
  by_cases c0 : c = 0
  · subst c0
    by_cases z : (r.length : Int) = 0
    · refine ⟨(0, 0, 6), Ev.bind h1 ?_, Ev.bind h4 ?_⟩
      · simp only [if_true]
        refine Ev.bind (h2 rfl) ?_
        simp only [if_pos z]
        exact Ev.now _
      · simp only [if_true, if_pos z]
        exact Ev.now _
    · have hw1 : wrap64 ((0 : Int) + 1) = 1 := w64 (by omega)
      obtain ⟨q, q1, q2⟩ := long_loop r r0 (r.length - 1) 1 (rd_T39 r 0).f0 (rd_T39 r 0).f1 (by omega)
      refine ⟨q, Ev.bind h1 ?_, Ev.bind h4 ?_⟩
      · simp only [if_true]
        refine Ev.bind (h2 rfl) ?_
        simp only [if_neg z, if_pos (show 0 < (r.length : Int) by omega)]
        exact q1
      · simp only [if_true, if_neg z, if_pos (show 0 < (r.length : Int) by omega)]
        refine Ev.step (fun k => ?_) q2
        simp only [impl_LongestWindow.l0, hw1]
        rw [if_pos (by omega), if_pos (by omega), if_pos (by omega), if_neg (by omega)]
        rfl
  · refine ⟨(0, 0, c), Ev.bind h1 ?_, Ev.bind h4 ?_⟩
    · simp only [if_neg c0]
      exact Ev.now _
    · simp only [if_neg c0]
      exact Ev.now _

def FnExactLongestWindowPure : Prop := ∀ (l0 : List S45) (a1 : Int), l0.length ≤ 9223372036854775807 → (∀ x ∈ l0, (Lit.int .i16 x.f0).wf = true ∧ (Lit.int .i8 x.f1).wf = true) → (Lit.int .i64 a1).wf = true → ∃ k, laws_FnExactLongestWindow.f k l0 a1 = some true

theorem FnExactLongestWindow : FnExactLongestWindowPure := by
  intro l v hl hw hv
  refine Ev.rounds ?_
  have hsz := szWater l hl 1048576 (by omega) (by omega)
  by_cases hlen : (1048576 : Int) < l.length
  · refine Ev.congr (f := fun _ => some true) (fun k => ?_) (Ev.now _)
    unfold laws_FnExactLongestWindow.f
    rw [hsz, if_pos hlen]
    rfl
  · have hl2 : l.length ≤ 1048576 := by omega
    have ht := toWater l hl2
    have hl3 : (l.map convWater).length ≤ 1048576 := by rw [List.length_map]; exact hl2
    have el := eqWater (l.map convWater) (by omega)
    obtain ⟨⟨q0, q1, q2⟩, hs, hi⟩ := both (l.map convWater) (fits_conv l hw) hl3 v (i64_of hv)
    simp only [laws_FnExactLongestWindow.f, hsz, if_neg hlen, Option.bind_some, if_neg (show ¬ ((1048576 : Int) - l.length < 0) from by omega)]
    refine Ev.bind ht (Ev.bind hs (Ev.bind ht (Ev.bind hi ?_)))
    simp only [if_true, bne_self_eq_false]
    refine Ev.step (fun k => by simp only [laws_FnExactLongestWindow.j0, Bool.false_eq_true, if_false]; rfl) (Ev.bind ht (Ev.bind el ?_))
    exact Ev.now _

end Go.Proofs.Ytjgdmeichlefiaa.Pure
