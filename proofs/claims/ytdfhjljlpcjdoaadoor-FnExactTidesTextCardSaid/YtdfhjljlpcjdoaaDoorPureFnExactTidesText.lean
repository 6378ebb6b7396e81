/- TidesText of the program returns what the reference's returns, for all lists of waters. Conditions: none. -/
import Derived.Test.YtdfhjljlpcjdoaaDoorPFnExactTidesTextx6
namespace Go.Proofs.YtdfhjljlpcjdoaaDoor.Pure
open Go.RowKit Go.Proofs.YtdfhjljlpcjdoaaDoor.PFnExactTidesText Go.Proofs.YtdfhjljlpcjdoaaDoorW.PrintWords Go.Proofs.YtdfhjljlpcjdoaaDoorW.PrintLast
set_option linter.unusedVariables false
set_option linter.unusedSimpArgs false

/-- From some number of rounds on it answers a truth value: whether P holds. -/
def EvB (g : Nat → Option Bool) (P : Prop) : Prop := ∃ b, Ev g b ∧ (b = true ↔ P)
theorem EvB.iff {g : Nat → Option Bool} {P Q : Prop} (h : EvB g P) (e : P ↔ Q) : EvB g Q := by
  obtain ⟨b, h1, h2⟩ := h
  exact ⟨b, h1, h2.trans e⟩
theorem EvB.step {g f : Nat → Option Bool} {P : Prop} (h : ∀ k, g (k + 1) = f k) (k : EvB f P) : EvB g P := by
  obtain ⟨b, h1, h2⟩ := k
  exact ⟨b, Ev.step h h1, h2⟩
theorem EvB.congr {g f : Nat → Option Bool} {P : Prop} (h : ∀ k, g k = f k) (k : EvB f P) : EvB g P := by
  obtain ⟨b, h1, h2⟩ := k
  exact ⟨b, Ev.congr h h1, h2⟩
theorem EvB.yes {P : Prop} (h : P) : EvB (fun _ => some true) P := ⟨true, Ev.now _, by simp [h]⟩
theorem EvB.no {P : Prop} (h : ¬ P) : EvB (fun _ => some false) P := ⟨false, Ev.now _, by simp [h]⟩
theorem EvB.bind {α : Type} {g : Nat → Option α} {f : Nat → α → Option Bool} {a : α} {P : Prop} (h : Ev g a) (k : EvB (fun n => f n a) P) : EvB (fun n => (g n).bind (f n)) P := by
  obtain ⟨b, h1, h2⟩ := k
  exact ⟨b, Ev.bind h h1, h2⟩
theorem EvB.same {g f : Nat → Option Bool} {P : Prop} (h : EvB g P) (k : EvB f P) : ∃ b, Ev g b ∧ Ev f b ∧ (b = true ↔ P) := by
  obtain ⟨b, h1, h2⟩ := h
  obtain ⟨c, h3, h4⟩ := k
  have e : c = b := by rw [Bool.eq_iff_iff, h4, h2]
  subst e
  exact ⟨c, h1, h3, h2⟩

theorem rdWater {xs : List S47} {j : Nat} (h : j < xs.length) : rd_T47 xs (j : Int) = xs[j] := by
  unfold rd_T47
  rw [Int.toNat_natCast, List.getD_eq_getElem?_getD, List.getElem?_eq_getElem h]
  rfl
theorem rdWater' {xs : List S55} {j : Nat} (h : j < xs.length) : rd_T55 xs (j : Int) = xs[j] := by
  unfold rd_T55
  rw [Int.toNat_natCast, List.getD_eq_getElem?_getD, List.getElem?_eq_getElem h]
  rfl
def convWater (x : S55) : S47 := ⟨x.f0, x.f1⟩
theorem toWater_loop (l : List S55) (hl : l.length ≤ 1048576) (d : Nat) : ∀ (j : Nat) (x : List S47), l.length = j + d → x.length = l.length → (∀ i, i < j → x[i]? = (l[i]?).map convWater) → ∀ k, d < k → laws_toWaterS.l0 k l x (j : Int) = some (l.map convWater) := by
  induction d with
  | zero =>
    intro j x hj hx hi k hk
    obtain ⟨k, rfl⟩ : ∃ q, k = q + 1 := ⟨k - 1, by omega⟩
    simp only [laws_toWaterS.l0]
    rw [if_neg (by omega)]
    refine congrArg some (List.ext_getElem? fun i => ?_)
    rw [List.getElem?_map]
    by_cases h : i < j
    · exact hi i h
    · rw [List.getElem?_eq_none (by omega), List.getElem?_eq_none (by omega)]
      rfl
  | succ d ih =>
    intro j x hj hx hi k hk
    obtain ⟨k, rfl⟩ : ∃ q, k = q + 1 := ⟨k - 1, by omega⟩
    have hlt : j < l.length := by omega
    have hw : wrap64 ((j : Int) + 1) = ((j + 1 : Nat) : Int) := by unfold wrap64; omega
    simp only [laws_toWaterS.l0, hw]
    rw [if_pos (by omega), if_pos (by omega), rdWater' hlt]
    simp only [laws_toWater.f, Option.bind_some]
    rw [if_pos (by omega), Int.toNat_natCast]
    refine ih (j + 1) _ (by omega) (by rw [List.length_set]; exact hx) (fun i h => ?_) k (by omega)
    by_cases e : i = j
    · subst e
      rw [List.getElem?_set_self (by omega), List.getElem?_eq_getElem hlt]
      rfl
    · rw [List.getElem?_set_ne (by omega)]
      exact hi i (by omega)
theorem toWater (l : List S55) (hl : l.length ≤ 1048576) : Ev (fun k => laws_toWaterS.f k l) (l.map convWater) := by
  refine ⟨l.length + 1, fun k hk => ?_⟩
  show laws_toWaterS.f k l = _
  unfold laws_toWaterS.f
  rw [if_pos (by omega), Int.toNat_natCast, if_pos (by omega)]
  exact toWater_loop l hl l.length 0 _ (by omega) (by simp) (fun i h => by omega) k (by omega)
theorem szWater (l : List S55) (h : l.length ≤ 9223372036854775807) (a : Int) (ha : 0 ≤ a) (ha2 : a ≤ 1048576) : laws_szWaterS.f l a = some (if a < l.length then -1 else a - l.length) := by
  have hw : wrap64 (a - (l.length : Int)) = a - l.length := by unfold wrap64; omega
  unfold laws_szWaterS.f
  rw [hw]
  by_cases c : a < l.length
  · rw [if_pos (by omega), if_pos c]
  · rw [if_neg (by omega), if_neg c]
theorem eqWater_loop (a : List S47) (ha : a.length ≤ 9223372036854775000) (d : Nat) : ∀ (j : Nat), a.length = j + d → ∀ k, d < k → laws_eqWaterS.l0 k a a (j : Int) = some true := by
  induction d with
  | zero =>
    intro j hj k hk
    obtain ⟨k, rfl⟩ : ∃ q, k = q + 1 := ⟨k - 1, by omega⟩
    simp only [laws_eqWaterS.l0]
    rw [if_neg (by omega)]
  | succ d ih =>
    intro j hj k hk
    obtain ⟨k, rfl⟩ : ∃ q, k = q + 1 := ⟨k - 1, by omega⟩
    have hw : wrap64 ((j : Int) + 1) = ((j + 1 : Nat) : Int) := by unfold wrap64; omega
    simp only [laws_eqWaterS.l0, hw, laws_eqWater.f, if_true, Option.bind_some]
    rw [if_pos (by omega), if_pos (by omega), if_pos (by omega)]
    exact ih (j + 1) (by omega) k (by omega)
theorem eqWater (a : List S47) (ha : a.length ≤ 9223372036854775000) : Ev (fun k => laws_eqWaterS.f k a a) true := by
  refine ⟨a.length + 1, fun k hk => ?_⟩
  show laws_eqWaterS.f k a a = _
  unfold laws_eqWaterS.f
  rw [if_pos rfl]
  exact eqWater_loop a ha a.length 0 (by omega) k (by omega)
theorem i8_of {n : Int} (h : (Lit.int .i8 n).wf = true) : -128 ≤ n ∧ n ≤ 127 := by
  simp [Lit.wf, IntKind.min, IntKind.max, IntKind.signed, IntKind.bits] at h
  omega
theorem i16_of {n : Int} (h : (Lit.int .i16 n).wf = true) : -32768 ≤ n ∧ n ≤ 32767 := by
  simp [Lit.wf, IntKind.min, IntKind.max, IntKind.signed, IntKind.bits] at h
  omega
theorem w64 {n : Int} (h : -9223372036854775808 ≤ n ∧ n ≤ 9223372036854775807) : wrap64 n = n := by unfold wrap64; omega
/-- Water i's minute and level. -/
def M (l : List S47) (i : Nat) : Int := (rd_T47 l (i : Int)).f0
def V (l : List S47) (i : Nat) : Int := (rd_T47 l (i : Int)).f1
def Fits (l : List S47) : Prop := ∀ i : Nat, (-32768 ≤ M l i ∧ M l i ≤ 32767) ∧ (-128 ≤ V l i ∧ V l i ≤ 127)
theorem fits_conv (l : List S55) (h : ∀ x ∈ l, (Lit.int .i16 x.f0).wf = true ∧ (Lit.int .i8 x.f1).wf = true) : Fits (l.map convWater) := by
  intro i
  unfold M V
  by_cases hi : i < (l.map convWater).length
  · rw [rdWater hi, List.getElem_map]
    have := h _ (List.getElem_mem (l := l) (n := i) (by simpa using hi))
    exact ⟨i16_of this.1, i8_of this.2⟩
  · have e : rd_T47 (l.map convWater) (i : Int) = z47 := by
      unfold rd_T47
      rw [Int.toNat_natCast, List.getD_eq_getElem?_getD, List.getElem?_eq_none (by omega)]
      rfl
    rw [e]
    exact ⟨by decide, by decide⟩
/-- Water i is right behind those ahead of it. -/
def okAt (l : List S47) (i : Nat) : Prop := (0 ≤ M l i ∧ M l i ≤ 3000) ∧ (0 ≤ V l i ∧ V l i ≤ 100) ∧ (0 < i → M l (i - 1) + 6 ≤ M l i ∧ V l i ≠ V l (i - 1)) ∧ (1 < i → ¬ (V l i > V l (i - 1) ↔ V l (i - 1) > V l (i - 2)))
def Tides (l : List S47) : Prop := (2 ≤ l.length ∧ l.length ≤ 8) ∧ ∀ q, q < l.length → okAt l q
theorem in_some (a b c : Int) : spec_l00In.f a b c = some (decide (b ≤ a ∧ a ≤ c)) := by
  unfold spec_l00In.f
  by_cases h : a ≥ b
  · rw [if_pos h]; simp [h]
  · rw [if_neg h]; simp; omega
theorem EvB.same_of {g f : Nat → Option Bool} {P : Prop} (h : ∀ k, g k = f k) (k : EvB f P) : EvB g P := EvB.congr h k
theorem dec_beq (p q : Prop) [Decidable p] [Decidable q] : ((decide p == decide q) = true) ↔ (p ↔ q) := by
  by_cases hp : p <;> by_cases hq : q <;> simp [hp, hq]

theorem spec_tides_loop (l : List S47) (hf : Fits l) (hl : l.length ≤ 1048576) (d : Nat) : ∀ i : Nat, l.length = i + d → EvB (fun k => spec_l02Tides.l0 k l (i : Int)) ((2 ≤ l.length ∧ l.length ≤ 8) ∧ ∀ q, i ≤ q → q < l.length → okAt l q) := by
  induction d with
  | zero =>
    intro i hi
    have e : ¬ (i : Int) < l.length := by omega
    refine EvB.step (f := fun _ => some (decide (2 ≤ (l.length : Int) ∧ (l.length : Int) ≤ 8))) (fun k => ?_) ⟨_, Ev.now _, ?_⟩
    · simp only [spec_l02Tides.l0]
      rw [if_neg e, in_some]
      rfl
    · rw [decide_eq_true_iff]
      exact ⟨fun h => ⟨by omega, fun q h1 h2 => by omega⟩, fun h => by omega⟩
  | succ d ih =>
    intro i hi
    have hi1 : (i : Int) < l.length := by omega
    obtain ⟨f0, f1⟩ := hf i
    have w0 : wrap64 (rd_T47 l (i : Int)).f0 = M l i := w64 (by unfold M at f0; omega)
    have w1 : wrap64 (rd_T47 l (i : Int)).f1 = V l i := w64 (by unfold V at f1; omega)
    have hw : wrap64 ((i : Int) + 1) = ((i + 1 : Nat) : Int) := w64 (by omega)
    have no : ∀ {P : Prop}, ¬ okAt l i → ¬ (P ∧ ∀ q, i ≤ q → q < l.length → okAt l q) := fun h g => h (g.2 i (Nat.le_refl _) (by omega))
    have next : okAt l i → (((2 ≤ l.length ∧ l.length ≤ 8) ∧ ∀ q, i + 1 ≤ q → q < l.length → okAt l q) ↔ ((2 ≤ l.length ∧ l.length ≤ 8) ∧ ∀ q, i ≤ q → q < l.length → okAt l q)) := fun h => ⟨fun g => ⟨g.1, fun q h1 h2 => by
      by_cases e : q = i
      · rw [e]; exact h
      · exact g.2 q (by omega) h2⟩, fun g => ⟨g.1, fun q h1 h2 => g.2 q (by omega) h2⟩⟩
    by_cases a0 : 0 ≤ M l i ∧ M l i ≤ 3000
    · by_cases a1 : 0 ≤ V l i ∧ V l i ≤ 100
      · refine EvB.step (f := fun k => spec_l02Tides.j1 k l (i : Int) false (M l i) (V l i)) (fun k => ?_) ?_
        · simp only [spec_l02Tides.l0, w0, w1, in_some, Option.bind_some]
          rw [if_pos hi1, if_pos (by omega), if_pos (decide_eq_true a0), decide_eq_true a1]
          rfl
        · have wm : wrap64 (M l i) = M l i := w64 (by omega)
          by_cases p0 : 0 < i
          · have hp : wrap64 ((i : Int) - 1) = ((i - 1 : Nat) : Int) := by rw [w64 (by omega)]; omega
            obtain ⟨g0, g1⟩ := hf (i - 1)
            have v0 : wrap64 (rd_T47 l ((i - 1 : Nat) : Int)).f0 = M l (i - 1) := w64 (by unfold M at g0; omega)
            have v6 : wrap64 (M l (i - 1) + 6) = M l (i - 1) + 6 := w64 (by omega)
            by_cases b0 : M l i < M l (i - 1) + 6
            · refine EvB.step (f := fun k => spec_l02Tides.j2 k l (i : Int) true (M l i) (V l i)) (fun k => ?_) (EvB.step (f := fun _ => some false) (fun k => by simp [spec_l02Tides.j2]) (EvB.no (no fun h => by have := (h.2.2.1 p0).1; omega)))
              simp only [spec_l02Tides.j1, hp, wm, v0, v6, Bool.false_eq_true, if_false]
              rw [if_pos (by omega), if_pos (by omega), if_pos (by omega), if_pos b0]
            · by_cases b1 : V l i = V l (i - 1)
              · have e1 : (V l i == (rd_T47 l ((i - 1 : Nat) : Int)).f1) = true := beq_iff_eq.2 b1
                refine EvB.step (f := fun k => spec_l02Tides.j2 k l (i : Int) true (M l i) (V l i)) (fun k => ?_) (EvB.step (f := fun _ => some false) (fun k => by simp [spec_l02Tides.j2]) (EvB.no (no fun h => (h.2.2.1 p0).2 b1)))
                simp only [spec_l02Tides.j1, hp, wm, v0, v6, Bool.false_eq_true, if_false]
                rw [if_pos (by omega), if_pos (by omega), if_pos (by omega), if_neg b0, e1]
              · have e1 : (V l i == (rd_T47 l ((i - 1 : Nat) : Int)).f1) = false := beq_eq_false_iff_ne.2 b1
                refine EvB.step (f := fun k => spec_l02Tides.j2 k l (i : Int) false (M l i) (V l i)) (fun k => ?_) ?_
                · simp only [spec_l02Tides.j1, hp, wm, v0, v6, Bool.false_eq_true, if_false]
                  rw [if_pos (by omega), if_pos (by omega), if_pos (by omega), if_neg b0, e1]
                · by_cases p1 : 1 < i
                  · have hp2 : wrap64 ((i : Int) - 2) = ((i - 2 : Nat) : Int) := by rw [w64 (by omega)]; omega
                    by_cases c0 : V l i > V l (i - 1) ↔ V l (i - 1) > V l (i - 2)
                    · refine EvB.step (f := fun _ => some false) (fun k => ?_) (EvB.no (no fun h => h.2.2.2 p1 c0))
                      simp only [spec_l02Tides.j2, hp, hp2, hw, Bool.false_eq_true, if_false]
                      rw [if_pos (by omega), if_pos (by omega), if_pos (by omega), if_pos (by omega), if_pos (by omega), if_pos ((dec_beq (V l i > (rd_T47 l ((i - 1 : Nat) : Int)).f1) ((rd_T47 l ((i - 1 : Nat) : Int)).f1 > (rd_T47 l ((i - 2 : Nat) : Int)).f1)).2 c0)]
                    · refine EvB.step (fun k => ?_) ((ih (i + 1) (by omega)).iff (next ⟨a0, a1, fun _ => ⟨by omega, b1⟩, fun _ => c0⟩))
                      simp only [spec_l02Tides.j2, hp, hp2, hw, Bool.false_eq_true, if_false]
                      rw [if_pos (by omega), if_pos (by omega), if_pos (by omega), if_pos (by omega), if_pos (by omega), if_neg (fun h => c0 ((dec_beq (V l i > (rd_T47 l ((i - 1 : Nat) : Int)).f1) ((rd_T47 l ((i - 1 : Nat) : Int)).f1 > (rd_T47 l ((i - 2 : Nat) : Int)).f1)).1 h))]
                  · refine EvB.step (fun k => ?_) ((ih (i + 1) (by omega)).iff (next ⟨a0, a1, fun _ => ⟨by omega, b1⟩, fun h => absurd h p1⟩))
                    simp only [spec_l02Tides.j2, hw, Bool.false_eq_true, if_false]
                    rw [if_neg (by omega)]
          · refine EvB.step (f := fun k => spec_l02Tides.j2 k l (i : Int) false (M l i) (V l i)) (fun k => ?_) (EvB.step (fun k => ?_) ((ih (i + 1) (by omega)).iff (next ⟨a0, a1, fun h => absurd h p0, fun h => by omega⟩)))
            · simp only [spec_l02Tides.j1, Bool.false_eq_true, if_false]
              rw [if_neg (by omega)]
            · simp only [spec_l02Tides.j2, hw, Bool.false_eq_true, if_false]
              rw [if_neg (by omega)]
      · refine EvB.step (f := fun k => spec_l02Tides.j1 k l (i : Int) true (M l i) (V l i)) (fun k => ?_) (EvB.step (f := fun _ => some false) (fun k => by simp [spec_l02Tides.j1]) (EvB.no (no fun h => a1 h.2.1)))
        simp only [spec_l02Tides.l0, w0, w1, in_some, Option.bind_some]
        rw [if_pos hi1, if_pos (by omega), if_pos (decide_eq_true a0), decide_eq_false a1]
        rfl
    · refine EvB.step (f := fun k => spec_l02Tides.j1 k l (i : Int) true (M l i) (V l i)) (fun k => ?_) (EvB.step (f := fun _ => some false) (fun k => by simp [spec_l02Tides.j1]) (EvB.no (no fun h => a0 h.1)))
      simp only [spec_l02Tides.l0, w0, in_some, Option.bind_some]
      rw [if_pos hi1, if_pos (by omega), if_neg (by simpa using a0)]
      rfl

theorem spec_tides (l : List S47) (hf : Fits l) (hl : l.length ≤ 1048576) : EvB (fun k => spec_l02Tides.f k l) (Tides l) :=
  (spec_tides_loop l hf hl l.length 0 (by omega)).iff ⟨fun h => ⟨h.1, fun q hq => h.2 q (Nat.zero_le _) hq⟩, fun h => ⟨h.1, fun q _ hq => h.2 q hq⟩⟩

theorem impl_tides_loop (l : List S47) (hf : Fits l) (hl : l.length ≤ 1048576) (d : Nat) : ∀ i : Nat, l.length = i + d → (∀ q, q < i → okAt l q) → EvB (fun k => impl_ValidTides.l0 k l l l.length (i : Int)) (∀ q, q < l.length → okAt l q) := by
  induction d with
  | zero =>
    intro i hi ho
    have e : ¬ (i : Int) < l.length := by omega
    refine EvB.step (f := fun _ => some true) (fun k => ?_) (EvB.yes fun q hq => ho q (by omega))
    simp only [impl_ValidTides.l0]
    rw [if_neg e]
  | succ d ih =>
    intro i hi ho
    have hi1 : (i : Int) < l.length := by omega
    obtain ⟨f0, f1⟩ := hf i
    have hw : wrap64 ((i : Int) + 1) = ((i + 1 : Nat) : Int) := w64 (by omega)
    have no : ¬ okAt l i → ¬ ∀ q, q < l.length → okAt l q := fun h g => h (g i (by omega))
    have next : okAt l i → EvB (fun k => impl_ValidTides.l0 k l l l.length ((i + 1 : Nat) : Int)) (∀ q, q < l.length → okAt l q) := fun h => ih (i + 1) (by omega) fun q hq => by
      by_cases e : q = i
      · rw [e]; exact h
      · exact ho q (by omega)
    have bad : ¬ okAt l i → EvB (fun k => impl_ValidTides.j2 k l (i : Int) l l.length (i : Int) true (M l i) (V l i)) (∀ q, q < l.length → okAt l q) := fun h =>
      EvB.step (f := fun _ => some false) (fun k => by simp [impl_ValidTides.j2]) (EvB.no (no h))
    by_cases a0 : 0 ≤ M l i ∧ M l i ≤ 3000
    · by_cases a1 : 0 ≤ V l i ∧ V l i ≤ 100
      · refine EvB.step (f := fun k => impl_ValidTides.j2 k l (i : Int) l l.length (i : Int) false (M l i) (V l i)) (fun k => ?_) ?_
        · simp only [impl_ValidTides.l0]
          have q0 : ¬ (rd_T47 l (i : Int)).f0 < 0 := by unfold M at a0; omega
          have q1 : ¬ (rd_T47 l (i : Int)).f0 > 3000 := by unfold M at a0; omega
          have q2 : ¬ (rd_T47 l (i : Int)).f1 < 0 := by unfold V at a1; omega
          have q3 : decide ((rd_T47 l (i : Int)).f1 > 100) = false := decide_eq_false (by unfold V at a1; omega)
          rw [if_pos hi1, if_pos (by omega), if_pos hi1, if_neg q0, if_neg q1, if_neg q2, q3]
          rfl
        · by_cases p0 : 0 < i
          · have hp : wrap64 ((i : Int) - 1) = ((i - 1 : Nat) : Int) := by rw [w64 (by omega)]; omega
            have op := (ho (i - 1) (by omega)).1
            have v6 : IntKind.i16.wrap ((rd_T47 l ((i - 1 : Nat) : Int)).f0 + 6) = M l (i - 1) + 6 := by
              show IntKind.i16.wrap (M l (i - 1) + 6) = _
              simp [IntKind.wrap, IntKind.signed, IntKind.bits]
              omega
            by_cases b0 : M l i < M l (i - 1) + 6
            · refine EvB.step (f := fun _ => some false) (fun k => ?_) (EvB.no (no fun h => by have := (h.2.2.1 p0).1; omega))
              simp only [impl_ValidTides.j2, hp, v6, Bool.false_eq_true, if_false]
              rw [if_neg (by omega), if_pos (by omega), if_pos (by omega), if_pos b0]
            · by_cases b1 : V l i = V l (i - 1)
              · refine EvB.step (f := fun _ => some false) (fun k => ?_) (EvB.no (no fun h => (h.2.2.1 p0).2 b1))
                simp only [impl_ValidTides.j2, hp, v6, Bool.false_eq_true, if_false]
                rw [if_neg (by omega), if_pos (by omega), if_pos (by omega), if_neg b0, if_pos (show V l i = (rd_T47 l ((i - 1 : Nat) : Int)).f1 from b1)]
              · by_cases p1 : 1 < i
                · have hp2 : wrap64 ((i : Int) - 2) = ((i - 2 : Nat) : Int) := by rw [w64 (by omega)]; omega
                  by_cases c0 : V l i > V l (i - 1) ↔ V l (i - 1) > V l (i - 2)
                  · refine EvB.step (f := fun _ => some false) (fun k => ?_) (EvB.no (no fun h => h.2.2.2 p1 c0))
                    simp only [impl_ValidTides.j2, hp, hp2, hw, v6, Bool.false_eq_true, if_false]
                    rw [if_neg (by omega), if_pos (by omega), if_pos (by omega), if_neg b0, if_neg (show ¬ V l i = (rd_T47 l ((i - 1 : Nat) : Int)).f1 from b1), if_pos (by omega), if_pos (by omega), if_pos (by omega), if_pos ((dec_beq (V l i > (rd_T47 l ((i - 1 : Nat) : Int)).f1) ((rd_T47 l ((i - 1 : Nat) : Int)).f1 > (rd_T47 l ((i - 2 : Nat) : Int)).f1)).2 c0)]
                  · refine EvB.step (fun k => ?_) (next ⟨a0, a1, fun _ => ⟨by omega, b1⟩, fun _ => c0⟩)
                    simp only [impl_ValidTides.j2, hp, hp2, hw, v6, Bool.false_eq_true, if_false]
                    rw [if_neg (by omega), if_pos (by omega), if_pos (by omega), if_neg b0, if_neg (show ¬ V l i = (rd_T47 l ((i - 1 : Nat) : Int)).f1 from b1), if_pos (by omega), if_pos (by omega), if_pos (by omega), if_neg (fun h => c0 ((dec_beq (V l i > (rd_T47 l ((i - 1 : Nat) : Int)).f1) ((rd_T47 l ((i - 1 : Nat) : Int)).f1 > (rd_T47 l ((i - 2 : Nat) : Int)).f1)).1 h))]
                · refine EvB.step (fun k => ?_) (next ⟨a0, a1, fun _ => ⟨by omega, b1⟩, fun h => absurd h p1⟩)
                  simp only [impl_ValidTides.j2, hp, hw, v6, Bool.false_eq_true, if_false]
                  rw [if_neg (by omega), if_pos (by omega), if_pos (by omega), if_neg b0, if_neg (show ¬ V l i = (rd_T47 l ((i - 1 : Nat) : Int)).f1 from b1), if_neg (by omega)]
          · refine EvB.step (fun k => ?_) (next ⟨a0, a1, fun h => absurd h p0, fun h => by omega⟩)
            simp only [impl_ValidTides.j2, hw, Bool.false_eq_true, if_false]
            rw [if_pos (by omega)]
      · by_cases a2 : V l i < 0
        · refine EvB.step (fun k => ?_) (bad fun h => a1 h.2.1)
          simp only [impl_ValidTides.l0]
          have q0 : ¬ (rd_T47 l (i : Int)).f0 < 0 := by unfold M at a0; omega
          have q1 : ¬ (rd_T47 l (i : Int)).f0 > 3000 := by unfold M at a0; omega
          rw [if_pos hi1, if_pos (by omega), if_pos hi1, if_neg q0, if_neg q1, if_pos (show (rd_T47 l (i : Int)).f1 < 0 from a2)]
          rfl
        · refine EvB.step (fun k => ?_) (bad fun h => a1 h.2.1)
          simp only [impl_ValidTides.l0]
          have q0 : ¬ (rd_T47 l (i : Int)).f0 < 0 := by unfold M at a0; omega
          have q1 : ¬ (rd_T47 l (i : Int)).f0 > 3000 := by unfold M at a0; omega
          have q3 : decide ((rd_T47 l (i : Int)).f1 > 100) = true := decide_eq_true (by unfold V at a1 a2; omega)
          rw [if_pos hi1, if_pos (by omega), if_pos hi1, if_neg q0, if_neg q1, if_neg (show ¬ (rd_T47 l (i : Int)).f1 < 0 from a2), q3]
          rfl
    · by_cases a2 : M l i < 0
      · refine EvB.step (fun k => ?_) (bad fun h => a0 h.1)
        simp only [impl_ValidTides.l0]
        rw [if_pos hi1, if_pos (by omega), if_pos hi1, if_pos (show (rd_T47 l (i : Int)).f0 < 0 from a2)]
        rfl
      · refine EvB.step (fun k => ?_) (bad fun h => a0 h.1)
        simp only [impl_ValidTides.l0]
        have q1 : (rd_T47 l (i : Int)).f0 > 3000 := by unfold M at a0 a2; omega
        rw [if_pos hi1, if_pos (by omega), if_pos hi1, if_neg (show ¬ (rd_T47 l (i : Int)).f0 < 0 from a2), if_pos q1]
        rfl

theorem impl_tides (l : List S47) (hf : Fits l) (hl : l.length ≤ 1048576) : EvB (fun k => impl_ValidTides.f k l) (Tides l) := by
  by_cases h2 : 2 ≤ l.length
  · by_cases h8 : l.length ≤ 8
    · refine EvB.congr (f := fun k => impl_ValidTides.j0 k l false) (fun k => ?_) (EvB.step (f := fun k => impl_ValidTides.l0 k l l l.length ((0 : Nat) : Int)) (fun k => by simp [impl_ValidTides.j0]) ((impl_tides_loop l hf hl l.length 0 (by omega) (fun q hq => by omega)).iff ⟨fun h => ⟨⟨h2, h8⟩, h⟩, fun h => h.2⟩))
      unfold impl_ValidTides.f
      rw [if_neg (by omega), decide_eq_false (by omega)]
    · refine EvB.congr (f := fun k => impl_ValidTides.j0 k l true) (fun k => ?_) (EvB.step (f := fun _ => some false) (fun k => by simp [impl_ValidTides.j0]) (EvB.no fun h => h8 h.1.2))
      unfold impl_ValidTides.f
      rw [if_neg (by omega), decide_eq_true (by omega)]
  · refine EvB.congr (f := fun k => impl_ValidTides.j0 k l true) (fun k => ?_) (EvB.step (f := fun _ => some false) (fun k => by simp [impl_ValidTides.j0]) (EvB.no fun h => h2 h.1.1))
    unfold impl_ValidTides.f
    rw [if_pos (by omega)]

theorem M_bd {l : List S47} (ht : Tides l) {i : Nat} (hi : i < l.length) : 0 ≤ M l i ∧ M l i ≤ 3000 := (ht.2 i hi).1
theorem V_bd {l : List S47} (ht : Tides l) {i : Nat} (hi : i < l.length) : 0 ≤ V l i ∧ V l i ≤ 100 := (ht.2 i hi).2.1

theorem toList_loop (s : ByteArray) (d : Nat) : ∀ (i : Nat) (r : List UInt8), s.size = i + d → ByteArray.toList.loop s i r = r.reverse ++ s.data.toList.drop i := by
  induction d with
  | zero =>
    intro i r h
    rw [ByteArray.toList.loop, if_neg (by omega), List.drop_of_length_le (by rw [Array.length_toList]; exact Nat.le_of_eq h)]
    simp
  | succ d ih =>
    intro i r h
    have hl : i < s.data.toList.length := by rw [Array.length_toList]; show i < s.size; omega
    rw [ByteArray.toList.loop, if_pos (by omega), ih (i + 1) _ (by omega), List.drop_eq_getElem_cons hl]
    have e : s.get! i = s.data.toList[i] := by
      show s.data[i]! = _
      rw [getElem!_pos s.data i (by simpa using hl)]
      simp
    rw [e]
    simp
theorem toList_eq (s : ByteArray) : s.toList = s.data.toList := by
  unfold ByteArray.toList
  rw [toList_loop s s.size 0 [] (by omega)]
  simp
theorem toList_inj {a b : ByteArray} (h : a.toList = b.toList) : a = b := by
  rw [toList_eq, toList_eq] at h
  exact ByteArray.ext (Array.toList_inj.1 h)

theorem digits_len (a : Nat) : (Go.Lib.decDigits a).length ≤ a + 1 := by
  induction a using Nat.strongRecOn with
  | ind a ih =>
    unfold Go.Lib.decDigits
    split
    · simp
    · rename_i h
      rw [List.length_append, List.length_singleton]
      have := ih (a / 10) (by omega)
      omega
def dec (a : Nat) : ByteArray := ⟨(Go.Lib.decDigits a).toArray⟩
theorem dec_data (a : Nat) : (dec a).data.toList = Go.Lib.decDigits a := rfl
theorem dec_size (a : Nat) : (dec a).size ≤ a + 1 := digits_len a
theorem one_byte (n : Nat) : strOfNums [(n : Int)] = (⟨#[UInt8.ofNat n]⟩ : ByteArray) := rfl
theorem dec_snoc (a : Nat) (c : ¬ a < 10) : dec (a / 10) ++ (⟨#[UInt8.ofNat (48 + a % 10)]⟩ : ByteArray) = dec a := by
  apply toList_inj
  rw [toList_eq, toList_eq, dec_data]
  rw [show Go.Lib.decDigits a = Go.Lib.decDigits (a / 10) ++ [UInt8.ofNat (48 + a % 10)] from by rw [Go.Lib.decDigits, dif_neg c]]
  simp [dec_data]
theorem spec_dec (a : Nat) : a ≤ 1000000 → Ev (fun k => spec_Decimal.f k (a : Int)) (dec a) := by
  induction a using Nat.strongRecOn with
  | ind a ih =>
    intro h
    have e1 : Int.tmod (a : Int) 10 = ((a % 10 : Nat) : Int) := by rw [Int.tmod_eq_emod_of_nonneg (by omega)]; omega
    have e2 : wrap64 (48 + ((a % 10 : Nat) : Int)) % 256 = ((48 + a % 10 : Nat) : Int) := by unfold wrap64; omega
    have e3 : wrap64 (Int.tdiv (a : Int) 10) = ((a / 10 : Nat) : Int) := by
      rw [Int.tdiv_eq_ediv_of_nonneg (by omega)]
      unfold wrap64
      omega
    have hb := one_byte (48 + a % 10)
    by_cases c : a < 10
    · refine Ev.step (f := fun _ => some (dec a)) (fun k => ?_) (Ev.now _)
      simp only [spec_Decimal.f]
      rw [if_pos (by omega), e1, e2, hb]
      unfold dec
      rw [Go.Lib.decDigits, dif_pos c, Nat.mod_eq_of_lt c]
    · have hs := dec_size (a / 10)
      refine Ev.step (f := fun k => (spec_Decimal.f k ((a / 10 : Nat) : Int)).bind fun t => if t.size + (⟨#[UInt8.ofNat (48 + a % 10)]⟩ : ByteArray).size ≤ 9223372036854775807 then some (t ++ (⟨#[UInt8.ofNat (48 + a % 10)]⟩ : ByteArray)) else none) (fun k => ?_) (Ev.bind (ih (a / 10) (by omega) (by omega)) ?_)
      · simp only [spec_Decimal.f]
        rw [if_neg (by omega), e1, e2, e3]
        simp only [Option.bind_some, hb]
      · rw [if_pos (by have : (⟨#[UInt8.ofNat (48 + a % 10)]⟩ : ByteArray).size = 1 := rfl; omega), dec_snoc a c]
        exact Ev.now _
theorem impl_dec (a : Nat) (h : a ≤ 1000000) : impl_decimal.f (a : Int) = some (dec a) := by
  unfold impl_decimal.f strconv_FormatInt.f
  rw [if_pos ⟨rfl, by omega, by omega⟩]
  unfold Go.Lib.itoa
  rw [if_neg (by omega), Int.toNat_natCast]
  rfl
attribute [irreducible] dec

theorem grow_ok {a z j : Nat} (h : (a : Int) ≤ 5000 * (j : Int)) (hz : z ≤ 4000) : ((a + 1 + z : Nat) : Int) ≤ 5000 * ((j + 1 : Nat) : Int) := by omega
theorem grow_ok2 {a z j n : Nat} (h : (a : Int) ≤ 5000 * (j : Int)) (hz : z ≤ 4000) (hj : j < n) (hn : n ≤ 8) : a + 1 + z ≤ 9223372036854775807 := by omega
theorem grow_ok0 {z : Nat} (hz : z ≤ 4000) : ((0 + z : Nat) : Int) ≤ 5000 * ((1 : Nat) : Int) := by omega
theorem size2 (a b : ByteArray) : (a ++ b).size = a.size + b.size := ByteArray.size_append
theorem size3 (a b c : ByteArray) : ((a ++ b) ++ c).size = a.size + b.size + c.size := by rw [size2 (a ++ b) c, size2 a b]
def one (x : S47) : ByteArray := (dec x.f0.toNat ++ (⟨#[64]⟩ : ByteArray)) ++ dec x.f1.toNat
theorem one_size {x : S47} (h0 : 0 ≤ x.f0 ∧ x.f0 ≤ 3000) (h1 : 0 ≤ x.f1 ∧ x.f1 ≤ 100) : (one x).size ≤ 4000 := by
  have a := dec_size x.f0.toNat
  have b := dec_size x.f1.toNat
  unfold one
  have e := size3 (dec x.f0.toNat) (⟨#[64]⟩ : ByteArray) (dec x.f1.toNat)
  have e2 : (⟨#[64]⟩ : ByteArray).size = 1 := rfl
  rw [e2] at e
  rw [e]
  omega
attribute [irreducible] one
theorem one_facts {x : S47} (h0 : 0 ≤ x.f0 ∧ x.f0 ≤ 3000) (h1 : 0 ≤ x.f1 ∧ x.f1 ≤ 100) : ∃ a0 a1 : Nat, x.f0 = (a0 : Int) ∧ x.f1 = (a1 : Int) ∧ a0 ≤ 1000000 ∧ a1 ≤ 1000000 ∧ one x = (dec a0 ++ (⟨#[64]⟩ : ByteArray)) ++ dec a1 ∧ wrap64 (a0 : Int) = (a0 : Int) ∧ wrap64 (a1 : Int) = (a1 : Int) ∧
    (dec a0).size + 1 ≤ 9223372036854775807 ∧ (dec a0 ++ (⟨#[64]⟩ : ByteArray)).size + (dec a1).size ≤ 9223372036854775807 ∧ ((dec a0 ++ (⟨#[64]⟩ : ByteArray)) ++ dec a1).size ≤ 4000 := by
  have hs := one_size h0 h1
  obtain ⟨a0, e0⟩ : ∃ a0 : Nat, x.f0 = (a0 : Int) := ⟨x.f0.toNat, by omega⟩
  obtain ⟨a1, e1⟩ : ∃ a1 : Nat, x.f1 = (a1 : Int) := ⟨x.f1.toNat, by omega⟩
  have hone : one x = (dec a0 ++ (⟨#[64]⟩ : ByteArray)) ++ dec a1 := by unfold one; rw [e0, e1, Int.toNat_natCast, Int.toNat_natCast]
  rw [hone] at hs
  have e2 := size3 (dec a0) (⟨#[64]⟩ : ByteArray) (dec a1)
  have e3 := size2 (dec a0) (⟨#[64]⟩ : ByteArray)
  have e4 : (⟨#[64]⟩ : ByteArray).size = 1 := rfl
  rw [e4] at e2 e3
  have q0 : a0 ≤ 3000 := by omega
  have q1 : a1 ≤ 100 := by omega
  refine ⟨a0, a1, e0, e1, Nat.le_trans q0 (by decide), Nat.le_trans q1 (by decide), hone, w64 ⟨by omega, by omega⟩, w64 ⟨by omega, by omega⟩, ?_, ?_, hs⟩
  · clear e0 e1 h0 h1 hone
    generalize (dec a0).size = d0 at e2 e3
    rw [e2] at hs
    omega
  · clear e0 e1 h0 h1 hone
    rw [e3, ← e2]
    exact Nat.le_trans hs (by decide)
theorem tides_at {l : List S47} (ht : Tides l) {j : Nat} (h : j < l.length) : (0 ≤ (l[j]).f0 ∧ (l[j]).f0 ≤ 3000) ∧ 0 ≤ (l[j]).f1 ∧ (l[j]).f1 ≤ 100 := by
  have h1 := M_bd ht h
  have h2 := V_bd ht h
  unfold M at h1
  unfold V at h2
  rw [rdWater h] at h1 h2
  exact ⟨h1, h2⟩
/-- What stands behind the first water. -/
def behind (l : List S47) : List UInt8 := (l.map fun x => 32 :: (one x).data.toList).flatten
theorem spec_text_loop (l : List S47) (ht : Tides l) (d : Nat) : ∀ (j : Nat) (acc : ByteArray), l.length = j + d → 1 ≤ j → (acc.size : Int) ≤ 5000 * (j : Int) →
    ∃ r : ByteArray, r.data.toList = acc.data.toList ++ behind (l.drop j) ∧ Ev (fun k => spec_l02Text.l0 k l acc (j : Int)) r := by
  have hl := ht.1
  induction d with
  | zero =>
    intro j acc hj h1 ha
    refine ⟨acc, by rw [List.drop_of_length_le (by omega)]; simp [behind], Ev.step (f := fun _ => some acc) (fun k => ?_) (Ev.now _)⟩
    simp only [spec_l02Text.l0]
    rw [if_neg (by omega)]
  | succ d ih =>
    intro j acc hj h1 ha
    have hlt : j < l.length := by omega
    have hw1 : wrap64 ((j : Int) + 1) = ((j + 1 : Nat) : Int) := by unfold wrap64; omega
    have x1 : l.length = (j + 1) + d := by omega
    have x2 : 1 ≤ j + 1 := by omega
    have y1 : (j : Int) < (l.length : Int) := by omega
    have y2 : (j : Int) > 0 := by omega
    have y3 : acc.size + 1 ≤ 9223372036854775807 := by omega
    have y4 : 0 ≤ (j : Int) := by omega
    obtain ⟨b0, b1⟩ := tides_at ht hlt
    obtain ⟨a0, a1, e0, e1, m0, m1, hone, v0, v1, k1, k2, k4⟩ := one_facts b0 b1
    clear b0 b1
    have s2 : (⟨#[32]⟩ : ByteArray).size = 1 := rfl
    obtain ⟨r, g1, g2⟩ := ih (j + 1) ((acc ++ (⟨#[32]⟩ : ByteArray)) ++ one l[j]) x1 x2 (by rw [size3 acc (⟨#[32]⟩ : ByteArray) (one l[j]), s2, hone]; exact grow_ok ha k4)
    refine ⟨r, ?_, Ev.step (f := fun k => (spec_Decimal.f k (a0 : Int)).bind fun t119 => (if t119.size + 1 ≤ 9223372036854775807 then ((spec_Decimal.f k (a1 : Int)).bind fun t121 => (if (t119 ++ (⟨#[64]⟩ : ByteArray)).size + t121.size ≤ 9223372036854775807 then (if (acc ++ (⟨#[32]⟩ : ByteArray)).size + ((t119 ++ (⟨#[64]⟩ : ByteArray)) ++ t121).size ≤ 9223372036854775807 then (spec_l02Text.l0 k l ((acc ++ (⟨#[32]⟩ : ByteArray)) ++ ((t119 ++ (⟨#[64]⟩ : ByteArray)) ++ t121)) ((j + 1 : Nat) : Int)) else (none)) else (none))) else (none))) (fun k => ?_) (Ev.bind (spec_dec a0 m0) ?_)⟩
    · have e : ((acc ++ (⟨#[32]⟩ : ByteArray)) ++ one l[j]).data.toList = acc.data.toList ++ 32 :: (one l[j]).data.toList := by simp
      rw [g1, List.drop_eq_getElem_cons hlt, e]
      unfold behind
      rw [List.map_cons, List.flatten_cons, List.append_assoc, List.cons_append]
    · simp only [spec_l02Text.l0]
      rw [if_pos y1, if_pos y2, if_pos y3, if_pos y4, rdWater hlt, e0, e1, v0, v1, hw1]
    · have k3 : (acc ++ (⟨#[32]⟩ : ByteArray)).size + ((dec a0 ++ (⟨#[64]⟩ : ByteArray)) ++ dec a1).size ≤ 9223372036854775807 := by rw [size2 acc (⟨#[32]⟩ : ByteArray), s2]; exact grow_ok2 ha k4 hlt hl.2
      simp only [if_pos k1]
      refine Ev.bind (spec_dec a1 m1) ?_
      simp only [if_pos k2, if_pos k3]
      rw [← hone]
      exact g2
theorem behind_len {l : List S47} (h : ∀ x ∈ l, (one x).size ≤ 4000) : (behind l).length ≤ 4001 * l.length := by
  induction l with
  | nil => simp [behind]
  | cons x r ih =>
    have h1 : (one x).data.toList.length ≤ 4000 := h x (List.mem_cons_self ..)
    have := ih (fun y hy => h y (List.mem_cons_of_mem _ hy))
    unfold behind at this ⊢
    rw [List.map_cons, List.flatten_cons, List.length_append, List.length_cons, List.length_cons]
    omega
theorem join_behind (x : S47) (r : List S47) : Go.Lib.join (((x :: r).map one).map (·.data.toList)) [32] = (one x).data.toList ++ behind r := by
  rw [List.map_cons, List.map_cons, Go.Lib.join_cons]
  unfold Go.Lib.joinTail behind
  rw [List.map_map, List.map_map]
  rfl
theorem impl_text_loop (l : List S47) (ht : Tides l) (hj : (Go.Lib.join ((l.map one).map (·.data.toList)) [32]).length < 140737488355328) (d : Nat) : ∀ j : Nat, l.length = j + d →
    Ev (fun k => impl_TidesText.l0 k ((l.take j).map one) l (l.length : Int) (j : Int)) ⟨(Go.Lib.join ((l.map one).map (·.data.toList)) [32]).toArray⟩ := by
  have hl := ht.1
  induction d with
  | zero =>
    intro j h
    refine Ev.step (f := fun k => some (⟨(Go.Lib.join ((l.map one).map (·.data.toList)) [32]).toArray⟩ : ByteArray)) (fun k => ?_) (Ev.now _)
    simp only [impl_TidesText.l0]
    rw [if_neg (by omega), List.take_of_length_le (by omega)]
    unfold strings_Join.f
    rw [if_pos ⟨by rw [List.length_map]; omega, hj⟩]
    rfl
  | succ d ih =>
    intro j h
    have hlt : j < l.length := by omega
    have hw1 : wrap64 ((j : Int) + 1) = ((j + 1 : Nat) : Int) := by clear hj; unfold wrap64; omega
    have x1 : l.length = (j + 1) + d := by omega
    have y1 : (j : Int) < (l.length : Int) := by omega
    have y4 : 0 ≤ (j : Int) := by omega
    have y5 : ((l.take j).map one).length < 8796093022208 := by rw [List.length_map, List.length_take]; omega
    obtain ⟨b0, b1⟩ := tides_at ht hlt
    obtain ⟨a0, a1, e0, e1, m0, m1, hone, v0, v1, k1, k2, k4⟩ := one_facts b0 b1
    clear b0 b1 hj
    refine Ev.step (fun k => ?_) (ih (j + 1) x1)
    simp only [impl_TidesText.l0]
    rw [if_pos y1, if_pos y4, if_pos y1, rdWater hlt, e0, e1, v0, v1, impl_dec a0 m0, impl_dec a1 m1]
    simp only [Option.bind_some]
    rw [if_pos k1, if_pos k2, if_pos y5, ← hone, hw1]
    rw [List.take_succ_eq_append_getElem hlt, List.map_append, List.map_singleton]
/-- Both texts. -/
theorem both_text (l : List S47) (ht : Tides l) : ∃ r q : ByteArray, q.toList = r.toList ∧ Ev (fun k => spec_l02Text.f k l) r ∧ Ev (fun k => impl_TidesText.l0 k [] l (l.length : Int) 0) q := by
  have hl := ht.1
  have h0 : 0 < l.length := by omega
  obtain ⟨b0, b1⟩ := tides_at ht h0
  have hs := one_size b0 b1
  have hall : ∀ x ∈ l, (one x).size ≤ 4000 := by
    intro x hx
    obtain ⟨i, hi, rfl⟩ := List.getElem_of_mem hx
    obtain ⟨c0, c1⟩ := tides_at ht hi
    exact one_size c0 c1
  have hcons : l = l[0] :: l.drop 1 := by rw [← List.drop_eq_getElem_cons h0, List.drop_zero]
  have hjoin : Go.Lib.join ((l.map one).map (·.data.toList)) [32] = (one l[0]).data.toList ++ behind (l.drop 1) := by
    conv => lhs; rw [hcons]
    exact join_behind _ _
  have hbl := behind_len (l := l.drop 1) (fun x hx => hall x (List.mem_of_mem_drop hx))
  have hjl : (Go.Lib.join ((l.map one).map (·.data.toList)) [32]).length < 140737488355328 := by
    rw [hjoin, List.length_append]
    have h1 : (one l[0]).data.toList.length ≤ 4000 := hs
    rw [List.length_drop] at hbl
    omega
  have hi := impl_text_loop l ht hjl l.length 0 (by omega)
  obtain ⟨a0, a1, e0, e1, m0, m1, hone, v0, v1, k1, k2, k4⟩ := one_facts b0 b1
  have s0 : (⟨#[]⟩ : ByteArray).size = 0 := rfl
  obtain ⟨r, g1, g2⟩ := spec_text_loop l ht (l.length - 1) 1 ((⟨#[]⟩ : ByteArray) ++ one l[0]) (by omega) (by omega) (by rw [size2 (⟨#[]⟩ : ByteArray) (one l[0]), s0, hone]; exact grow_ok0 k4)
  refine ⟨r, _, ?_, ?_, hi⟩
  · rw [toList_eq, toList_eq, g1, hjoin]
    simp
  · unfold spec_l02Text.f
    refine Ev.step (f := fun k => (spec_Decimal.f k (a0 : Int)).bind fun t123 => (if t123.size + 1 ≤ 9223372036854775807 then ((spec_Decimal.f k (a1 : Int)).bind fun t125 => (if (t123 ++ (⟨#[64]⟩ : ByteArray)).size + t125.size ≤ 9223372036854775807 then (if (⟨#[]⟩ : ByteArray).size + ((t123 ++ (⟨#[64]⟩ : ByteArray)) ++ t125).size ≤ 9223372036854775807 then (spec_l02Text.l0 k l ((⟨#[]⟩ : ByteArray) ++ ((t123 ++ (⟨#[64]⟩ : ByteArray)) ++ t125)) ((1 : Nat) : Int)) else (none)) else (none))) else (none))) (fun k => ?_) (Ev.bind (spec_dec a0 m0) ?_)
    · simp only [spec_l02Text.l0]
      have hr := rdWater (xs := l) (j := 0) h0
      rw [Int.natCast_zero] at hr
      rw [if_pos (by omega), if_neg (by omega), if_pos (by omega), hr, e0, e1, v0, v1, show wrap64 (0 + 1) = ((1 : Nat) : Int) from by unfold wrap64; rfl]
    · have k3 : (⟨#[]⟩ : ByteArray).size + ((dec a0 ++ (⟨#[64]⟩ : ByteArray)) ++ dec a1).size ≤ 9223372036854775807 := by rw [s0, Nat.zero_add]; exact Nat.le_trans k4 (by decide)
      simp only [if_pos k1]
      refine Ev.bind (spec_dec a1 m1) ?_
      simp only [if_pos k2, if_pos k3]
      rw [← hone]
      exact g2

def FnExactTidesTextPure : Prop := ∀ (l0 : List S55), l0.length ≤ 9223372036854775807 → (∀ x ∈ l0, (Lit.int .i16 x.f0).wf = true ∧ (Lit.int .i8 x.f1).wf = true) → ∃ k, laws_FnExactTidesText.f k l0 = some true

theorem FnExactTidesText : FnExactTidesTextPure := by
  intro l hl hw
  refine Ev.rounds ?_
  have hsz := szWater l hl 1048576 (by omega) (by omega)
  by_cases hlen : (1048576 : Int) < l.length
  · refine Ev.congr (f := fun _ => some true) (fun k => ?_) (Ev.now _)
    unfold laws_FnExactTidesText.f
    rw [hsz, if_pos hlen]
    rfl
  · have hl2 : l.length ≤ 1048576 := by omega
    have ht := toWater l hl2
    have hl3 : (l.map convWater).length ≤ 1048576 := by rw [List.length_map]; exact hl2
    obtain ⟨b, h1, h2, hb⟩ := EvB.same (spec_tides _ (fits_conv l hw) hl3) (impl_tides _ (fits_conv l hw) hl3)
    have el := eqWater (l.map convWater) (by omega)
    obtain ⟨r, q, e, hs, hi⟩ : ∃ r q : ByteArray, q.toList = r.toList ∧ Ev (fun k => spec_TidesText.f k (l.map convWater)) r ∧ Ev (fun k => impl_TidesText.f k (l.map convWater)) q := by
      unfold spec_TidesText.f impl_TidesText.f
      cases b with
      | true =>
        obtain ⟨r, q, e, hs, hi⟩ := both_text _ (hb.1 rfl)
        refine ⟨r, q, e, Ev.bind h1 ?_, Ev.bind h2 ?_⟩
        · simp only [if_true]
          exact Ev.bind hs (Ev.now _)
        · simp only [if_true]
          exact hi
      | false =>
        refine ⟨⟨#[]⟩, ⟨#[]⟩, rfl, Ev.bind h1 ?_, Ev.bind h2 ?_⟩
        · simp only [Bool.false_eq_true, if_false]
          exact Ev.now _
        · simp only [Bool.false_eq_true, if_false]
          exact Ev.now _
    simp only [laws_FnExactTidesText.f, hsz, if_neg hlen, Option.bind_some, if_neg (show ¬ ((1048576 : Int) - l.length < 0) from by omega)]
    refine Ev.bind ht (Ev.bind hs (Ev.bind ht (Ev.bind hi ?_)))
    simp only [if_pos e]
    refine Ev.bind ht (Ev.bind el ?_)
    simp only [if_true]
    exact Ev.now _

end Go.Proofs.YtdfhjljlpcjdoaaDoor.Pure
