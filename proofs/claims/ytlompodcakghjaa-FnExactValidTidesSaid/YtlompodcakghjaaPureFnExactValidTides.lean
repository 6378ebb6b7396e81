/- ValidTides of the program answers what the reference's answers, for all arguments. Conditions: none. -/
import Derived.Test.YtlompodcakghjaaPFnExactValidTidesx3
namespace Go.Proofs.Ytlompodcakghjaa.Pure
open Go.RowKit Go.Proofs.Ytlompodcakghjaa.PFnExactValidTides Go.Proofs.YtlompodcakghjaaW.PrintWords Go.Proofs.YtlompodcakghjaaW.PrintLast

namespace W
/-- From some number of rounds on it answers a truth value: whether P holds. -/
def EvB (g : Nat → Option Bool) (P : Prop) : Prop := ∃ b, Ev g b ∧ (b = true ↔ P)
theorem EvB.iff {g : Nat → Option Bool} {P Q : Prop} (h : EvB g P) (e : P ↔ Q) : EvB g Q := by
  obtain ⟨b, h1, h2⟩ := h
  exact ⟨b, h1, h2.trans e⟩
theorem EvB.step {g f : Nat → Option Bool} {P : Prop} (h : ∀ k, g (k + 1) = f k) (k : EvB f P) : EvB g P := by
  obtain ⟨b, h1, h2⟩ := k
  exact ⟨b, Ev.step h h1, h2⟩
theorem EvB.congr {g f : Nat → Option Bool} {P : Prop} (h : ∀ k, g k = f k) (k : EvB f P) : EvB g P := by
  obtain ⟨b, h1, h2⟩ := k
  exact ⟨b, Ev.congr h h1, h2⟩
theorem EvB.yes {P : Prop} (h : P) : EvB (fun _ => some true) P := ⟨true, Ev.now _, by simp [h]⟩
theorem EvB.no {P : Prop} (h : ¬ P) : EvB (fun _ => some false) P := ⟨false, Ev.now _, by simp [h]⟩
theorem EvB.bind {α : Type} {g : Nat → Option α} {f : Nat → α → Option Bool} {a : α} {P : Prop} (h : Ev g a) (k : EvB (fun n => f n a) P) : EvB (fun n => (g n).bind (f n)) P := by
  obtain ⟨b, h1, h2⟩ := k
  exact ⟨b, Ev.bind h h1, h2⟩
theorem EvB.same {g f : Nat → Option Bool} {P : Prop} (h : EvB g P) (k : EvB f P) : ∃ b, Ev g b ∧ Ev f b ∧ (b = true ↔ P) := by
  obtain ⟨b, h1, h2⟩ := h
  obtain ⟨c, h3, h4⟩ := k
  have e : c = b := by rw [Bool.eq_iff_iff, h4, h2]
  subst e
  exact ⟨c, h1, h3, h2⟩

/-! ### Water -/
theorem rdWater {xs : List S49} {j : Nat} (h : j < xs.length) : rd_T49 xs (j : Int) = xs[j] := by
  unfold rd_T49
  rw [Int.toNat_natCast, List.getD_eq_getElem?_getD, List.getElem?_eq_getElem h]
  rfl
theorem rdWater' {xs : List S51} {j : Nat} (h : j < xs.length) : rd_T51 xs (j : Int) = xs[j] := by
  unfold rd_T51
  rw [Int.toNat_natCast, List.getD_eq_getElem?_getD, List.getElem?_eq_getElem h]
  rfl
def convWater (x : S51) : S49 := ⟨x.f0, x.f1⟩
theorem toWater_loop (l : List S51) (hl : l.length ≤ 1048576) (d : Nat) : ∀ (j : Nat) (x : List S49), l.length = j + d → x.length = l.length → (∀ i, i < j → x[i]? = (l[i]?).map convWater) → ∀ k, d < k → laws_toWaterS.l0 k l x (j : Int) = some (l.map convWater) := by
  induction d with
  | zero =>
    intro j x hj hx hi k hk
    obtain ⟨k, rfl⟩ : ∃ q, k = q + 1 := ⟨k - 1, by omega⟩
    simp only [laws_toWaterS.l0]
    rw [if_neg (by omega)]
    refine congrArg some (List.ext_getElem? fun i => ?_)
    rw [List.getElem?_map]
    by_cases h : i < j
    · exact hi i h
    · rw [List.getElem?_eq_none (by omega), List.getElem?_eq_none (by omega)]
      rfl
  | succ d ih =>
    intro j x hj hx hi k hk
    obtain ⟨k, rfl⟩ : ∃ q, k = q + 1 := ⟨k - 1, by omega⟩
    have hlt : j < l.length := by omega
    have hw : wrap64 ((j : Int) + 1) = ((j + 1 : Nat) : Int) := by unfold wrap64; omega
    simp only [laws_toWaterS.l0, hw]
    rw [if_pos (by omega), if_pos (by omega), rdWater' hlt]
    simp only [laws_toWater.f, Option.bind_some]
    rw [if_pos (by omega), Int.toNat_natCast]
    refine ih (j + 1) _ (by omega) (by rw [List.length_set]; exact hx) (fun i h => ?_) k (by omega)
    by_cases e : i = j
    · subst e
      rw [List.getElem?_set_self (by omega), List.getElem?_eq_getElem hlt]
      rfl
    · rw [List.getElem?_set_ne (by omega)]
      exact hi i (by omega)
theorem toWater (l : List S51) (hl : l.length ≤ 1048576) : Ev (fun k => laws_toWaterS.f k l) (l.map convWater) := by
  refine ⟨l.length + 1, fun k hk => ?_⟩
  show laws_toWaterS.f k l = _
  unfold laws_toWaterS.f
  rw [if_pos (by omega), Int.toNat_natCast, if_pos (by omega)]
  exact toWater_loop l hl l.length 0 _ (by omega) (by simp) (fun i h => by omega) k (by omega)
theorem szWater (l : List S51) (h : l.length ≤ 9223372036854775807) (a : Int) (ha : 0 ≤ a) (ha2 : a ≤ 1048576) : laws_szWaterS.f l a = some (if a < l.length then -1 else a - l.length) := by
  have hw : wrap64 (a - (l.length : Int)) = a - l.length := by unfold wrap64; omega
  unfold laws_szWaterS.f
  rw [hw]
  by_cases c : a < l.length
  · rw [if_pos (by omega), if_pos c]
  · rw [if_neg (by omega), if_neg c]
theorem eqWater_loop (a : List S49) (ha : a.length ≤ 9223372036854775000) (d : Nat) : ∀ (j : Nat), a.length = j + d → ∀ k, d < k → laws_eqWaterS.l0 k a a (j : Int) = some true := by
  induction d with
  | zero =>
    intro j hj k hk
    obtain ⟨k, rfl⟩ : ∃ q, k = q + 1 := ⟨k - 1, by omega⟩
    simp only [laws_eqWaterS.l0]
    rw [if_neg (by omega)]
  | succ d ih =>
    intro j hj k hk
    obtain ⟨k, rfl⟩ : ∃ q, k = q + 1 := ⟨k - 1, by omega⟩
    have hw : wrap64 ((j : Int) + 1) = ((j + 1 : Nat) : Int) := by unfold wrap64; omega
    simp only [laws_eqWaterS.l0, hw, laws_eqWater.f, if_true, Option.bind_some]
    rw [if_pos (by omega), if_pos (by omega), if_pos (by omega)]
    exact ih (j + 1) (by omega) k (by omega)
theorem eqWater (a : List S49) (ha : a.length ≤ 9223372036854775000) : Ev (fun k => laws_eqWaterS.f k a a) true := by
  refine ⟨a.length + 1, fun k hk => ?_⟩
  show laws_eqWaterS.f k a a = _
  unfold laws_eqWaterS.f
  rw [if_pos rfl]
  exact eqWater_loop a ha a.length 0 (by omega) k (by omega)

theorem i8_of {n : Int} (h : (Lit.int .i8 n).wf = true) : -128 ≤ n ∧ n ≤ 127 := by
  simp [Lit.wf, IntKind.min, IntKind.max, IntKind.signed, IntKind.bits] at h
  omega
theorem i16_of {n : Int} (h : (Lit.int .i16 n).wf = true) : -32768 ≤ n ∧ n ≤ 32767 := by
  simp [Lit.wf, IntKind.min, IntKind.max, IntKind.signed, IntKind.bits] at h
  omega
theorem i64_of {n : Int} (h : (Lit.int .i64 n).wf = true) : -9223372036854775808 ≤ n ∧ n ≤ 9223372036854775807 := by
  simp [Lit.wf, IntKind.min, IntKind.max, IntKind.signed, IntKind.bits] at h
  omega
theorem w64 {n : Int} (h : -9223372036854775808 ≤ n ∧ n ≤ 9223372036854775807) : wrap64 n = n := by unfold wrap64; omega
/-- Water i's minute and level. -/
def M (l : List S49) (i : Nat) : Int := (rd_T49 l (i : Int)).f0
def V (l : List S49) (i : Nat) : Int := (rd_T49 l (i : Int)).f1
def Fits (l : List S49) : Prop := ∀ i : Nat, (-32768 ≤ M l i ∧ M l i ≤ 32767) ∧ (-128 ≤ V l i ∧ V l i ≤ 127)
theorem fits_conv (l : List S51) (h : ∀ x ∈ l, (Lit.int .i16 x.f0).wf = true ∧ (Lit.int .i8 x.f1).wf = true) : Fits (l.map convWater) := by
  intro i
  unfold M V
  by_cases hi : i < (l.map convWater).length
  · rw [rdWater hi, List.getElem_map]
    have := h _ (List.getElem_mem (l := l) (n := i) (by simpa using hi))
    exact ⟨i16_of this.1, i8_of this.2⟩
  · have e : rd_T49 (l.map convWater) (i : Int) = z49 := by
      unfold rd_T49
      rw [Int.toNat_natCast, List.getD_eq_getElem?_getD, List.getElem?_eq_none (by omega)]
      rfl
    rw [e]
    exact ⟨by decide, by decide⟩
/-- Water i is right behind those ahead of it. -/
def okAt (l : List S49) (i : Nat) : Prop := (0 ≤ M l i ∧ M l i ≤ 3000) ∧ (0 ≤ V l i ∧ V l i ≤ 100) ∧ (0 < i → M l (i - 1) + 6 ≤ M l i ∧ V l i ≠ V l (i - 1)) ∧ (1 < i → ¬ (V l i > V l (i - 1) ↔ V l (i - 1) > V l (i - 2)))
def Tides (l : List S49) : Prop := (2 ≤ l.length ∧ l.length ≤ 8) ∧ ∀ q, q < l.length → okAt l q
theorem in_some (a b c : Int) : spec_l00In.f a b c = some (decide (b ≤ a ∧ a ≤ c)) := by
  unfold spec_l00In.f
  by_cases h : a ≥ b
  · rw [if_pos h]; simp [h]
  · rw [if_neg h]; simp; omega
theorem EvB.same_of {g f : Nat → Option Bool} {P : Prop} (h : ∀ k, g k = f k) (k : EvB f P) : EvB g P := EvB.congr h k
theorem dec_beq (p q : Prop) [Decidable p] [Decidable q] : ((decide p == decide q) = true) ↔ (p ↔ q) := by
  by_cases hp : p <;> by_cases hq : q <;> simp [hp, hq]

theorem spec_tides_loop (l : List S49) (hf : Fits l) (hl : l.length ≤ 1048576) (d : Nat) : ∀ i : Nat, l.length = i + d → EvB (fun k => spec_l02Tides.l0 k l (i : Int)) ((2 ≤ l.length ∧ l.length ≤ 8) ∧ ∀ q, i ≤ q → q < l.length → okAt l q) := by
  induction d with
  | zero =>
    intro i hi
    have e : ¬ (i : Int) < l.length := by omega
    refine EvB.step (f := fun _ => some (decide (2 ≤ (l.length : Int) ∧ (l.length : Int) ≤ 8))) (fun k => ?_) ⟨_, Ev.now _, ?_⟩
    · simp only [spec_l02Tides.l0]
      rw [if_neg e, in_some]
      rfl
    · rw [decide_eq_true_iff]
      exact ⟨fun h => ⟨by omega, fun q h1 h2 => by omega⟩, fun h => by omega⟩
  | succ d ih =>
    intro i hi
    have hi1 : (i : Int) < l.length := by omega
    obtain ⟨f0, f1⟩ := hf i
    have w0 : wrap64 (rd_T49 l (i : Int)).f0 = M l i := w64 (by unfold M at f0; omega)
    have w1 : wrap64 (rd_T49 l (i : Int)).f1 = V l i := w64 (by unfold V at f1; omega)
    have hw : wrap64 ((i : Int) + 1) = ((i + 1 : Nat) : Int) := w64 (by omega)
    have no : ∀ {P : Prop}, ¬ okAt l i → ¬ (P ∧ ∀ q, i ≤ q → q < l.length → okAt l q) := fun h g => h (g.2 i (Nat.le_refl _) (by omega))
    have next : okAt l i → (((2 ≤ l.length ∧ l.length ≤ 8) ∧ ∀ q, i + 1 ≤ q → q < l.length → okAt l q) ↔ ((2 ≤ l.length ∧ l.length ≤ 8) ∧ ∀ q, i ≤ q → q < l.length → okAt l q)) := fun h => ⟨fun g => ⟨g.1, fun q h1 h2 => by
      by_cases e : q = i
      · rw [e]; exact h
      · exact g.2 q (by omega) h2⟩, fun g => ⟨g.1, fun q h1 h2 => g.2 q (by omega) h2⟩⟩
    by_cases a0 : 0 ≤ M l i ∧ M l i ≤ 3000
    · by_cases a1 : 0 ≤ V l i ∧ V l i ≤ 100
      · refine EvB.step (f := fun k => spec_l02Tides.j1 k l (i : Int) false (M l i) (V l i)) (fun k => ?_) ?_
        · simp only [spec_l02Tides.l0, w0, w1, in_some, Option.bind_some]
          rw [if_pos hi1, if_pos (by omega), if_pos (decide_eq_true a0), decide_eq_true a1]
          rfl
        · have wm : wrap64 (M l i) = M l i := w64 (by omega)
          by_cases p0 : 0 < i
          · have hp : wrap64 ((i : Int) - 1) = ((i - 1 : Nat) : Int) := by rw [w64 (by omega)]; omega
            obtain ⟨g0, g1⟩ := hf (i - 1)
            have v0 : wrap64 (rd_T49 l ((i - 1 : Nat) : Int)).f0 = M l (i - 1) := w64 (by unfold M at g0; omega)
            have v6 : wrap64 (M l (i - 1) + 6) = M l (i - 1) + 6 := w64 (by omega)
            by_cases b0 : M l i < M l (i - 1) + 6
            · refine EvB.step (f := fun k => spec_l02Tides.j2 k l (i : Int) true (M l i) (V l i)) (fun k => ?_) (EvB.step (f := fun _ => some false) (fun k => by simp [spec_l02Tides.j2]) (EvB.no (no fun h => by have := (h.2.2.1 p0).1; omega)))
              simp only [spec_l02Tides.j1, hp, wm, v0, v6, Bool.false_eq_true, if_false]
              rw [if_pos (by omega), if_pos (by omega), if_pos (by omega), if_pos b0]
            · by_cases b1 : V l i = V l (i - 1)
              · have e1 : (V l i == (rd_T49 l ((i - 1 : Nat) : Int)).f1) = true := beq_iff_eq.2 b1
                refine EvB.step (f := fun k => spec_l02Tides.j2 k l (i : Int) true (M l i) (V l i)) (fun k => ?_) (EvB.step (f := fun _ => some false) (fun k => by simp [spec_l02Tides.j2]) (EvB.no (no fun h => (h.2.2.1 p0).2 b1)))
                simp only [spec_l02Tides.j1, hp, wm, v0, v6, Bool.false_eq_true, if_false]
                rw [if_pos (by omega), if_pos (by omega), if_pos (by omega), if_neg b0, e1]
              · have e1 : (V l i == (rd_T49 l ((i - 1 : Nat) : Int)).f1) = false := beq_eq_false_iff_ne.2 b1
                refine EvB.step (f := fun k => spec_l02Tides.j2 k l (i : Int) false (M l i) (V l i)) (fun k => ?_) ?_
                · simp only [spec_l02Tides.j1, hp, wm, v0, v6, Bool.false_eq_true, if_false]
                  rw [if_pos (by omega), if_pos (by omega), if_pos (by omega), if_neg b0, e1]
                · by_cases p1 : 1 < i
                  · have hp2 : wrap64 ((i : Int) - 2) = ((i - 2 : Nat) : Int) := by rw [w64 (by omega)]; omega
                    by_cases c0 : V l i > V l (i - 1) ↔ V l (i - 1) > V l (i - 2)
                    · refine EvB.step (f := fun _ => some false) (fun k => ?_) (EvB.no (no fun h => h.2.2.2 p1 c0))
                      simp only [spec_l02Tides.j2, hp, hp2, hw, Bool.false_eq_true, if_false]
                      rw [if_pos (by omega), if_pos (by omega), if_pos (by omega), if_pos (by omega), if_pos (by omega), if_pos ((dec_beq (V l i > (rd_T49 l ((i - 1 : Nat) : Int)).f1) ((rd_T49 l ((i - 1 : Nat) : Int)).f1 > (rd_T49 l ((i - 2 : Nat) : Int)).f1)).2 c0)]
                    · refine EvB.step (fun k => ?_) ((ih (i + 1) (by omega)).iff (next ⟨a0, a1, fun _ => ⟨by omega, b1⟩, fun _ => c0⟩))
                      simp only [spec_l02Tides.j2, hp, hp2, hw, Bool.false_eq_true, if_false]
                      rw [if_pos (by omega), if_pos (by omega), if_pos (by omega), if_pos (by omega), if_pos (by omega), if_neg (fun h => c0 ((dec_beq (V l i > (rd_T49 l ((i - 1 : Nat) : Int)).f1) ((rd_T49 l ((i - 1 : Nat) : Int)).f1 > (rd_T49 l ((i - 2 : Nat) : Int)).f1)).1 h))]
                  · refine EvB.step (fun k => ?_) ((ih (i + 1) (by omega)).iff (next ⟨a0, a1, fun _ => ⟨by omega, b1⟩, fun h => absurd h p1⟩))
                    simp only [spec_l02Tides.j2, hw, Bool.false_eq_true, if_false]
                    rw [if_neg (by omega)]
          · refine EvB.step (f := fun k => spec_l02Tides.j2 k l (i : Int) false (M l i) (V l i)) (fun k => ?_) (EvB.step (fun k => ?_) ((ih (i + 1) (by omega)).iff (next ⟨a0, a1, fun h => absurd h p0, fun h => by omega⟩)))
            · simp only [spec_l02Tides.j1, Bool.false_eq_true, if_false]
              rw [if_neg (by omega)]
            · simp only [spec_l02Tides.j2, hw, Bool.false_eq_true, if_false]
              rw [if_neg (by omega)]
      · refine EvB.step (f := fun k => spec_l02Tides.j1 k l (i : Int) true (M l i) (V l i)) (fun k => ?_) (EvB.step (f := fun _ => some false) (fun k => by simp [spec_l02Tides.j1]) (EvB.no (no fun h => a1 h.2.1)))
        simp only [spec_l02Tides.l0, w0, w1, in_some, Option.bind_some]
        rw [if_pos hi1, if_pos (by omega), if_pos (decide_eq_true a0), decide_eq_false a1]
        rfl
    · refine EvB.step (f := fun k => spec_l02Tides.j1 k l (i : Int) true (M l i) (V l i)) (fun k => ?_) (EvB.step (f := fun _ => some false) (fun k => by simp [spec_l02Tides.j1]) (EvB.no (no fun h => a0 h.1)))
      simp only [spec_l02Tides.l0, w0, in_some, Option.bind_some]
      rw [if_pos hi1, if_pos (by omega), if_neg (by simpa using a0)]
      rfl

theorem spec_tides (l : List S49) (hf : Fits l) (hl : l.length ≤ 1048576) : EvB (fun k => spec_l02Tides.f k l) (Tides l) :=
  (spec_tides_loop l hf hl l.length 0 (by omega)).iff ⟨fun h => ⟨h.1, fun q hq => h.2 q (Nat.zero_le _) hq⟩, fun h => ⟨h.1, fun q _ hq => h.2 q hq⟩⟩

theorem impl_tides_loop (l : List S49) (hf : Fits l) (hl : l.length ≤ 1048576) (d : Nat) : ∀ i : Nat, l.length = i + d → (∀ q, q < i → okAt l q) → EvB (fun k => impl_ValidTides.l0 k l l l.length (i : Int)) (∀ q, q < l.length → okAt l q) := by
  induction d with
  | zero =>
    intro i hi ho
    have e : ¬ (i : Int) < l.length := by omega
    refine EvB.step (f := fun _ => some true) (fun k => ?_) (EvB.yes fun q hq => ho q (by omega))
    simp only [impl_ValidTides.l0]
    rw [if_neg e]
  | succ d ih =>
    intro i hi ho
    have hi1 : (i : Int) < l.length := by omega
    obtain ⟨f0, f1⟩ := hf i
    have hw : wrap64 ((i : Int) + 1) = ((i + 1 : Nat) : Int) := w64 (by omega)
    have no : ¬ okAt l i → ¬ ∀ q, q < l.length → okAt l q := fun h g => h (g i (by omega))
    have next : okAt l i → EvB (fun k => impl_ValidTides.l0 k l l l.length ((i + 1 : Nat) : Int)) (∀ q, q < l.length → okAt l q) := fun h => ih (i + 1) (by omega) fun q hq => by
      by_cases e : q = i
      · rw [e]; exact h
      · exact ho q (by omega)
    have bad : ¬ okAt l i → EvB (fun k => impl_ValidTides.j2 k l (i : Int) l l.length (i : Int) true (M l i) (V l i)) (∀ q, q < l.length → okAt l q) := fun h =>
      EvB.step (f := fun _ => some false) (fun k => by simp [impl_ValidTides.j2]) (EvB.no (no h))
    by_cases a0 : 0 ≤ M l i ∧ M l i ≤ 3000
    · by_cases a1 : 0 ≤ V l i ∧ V l i ≤ 100
      · refine EvB.step (f := fun k => impl_ValidTides.j2 k l (i : Int) l l.length (i : Int) false (M l i) (V l i)) (fun k => ?_) ?_
        · simp only [impl_ValidTides.l0]
          have q0 : ¬ (rd_T49 l (i : Int)).f0 < 0 := by unfold M at a0; omega
          have q1 : ¬ (rd_T49 l (i : Int)).f0 > 3000 := by unfold M at a0; omega
          have q2 : ¬ (rd_T49 l (i : Int)).f1 < 0 := by unfold V at a1; omega
          have q3 : decide ((rd_T49 l (i : Int)).f1 > 100) = false := decide_eq_false (by unfold V at a1; omega)
          rw [if_pos hi1, if_pos (by omega), if_pos hi1, if_neg q0, if_neg q1, if_neg q2, q3]
          rfl
        · by_cases p0 : 0 < i
          · have hp : wrap64 ((i : Int) - 1) = ((i - 1 : Nat) : Int) := by rw [w64 (by omega)]; omega
            have op := (ho (i - 1) (by omega)).1
            have v6 : IntKind.i16.wrap ((rd_T49 l ((i - 1 : Nat) : Int)).f0 + 6) = M l (i - 1) + 6 := by
              show IntKind.i16.wrap (M l (i - 1) + 6) = _
              simp [IntKind.wrap, IntKind.signed, IntKind.bits]
              omega
            by_cases b0 : M l i < M l (i - 1) + 6
            · refine EvB.step (f := fun _ => some false) (fun k => ?_) (EvB.no (no fun h => by have := (h.2.2.1 p0).1; omega))
              simp only [impl_ValidTides.j2, hp, v6, Bool.false_eq_true, if_false]
              rw [if_neg (by omega), if_pos (by omega), if_pos (by omega), if_pos b0]
            · by_cases b1 : V l i = V l (i - 1)
              · refine EvB.step (f := fun _ => some false) (fun k => ?_) (EvB.no (no fun h => (h.2.2.1 p0).2 b1))
                simp only [impl_ValidTides.j2, hp, v6, Bool.false_eq_true, if_false]
                rw [if_neg (by omega), if_pos (by omega), if_pos (by omega), if_neg b0, if_pos (show V l i = (rd_T49 l ((i - 1 : Nat) : Int)).f1 from b1)]
              · by_cases p1 : 1 < i
                · have hp2 : wrap64 ((i : Int) - 2) = ((i - 2 : Nat) : Int) := by rw [w64 (by omega)]; omega
                  by_cases c0 : V l i > V l (i - 1) ↔ V l (i - 1) > V l (i - 2)
                  · refine EvB.step (f := fun _ => some false) (fun k => ?_) (EvB.no (no fun h => h.2.2.2 p1 c0))
                    simp only [impl_ValidTides.j2, hp, hp2, hw, v6, Bool.false_eq_true, if_false]
                    rw [if_neg (by omega), if_pos (by omega), if_pos (by omega), if_neg b0, if_neg (show ¬ V l i = (rd_T49 l ((i - 1 : Nat) : Int)).f1 from b1), if_pos (by omega), if_pos (by omega), if_pos (by omega), if_pos ((dec_beq (V l i > (rd_T49 l ((i - 1 : Nat) : Int)).f1) ((rd_T49 l ((i - 1 : Nat) : Int)).f1 > (rd_T49 l ((i - 2 : Nat) : Int)).f1)).2 c0)]
                  · refine EvB.step (fun k => ?_) (next ⟨a0, a1, fun _ => ⟨by omega, b1⟩, fun _ => c0⟩)
                    simp only [impl_ValidTides.j2, hp, hp2, hw, v6, Bool.false_eq_true, if_false]
                    rw [if_neg (by omega), if_pos (by omega), if_pos (by omega), if_neg b0, if_neg (show ¬ V l i = (rd_T49 l ((i - 1 : Nat) : Int)).f1 from b1), if_pos (by omega), if_pos (by omega), if_pos (by omega), if_neg (fun h => c0 ((dec_beq (V l i > (rd_T49 l ((i - 1 : Nat) : Int)).f1) ((rd_T49 l ((i - 1 : Nat) : Int)).f1 > (rd_T49 l ((i - 2 : Nat) : Int)).f1)).1 h))]
                · refine EvB.step (fun k => ?_) (next ⟨a0, a1, fun _ => ⟨by omega, b1⟩, fun h => absurd h p1⟩)
                  simp only [impl_ValidTides.j2, hp, hw, v6, Bool.false_eq_true, if_false]
                  rw [if_neg (by omega), if_pos (by omega), if_pos (by omega), if_neg b0, if_neg (show ¬ V l i = (rd_T49 l ((i - 1 : Nat) : Int)).f1 from b1), if_neg (by omega)]
          · refine EvB.step (fun k => ?_) (next ⟨a0, a1, fun h => absurd h p0, fun h => by omega⟩)
            simp only [impl_ValidTides.j2, hw, Bool.false_eq_true, if_false]
            rw [if_pos (by omega)]
      · by_cases a2 : V l i < 0
        · refine EvB.step (fun k => ?_) (bad fun h => a1 h.2.1)
          simp only [impl_ValidTides.l0]
          have q0 : ¬ (rd_T49 l (i : Int)).f0 < 0 := by unfold M at a0; omega
          have q1 : ¬ (rd_T49 l (i : Int)).f0 > 3000 := by unfold M at a0; omega
          rw [if_pos hi1, if_pos (by omega), if_pos hi1, if_neg q0, if_neg q1, if_pos (show (rd_T49 l (i : Int)).f1 < 0 from a2)]
          rfl
        · refine EvB.step (fun k => ?_) (bad fun h => a1 h.2.1)
          simp only [impl_ValidTides.l0]
          have q0 : ¬ (rd_T49 l (i : Int)).f0 < 0 := by unfold M at a0; omega
          have q1 : ¬ (rd_T49 l (i : Int)).f0 > 3000 := by unfold M at a0; omega
          have q3 : decide ((rd_T49 l (i : Int)).f1 > 100) = true := decide_eq_true (by unfold V at a1 a2; omega)
          rw [if_pos hi1, if_pos (by omega), if_pos hi1, if_neg q0, if_neg q1, if_neg (show ¬ (rd_T49 l (i : Int)).f1 < 0 from a2), q3]
          rfl
    · by_cases a2 : M l i < 0
      · refine EvB.step (fun k => ?_) (bad fun h => a0 h.1)
        simp only [impl_ValidTides.l0]
        rw [if_pos hi1, if_pos (by omega), if_pos hi1, if_pos (show (rd_T49 l (i : Int)).f0 < 0 from a2)]
        rfl
      · refine EvB.step (fun k => ?_) (bad fun h => a0 h.1)
        simp only [impl_ValidTides.l0]
        have q1 : (rd_T49 l (i : Int)).f0 > 3000 := by unfold M at a0 a2; omega
        rw [if_pos hi1, if_pos (by omega), if_pos hi1, if_neg (show ¬ (rd_T49 l (i : Int)).f0 < 0 from a2), if_pos q1]
        rfl

theorem impl_tides (l : List S49) (hf : Fits l) (hl : l.length ≤ 1048576) : EvB (fun k => impl_ValidTides.f k l) (Tides l) := by
  by_cases h2 : 2 ≤ l.length
  · by_cases h8 : l.length ≤ 8
    · refine EvB.congr (f := fun k => impl_ValidTides.j0 k l false) (fun k => ?_) (EvB.step (f := fun k => impl_ValidTides.l0 k l l l.length ((0 : Nat) : Int)) (fun k => by simp [impl_ValidTides.j0]) ((impl_tides_loop l hf hl l.length 0 (by omega) (fun q hq => by omega)).iff ⟨fun h => ⟨⟨h2, h8⟩, h⟩, fun h => h.2⟩))
      unfold impl_ValidTides.f
      rw [if_neg (by omega), decide_eq_false (by omega)]
    · refine EvB.congr (f := fun k => impl_ValidTides.j0 k l true) (fun k => ?_) (EvB.step (f := fun _ => some false) (fun k => by simp [impl_ValidTides.j0]) (EvB.no fun h => h8 h.1.2))
      unfold impl_ValidTides.f
      rw [if_neg (by omega), decide_eq_true (by omega)]
  · refine EvB.congr (f := fun k => impl_ValidTides.j0 k l true) (fun k => ?_) (EvB.step (f := fun _ => some false) (fun k => by simp [impl_ValidTides.j0]) (EvB.no fun h => h2 h.1.1))
    unfold impl_ValidTides.f
    rw [if_pos (by omega)]

end W
open W
def FnExactValidTidesPure : Prop := ∀ (l0 : List S51), l0.length ≤ 9223372036854775807 → (∀ x ∈ l0, (Lit.int .i16 x.f0).wf = true ∧ (Lit.int .i8 x.f1).wf = true) → ∃ k, laws_FnExactValidTides.f k l0 = some true


theorem FnExactValidTides : FnExactValidTidesPure := by
  intro l hl hw
  refine Ev.rounds ?_
  have hsz := szWater l hl 1048576 (by omega) (by omega)
  by_cases hlen : (1048576 : Int) < l.length
  · refine Ev.congr (f := fun _ => some true) (fun k => ?_) (Ev.now _)
    unfold laws_FnExactValidTides.f
    rw [hsz, if_pos hlen]
    rfl
  · have hl2 : l.length ≤ 1048576 := by omega
    have ht := toWater l hl2
    have hl3 : (l.map convWater).length ≤ 1048576 := by rw [List.length_map]; exact hl2
    obtain ⟨b, h1, h2, _⟩ := EvB.same (spec_tides _ (fits_conv l hw) hl3) (impl_tides _ (fits_conv l hw) hl3)
    have el := eqWater (l.map convWater) (by omega)
    simp only [laws_FnExactValidTides.f, spec_ValidTides.f, hsz, if_neg hlen, Option.bind_some, if_neg (show ¬ ((1048576 : Int) - l.length < 0) from by omega)]
    refine Ev.bind ht (Ev.bind (Ev.bind h1 (Ev.now _)) (Ev.bind ht (Ev.bind h2 ?_)))
    simp only [bne_self_eq_false, Bool.false_eq_true, if_false]
    refine Ev.bind ht (Ev.bind el ?_)
    exact Ev.now _

end Go.Proofs.Ytlompodcakghjaa.Pure
