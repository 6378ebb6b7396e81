/- SameTides of the program answers what the reference's answers, for all arguments. Conditions: none. -/
import Derived.Test.YtlompodcakghjaaPFnExactSameTidesx3
namespace Go.Proofs.Ytlompodcakghjaa.Pure
open Go.RowKit Go.Proofs.Ytlompodcakghjaa.PFnExactSameTides Go.Proofs.YtlompodcakghjaaW.PrintWords Go.Proofs.YtlompodcakghjaaW.PrintLast

namespace W
/-- From some number of rounds on it answers a truth value: whether P holds. -/
def EvB (g : Nat → Option Bool) (P : Prop) : Prop := ∃ b, Ev g b ∧ (b = true ↔ P)
theorem EvB.iff {g : Nat → Option Bool} {P Q : Prop} (h : EvB g P) (e : P ↔ Q) : EvB g Q := by
  obtain ⟨b, h1, h2⟩ := h
  exact ⟨b, h1, h2.trans e⟩
theorem EvB.step {g f : Nat → Option Bool} {P : Prop} (h : ∀ k, g (k + 1) = f k) (k : EvB f P) : EvB g P := by
  obtain ⟨b, h1, h2⟩ := k
  exact ⟨b, Ev.step h h1, h2⟩
theorem EvB.congr {g f : Nat → Option Bool} {P : Prop} (h : ∀ k, g k = f k) (k : EvB f P) : EvB g P := by
  obtain ⟨b, h1, h2⟩ := k
  exact ⟨b, Ev.congr h h1, h2⟩
theorem EvB.yes {P : Prop} (h : P) : EvB (fun _ => some true) P := ⟨true, Ev.now _, by simp [h]⟩
theorem EvB.no {P : Prop} (h : ¬ P) : EvB (fun _ => some false) P := ⟨false, Ev.now _, by simp [h]⟩
theorem EvB.bind {α : Type} {g : Nat → Option α} {f : Nat → α → Option Bool} {a : α} {P : Prop} (h : Ev g a) (k : EvB (fun n => f n a) P) : EvB (fun n => (g n).bind (f n)) P := by
  obtain ⟨b, h1, h2⟩ := k
  exact ⟨b, Ev.bind h h1, h2⟩
theorem EvB.same {g f : Nat → Option Bool} {P : Prop} (h : EvB g P) (k : EvB f P) : ∃ b, Ev g b ∧ Ev f b ∧ (b = true ↔ P) := by
  obtain ⟨b, h1, h2⟩ := h
  obtain ⟨c, h3, h4⟩ := k
  have e : c = b := by rw [Bool.eq_iff_iff, h4, h2]
  subst e
  exact ⟨c, h1, h3, h2⟩

/-! ### Water -/
theorem rdWater {xs : List S49} {j : Nat} (h : j < xs.length) : rd_T49 xs (j : Int) = xs[j] := by
  unfold rd_T49
  rw [Int.toNat_natCast, List.getD_eq_getElem?_getD, List.getElem?_eq_getElem h]
  rfl
theorem rdWater' {xs : List S51} {j : Nat} (h : j < xs.length) : rd_T51 xs (j : Int) = xs[j] := by
  unfold rd_T51
  rw [Int.toNat_natCast, List.getD_eq_getElem?_getD, List.getElem?_eq_getElem h]
  rfl
def convWater (x : S51) : S49 := ⟨x.f0, x.f1⟩
theorem toWater_loop (l : List S51) (hl : l.length ≤ 1048576) (d : Nat) : ∀ (j : Nat) (x : List S49), l.length = j + d → x.length = l.length → (∀ i, i < j → x[i]? = (l[i]?).map convWater) → ∀ k, d < k → laws_toWaterS.l0 k l x (j : Int) = some (l.map convWater) := by
  induction d with
  | zero =>
    intro j x hj hx hi k hk
    obtain ⟨k, rfl⟩ : ∃ q, k = q + 1 := ⟨k - 1, by omega⟩
    simp only [laws_toWaterS.l0]
    rw [if_neg (by omega)]
    refine congrArg some (List.ext_getElem? fun i => ?_)
    rw [List.getElem?_map]
    by_cases h : i < j
    · exact hi i h
    · rw [List.getElem?_eq_none (by omega), List.getElem?_eq_none (by omega)]
      rfl
  | succ d ih =>
    intro j x hj hx hi k hk
    obtain ⟨k, rfl⟩ : ∃ q, k = q + 1 := ⟨k - 1, by omega⟩
    have hlt : j < l.length := by omega
    have hw : wrap64 ((j : Int) + 1) = ((j + 1 : Nat) : Int) := by unfold wrap64; omega
    simp only [laws_toWaterS.l0, hw]
    rw [if_pos (by omega), if_pos (by omega), rdWater' hlt]
    simp only [laws_toWater.f, Option.bind_some]
    rw [if_pos (by omega), Int.toNat_natCast]
    refine ih (j + 1) _ (by omega) (by rw [List.length_set]; exact hx) (fun i h => ?_) k (by omega)
    by_cases e : i = j
    · subst e
      rw [List.getElem?_set_self (by omega), List.getElem?_eq_getElem hlt]
      rfl
    · rw [List.getElem?_set_ne (by omega)]
      exact hi i (by omega)
theorem toWater (l : List S51) (hl : l.length ≤ 1048576) : Ev (fun k => laws_toWaterS.f k l) (l.map convWater) := by
  refine ⟨l.length + 1, fun k hk => ?_⟩
  show laws_toWaterS.f k l = _
  unfold laws_toWaterS.f
  rw [if_pos (by omega), Int.toNat_natCast, if_pos (by omega)]
  exact toWater_loop l hl l.length 0 _ (by omega) (by simp) (fun i h => by omega) k (by omega)
theorem szWater (l : List S51) (h : l.length ≤ 9223372036854775807) (a : Int) (ha : 0 ≤ a) (ha2 : a ≤ 1048576) : laws_szWaterS.f l a = some (if a < l.length then -1 else a - l.length) := by
  have hw : wrap64 (a - (l.length : Int)) = a - l.length := by unfold wrap64; omega
  unfold laws_szWaterS.f
  rw [hw]
  by_cases c : a < l.length
  · rw [if_pos (by omega), if_pos c]
  · rw [if_neg (by omega), if_neg c]
theorem eqWater_loop (a : List S49) (ha : a.length ≤ 9223372036854775000) (d : Nat) : ∀ (j : Nat), a.length = j + d → ∀ k, d < k → laws_eqWaterS.l0 k a a (j : Int) = some true := by
  induction d with
  | zero =>
    intro j hj k hk
    obtain ⟨k, rfl⟩ : ∃ q, k = q + 1 := ⟨k - 1, by omega⟩
    simp only [laws_eqWaterS.l0]
    rw [if_neg (by omega)]
  | succ d ih =>
    intro j hj k hk
    obtain ⟨k, rfl⟩ : ∃ q, k = q + 1 := ⟨k - 1, by omega⟩
    have hw : wrap64 ((j : Int) + 1) = ((j + 1 : Nat) : Int) := by unfold wrap64; omega
    simp only [laws_eqWaterS.l0, hw, laws_eqWater.f, if_true, Option.bind_some]
    rw [if_pos (by omega), if_pos (by omega), if_pos (by omega)]
    exact ih (j + 1) (by omega) k (by omega)
theorem eqWater (a : List S49) (ha : a.length ≤ 9223372036854775000) : Ev (fun k => laws_eqWaterS.f k a a) true := by
  refine ⟨a.length + 1, fun k hk => ?_⟩
  show laws_eqWaterS.f k a a = _
  unfold laws_eqWaterS.f
  rw [if_pos rfl]
  exact eqWater_loop a ha a.length 0 (by omega) k (by omega)


theorem S49_ext {x y : S49} : x = y ↔ x.f0 = y.f0 ∧ x.f1 = y.f1 := by
  cases x; cases y; simp
theorem ne_bool (x y : S49) : ((!(x.f0 == y.f0) || (!(x.f1 == y.f1))) = true) ↔ x ≠ y := by
  rw [ne_eq, S49_ext]
  by_cases h0 : x.f0 = y.f0 <;> by_cases h1 : x.f1 = y.f1 <;> simp [h0, h1]
theorem spec_same (a b : List S49) (hl : a.length ≤ 1048576) (he : a.length = b.length) (d : Nat) : ∀ i : Nat, a.length = i + d → EvB (fun k => spec_SameTides.l0 k a b (i : Int)) (a.drop i = b.drop i) := by
  induction d with
  | zero =>
    intro i hi
    have e : ¬ (i : Int) < a.length := by omega
    refine EvB.step (f := fun _ => some true) (fun k => ?_) (EvB.yes (by rw [List.drop_of_length_le (by omega), List.drop_of_length_le (by omega)]))
    simp only [spec_SameTides.l0]
    rw [if_neg e]
  | succ d ih =>
    intro i hi
    have ha : i < a.length := by omega
    have hb : i < b.length := by omega
    have hw : wrap64 ((i : Int) + 1) = ((i + 1 : Nat) : Int) := by unfold wrap64; omega
    by_cases e : a[i] = b[i]
    · refine EvB.step (fun k => ?_) ((ih (i + 1) (by omega)).iff ⟨fun h => ?_, fun h => ?_⟩)
      · simp only [spec_SameTides.l0, rdWater ha, rdWater hb, hw]
        rw [if_pos (by omega), if_pos (by omega), if_pos (by omega), if_neg (by rw [ne_bool]; exact fun h => h e)]
      · rw [List.drop_eq_getElem_cons ha, List.drop_eq_getElem_cons hb, e, h]
      · rw [List.drop_eq_getElem_cons ha, List.drop_eq_getElem_cons hb] at h
        injection h
    · refine EvB.step (f := fun _ => some false) (fun k => ?_) (EvB.no fun h => ?_)
      · simp only [spec_SameTides.l0, rdWater ha, rdWater hb, hw]
        rw [if_pos (by omega), if_pos (by omega), if_pos (by omega), if_pos (by rw [ne_bool]; exact e)]
      · rw [List.drop_eq_getElem_cons ha, List.drop_eq_getElem_cons hb] at h
        injection h with h _
        exact e h
theorem spec_same_all (a b : List S49) (hl : a.length ≤ 1048576) : EvB (fun k => spec_SameTides.f k a b) (a = b) := by
  by_cases he : a.length = b.length
  · refine EvB.congr (f := fun k => spec_SameTides.l0 k a b ((0 : Nat) : Int)) (fun k => ?_) ((spec_same a b hl he a.length 0 (by omega)).iff (by simp))
    unfold spec_SameTides.f
    rw [if_pos (by omega)]
    rfl
  · refine EvB.congr (f := fun _ => some false) (fun k => ?_) (EvB.no fun h => he (by rw [h]))
    unfold spec_SameTides.f
    rw [if_neg (by omega)]

theorem impl_same (a b : List S49) (hl : a.length ≤ 1048576) (he : a.length = b.length) (d : Nat) : ∀ i : Nat, a.length = i + d → EvB (fun k => impl_Water.l0 k a b a.length (i : Int)) (a.drop i = b.drop i) := by
  induction d with
  | zero =>
    intro i hi
    have e : ¬ (i : Int) < a.length := by omega
    refine EvB.step (f := fun _ => some true) (fun k => ?_) (EvB.yes (by rw [List.drop_of_length_le (by omega), List.drop_of_length_le (by omega)]))
    simp only [impl_Water.l0]
    rw [if_neg e]
  | succ d ih =>
    intro i hi
    have ha : i < a.length := by omega
    have hb : i < b.length := by omega
    have hw : wrap64 ((i : Int) + 1) = ((i + 1 : Nat) : Int) := by unfold wrap64; omega
    by_cases e : a[i] = b[i]
    · refine EvB.step (fun k => ?_) ((ih (i + 1) (by omega)).iff ⟨fun h => ?_, fun h => ?_⟩)
      · simp only [impl_Water.l0, rdWater ha, rdWater hb, hw]
        rw [if_pos (by omega), if_pos (by omega), if_pos (by omega), if_pos (by omega), if_neg (by rw [ne_bool]; exact fun h => h e)]
      · rw [List.drop_eq_getElem_cons ha, List.drop_eq_getElem_cons hb, e, h]
      · rw [List.drop_eq_getElem_cons ha, List.drop_eq_getElem_cons hb] at h
        injection h
    · refine EvB.step (f := fun _ => some false) (fun k => ?_) (EvB.no fun h => ?_)
      · simp only [impl_Water.l0, rdWater ha, rdWater hb, hw]
        rw [if_pos (by omega), if_pos (by omega), if_pos (by omega), if_pos (by omega), if_pos (by rw [ne_bool]; exact e)]
      · rw [List.drop_eq_getElem_cons ha, List.drop_eq_getElem_cons hb] at h
        injection h with h _
        exact e h
theorem impl_same_all (a b : List S49) (hl : a.length ≤ 1048576) : EvB (fun k => impl_Water.f k a b) (a = b) := by
  by_cases he : a.length = b.length
  · refine EvB.congr (f := fun k => impl_Water.l0 k a b a.length ((0 : Nat) : Int)) (fun k => ?_) ((impl_same a b hl he a.length 0 (by omega)).iff (by simp))
    unfold impl_Water.f
    rw [if_pos (by omega)]
    rfl
  · refine EvB.congr (f := fun _ => some false) (fun k => ?_) (EvB.no fun h => he (by rw [h]))
    unfold impl_Water.f
    rw [if_neg (by omega)]

end W
open W
def FnExactSameTidesPure : Prop := ∀ (l0 : List S51) (l1 : List S51), l0.length ≤ 9223372036854775807 → (∀ x ∈ l0, (Lit.int .i16 x.f0).wf = true ∧ (Lit.int .i8 x.f1).wf = true) → l1.length ≤ 9223372036854775807 → (∀ x ∈ l1, (Lit.int .i16 x.f0).wf = true ∧ (Lit.int .i8 x.f1).wf = true) → ∃ k, laws_FnExactSameTides.f k l0 l1 = some true


theorem FnExactSameTides : FnExactSameTidesPure := by
  intro a b ha _ hb _
  refine Ev.rounds ?_
  have hsz := szWater a ha 1048576 (by omega) (by omega)
  by_cases hlen : (1048576 : Int) < a.length
  · refine Ev.congr (f := fun _ => some true) (fun k => ?_) (Ev.now _)
    unfold laws_FnExactSameTides.f
    rw [hsz, if_pos hlen]
    rfl
  · have hsz2 := szWater b hb (1048576 - a.length) (by omega) (by omega)
    by_cases hlen2 : (1048576 : Int) - a.length < b.length
    · refine Ev.congr (f := fun _ => some true) (fun k => ?_) (Ev.now _)
      unfold laws_FnExactSameTides.f
      rw [hsz, if_neg hlen]
      simp only [Option.bind_some]
      rw [if_neg (show ¬ ((1048576 : Int) - a.length < 0) from by omega), hsz2, if_pos hlen2]
      rfl
    · have hl2 : a.length ≤ 1048576 := by omega
      have hm2 : b.length ≤ 1048576 := by omega
      have hl3 : (a.map convWater).length ≤ 1048576 := by rw [List.length_map]; exact hl2
      have hm3 : (b.map convWater).length ≤ 1048576 := by rw [List.length_map]; exact hm2
      have ta := toWater a hl2
      have tb := toWater b hm2
      obtain ⟨c, h1, h2, _⟩ := EvB.same (spec_same_all (a.map convWater) (b.map convWater) hl3) (impl_same_all (a.map convWater) (b.map convWater) hl3)
      have ea := eqWater (a.map convWater) (by omega)
      have eb := eqWater (b.map convWater) (by omega)
      simp only [laws_FnExactSameTides.f, impl_SameTides.f, hsz, if_neg hlen, Option.bind_some, if_neg (show ¬ ((1048576 : Int) - a.length < 0) from by omega), hsz2, if_neg hlen2, if_neg (show ¬ ((1048576 : Int) - a.length - b.length < 0) from by omega)]
      refine Ev.bind ta (Ev.bind tb (Ev.bind h1 (Ev.bind ta (Ev.bind tb (Ev.bind (Ev.bind h2 (Ev.now _)) ?_)))))
      simp only [bne_self_eq_false, Bool.false_eq_true, if_false]
      refine Ev.bind ta (Ev.bind ea ?_)
      simp only [if_true]
      refine Ev.bind tb (Ev.bind eb ?_)
      exact Ev.now _

end Go.Proofs.Ytlompodcakghjaa.Pure
